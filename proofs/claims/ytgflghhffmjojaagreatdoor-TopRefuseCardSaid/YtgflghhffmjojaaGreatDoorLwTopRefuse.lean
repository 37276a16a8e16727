/- The law TopRefuse returns true, for every memory it may be handed; what is told of its code, part by part. No conditions. -/
import Derived.Test.YtgflghhffmjojaaGreatDoorTie
import Derived.Test.YtgflghhffmjojaaGreatDoorCards
import Derived.Test.YtgflghhffmjojaaGreatDoorTabs
import Derived.Test.YtgflghhffmjojaaGreatDoorArg
import Derived.Test.YtgflghhffmjojaaGreatDoorHeTopRefuse
import Derived.Test.YtgflghhffmjojaaGreatDoorSaysTopRefuse
import Derived.WalkKit
import Derived.ProofKit
import Derived.Lay
import Derived.LaidOnce
import Derived.SevenTiedAt
set_option linter.unusedVariables false
namespace Go.Proofs.YtgflghhffmjojaaGreatDoor.topRefuse
open Go Go.ChangeShapes Go.WideShapes Go.ChangeAt Go.RowKit
theorem own : ownKnob Tryz.prog.godebug = none := by kernel_rfl
theorem laidOut : laidOutB Tryz.prog = true := by kernel_rfl
set_option maxRecDepth 100000 in
theorem lifted (os : Os) (started : os.Started) (H : Type) (enc : TypeId × Value → H) :
    ReturnsInHanded {} Tryz.checked os 10 .any (fun w args => (Rows.topRefuseSpec.pre enc Tryz.prog Tryz.f10 [] false w args ∧ laidMetH Tryz.prog laid2 w) ∧ sizedMet enc Tryz.prog Tryz.f10 (OpenSpec.ofChange Rows.topRefuseSpec) false w args)
      (Rows.topRefuseSpec.post enc Tryz.prog Tryz.f10 false true false false) := by
  refine returnsInHanded_of_change_and (C := Tryz.checked) (X := fun w _ => laidMetH Tryz.prog laid2 w) (fun _ _ _ hh h => h.of_heap hh) own started (by kernel_rfl) Tryz.func10
    (ChangeSpec.witness_shaped (enc := enc) (C := Tryz.checked) (os := os) (X := fun w _ => laidMetH Tryz.prog laid2 w) false (World.laidAll Tryz.prog os laid2) #[.agg #[.int .i64 0, .int .i64 0, .int .i64 0, .int .i64 0, .int .i64 0], .int .i64 0] 8 (World.laidAll_os _ _ _)
      (World.shaped_of_ZipB (by kernel_rfl) (by kernel_rfl)) (by kernel_rfl) (by kernel_rfl) (by kernel_rfl)
      (by rw [MakeChecks.laidMetH_plain _ _ _ (by kernel_rfl)]; exact laidMet_laidAll _ (by kernel_rfl) (by kernel_rfl))) ?_
  intro W base args ds gs before hval0 hW _ _ hL _
  have hW' := hW
  obtain ⟨p, q, hA0, hV, rfl, _, _⟩ := hW
  have hA : DataW.TrodAll enc Tryz.prog W 0 (fun _ => true) true Tryz.f10.params.toList args.toList ds p := hA0
  have hval : ∀ (j : Nat) t v, Tryz.f10.params[j]? = some t → args[j]? = some v → Value.okWide Tryz.prog W .any base t v := hval0
  obtain ⟨rfl, rfl⟩ := trodVars_none hV
  have hlt : ∀ x ∈ p, x.block < W.heap.size := fun x hx => by simpa using hW'.lt x (by simpa using hx)
  have hst := fun {W' : World} (hb : Below W.heap.size W W') => Ab.trodAll_stays laidOut hb _ _ _ _ hA (by kernel_rfl) hlt
  rw [Tryz.params10] at hA hval
  obtain ⟨v0, v1, d0, d1, p0, p1, rfl, rfl, rfl, h0, h1⟩ := trodAll_two hA
  obtain ⟨as0, i0, r0⟩ := Ab.arg_struct (G := Ab.Gh.start W) Tryz.underlying23 offerCells (by kernel_rfl) offerSc (hval 0 23 v0 rfl rfl)
  obtain ⟨n1, i1, r1⟩ := Ab.arg_sc (G := Ab.Gh.start W) Tryz.underlying3 (hval 1 3 v1 rfl rfl)
  clear hA0 hval0
  refine (Ab.calls_trueG (tabGl_rel hL) (evM_ok W 600) (says as0 i0 n1 i1) (.cons _ _ _ _ r0 (.cons _ _ _ _ r1 .nil))).mono fun e W' ⟨he, hb⟩ => ?_
  subst he
  exact ⟨_, rfl, _, _, _, [], _, [], hW', trodAll_mk1 (shut_bool Tryz.underlying4 _), hst hb, rfl, hb.frame _, fun h => by cases h⟩
theorem closed : joinedFacts Tryz.pinned.checked.prog 10 Tryz.f10 Rows.topRefuseSpec Rows.topRefuseRow = true := by
  unfold joinedFacts
  rw [heard, enters, lifts]
  kernel_rfl
end Go.Proofs.YtgflghhffmjojaaGreatDoor.topRefuse
