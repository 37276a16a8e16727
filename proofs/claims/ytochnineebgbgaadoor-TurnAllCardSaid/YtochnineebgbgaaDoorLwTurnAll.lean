/- The law TurnAll returns true, for every memory it may be handed; what is told of its code, part by part. No conditions. -/
import Derived.Test.YtochnineebgbgaaDoorTie
import Derived.Test.YtochnineebgbgaaDoorCards
import Derived.Test.YtochnineebgbgaaDoorTabs
import Derived.Test.YtochnineebgbgaaDoorArg
import Derived.Test.YtochnineebgbgaaDoorHeTurnAll
import Derived.Test.YtochnineebgbgaaDoorSaysTurnAll
import Derived.WalkKit
import Derived.ProofKit
import Derived.Lay
import Derived.LaidOnce
import Derived.SevenTiedAt
set_option linter.unusedVariables false
namespace Go.Proofs.YtochnineebgbgaaDoor.turnAll
open Go Go.ChangeShapes Go.WideShapes Go.ChangeAt Go.RowKit
theorem own : ownKnob Tryd.prog.godebug = none := by kernel_rfl
theorem laidOut : laidOutB Tryd.prog = true := by kernel_rfl
set_option maxRecDepth 100000 in
theorem lifted (os : Os) (started : os.Started) (H : Type) (enc : TypeId × Value → H) :
    ReturnsInHanded {} Tryd.checked os 18 .any (fun w args => (Rows.turnAllSpec.pre enc Tryd.prog Tryd.f18 [] false w args ∧ laidMetH Tryd.prog laid2 w) ∧ sizedMet enc Tryd.prog Tryd.f18 (OpenSpec.ofChange Rows.turnAllSpec) false w args)
      (Rows.turnAllSpec.post enc Tryd.prog Tryd.f18 false true false false) := by
  refine returnsInHanded_of_change_and (C := Tryd.checked) (X := fun w _ => laidMetH Tryd.prog laid2 w) (fun _ _ _ hh h => h.of_heap hh) own started (by kernel_rfl) Tryd.func18
    (ChangeSpec.witness_shaped (enc := enc) (C := Tryd.checked) (os := os) (X := fun w _ => laidMetH Tryd.prog laid2 w) false (World.laidAll Tryd.prog os laid2) #[.int .i64 0, .agg #[.int .i64 0, .int .i64 0, .int .i64 0, .int .i64 0, .int .i64 0], .slice none 0 0] 8 (World.laidAll_os _ _ _)
      (World.shaped_of_ZipB (by kernel_rfl) (by kernel_rfl)) (by kernel_rfl) (by kernel_rfl) (by kernel_rfl)
      (by rw [MakeChecks.laidMetH_plain _ _ _ (by kernel_rfl)]; exact laidMet_laidAll _ (by kernel_rfl) (by kernel_rfl))) ?_
  intro W base args ds gs before hval0 hW _ _ hL _
  have hW' := hW
  obtain ⟨p, q, hA0, hV, rfl, _, _⟩ := hW
  have hA : DataW.TrodAll enc Tryd.prog W 0 (fun _ => true) true Tryd.f18.params.toList args.toList ds p := hA0
  have hval : ∀ (j : Nat) t v, Tryd.f18.params[j]? = some t → args[j]? = some v → Value.okWide Tryd.prog W .any base t v := hval0
  obtain ⟨rfl, rfl⟩ := trodVars_none hV
  have hlt : ∀ x ∈ p, x.block < W.heap.size := fun x hx => by simpa using hW'.lt x (by simpa using hx)
  have hst := fun {W' : World} (hb : Below W.heap.size W W') => Ab.trodAll_stays laidOut hb _ _ _ _ hA (by kernel_rfl) hlt
  rw [Tryd.params18] at hA hval
  obtain ⟨v0, v1, v2, d0, d1, d2, p0, p1, p2, rfl, rfl, rfl, h0, h1, h2⟩ := trodAll_three hA
  obtain ⟨n0, i0, r0⟩ := Ab.arg_sc (G := Ab.Gh.start W) Tryd.underlying3 (hval 0 3 v0 rfl rfl)
  obtain ⟨as1, i1, r1⟩ := Ab.arg_struct (G := Ab.Gh.start W) Tryd.underlying58 dealCells (by kernel_rfl) dealSc (hval 1 58 v1 rfl rfl)
  obtain ⟨x2, z2, i2, r2⟩ := arg_ops Tryd.underlying26 (hval 2 26 v2 rfl rfl) h2
  clear hA0 hval0
  refine (Ab.calls_trueG (tabGl_rel hL) (evO_ok W 1000) (says n0 i0 as1 i1 x2 z2 i2) (.cons _ _ _ _ r0 (.cons _ _ _ _ r1 (.cons _ _ _ _ r2 .nil)))).mono fun e W' ⟨he, hb⟩ => ?_
  subst he
  exact ⟨_, rfl, _, _, _, [], _, [], hW', trodAll_mk1 (shut_bool Tryd.underlying4 _), hst hb, rfl, hb.frame _, fun h => by cases h⟩
theorem closed : joinedFacts Tryd.pinned.checked.prog 18 Tryd.f18 Rows.turnAllSpec Rows.turnAllRow = true := by
  unfold joinedFacts
  rw [heard, enters, lifts]
  kernel_rfl
end Go.Proofs.YtochnineebgbgaaDoor.turnAll
