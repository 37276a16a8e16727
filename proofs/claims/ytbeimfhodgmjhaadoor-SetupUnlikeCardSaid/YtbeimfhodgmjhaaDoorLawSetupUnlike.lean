/- The law SetupUnlike returns true, its tables tied to the program's text. No conditions. -/
import Derived.Test.YtbeimfhodgmjhaaDoorTie
import Derived.Test.YtbeimfhodgmjhaaDoorCards
import Derived.Test.YtbeimfhodgmjhaaDoorTabs
import Derived.Test.YtbeimfhodgmjhaaDoorArg
import Derived.Test.YtbeimfhodgmjhaaDoorSaysSetupUnlike
import Derived.WalkKit
import Derived.ProofKit
import Derived.Lay
import Derived.LaidOnce
import Derived.SevenTiedAt
set_option linter.unusedVariables false
namespace Go.Proofs.YtbeimfhodgmjhaaDoor.setupUnlike
open Go Go.ChangeShapes Go.WideShapes Go.ChangeAt Go.RowKit
theorem own : ownKnob Tryd.prog.godebug = none := by kernel_rfl
theorem laidOut : laidOutB Tryd.prog = true := by kernel_rfl
set_option maxRecDepth 100000 in
theorem lifted (os : Os) (started : os.Started) (H : Type) (enc : TypeId × Value → H) :
    ReturnsInHanded {} Tryd.checked os 20 .any (fun w args => (Rows.setupUnlikeSpec.pre enc Tryd.prog Tryd.f20 [] false w args ∧ laidMetH Tryd.prog laid2 w) ∧ sizedMet enc Tryd.prog Tryd.f20 (OpenSpec.ofChange Rows.setupUnlikeSpec) false w args)
      (Rows.setupUnlikeSpec.post enc Tryd.prog Tryd.f20 false true false false) := by
  refine returnsInHanded_of_change_and (C := Tryd.checked) (X := fun w _ => laidMetH Tryd.prog laid2 w) (fun _ _ _ hh h => h.of_heap hh) own started (by kernel_rfl) Tryd.func20
    (ChangeSpec.witness_shaped (enc := enc) (C := Tryd.checked) (os := os) (X := fun w _ => laidMetH Tryd.prog laid2 w) false (World.laidAll Tryd.prog os laid2) #[.agg #[.int .u32 0, .int .u32 0, .int .i64 0, .int .i64 0, .int .i64 0, .int .i64 0, .int .i64 0, .int .i64 0, .int .i64 0], .agg #[.int .u32 0, .int .u32 0, .int .i64 0, .int .i64 0, .int .i64 0, .int .i64 0, .int .i64 0, .int .i64 0, .int .i64 0], .agg #[.int .u32 0, .int .u32 0, .int .i64 0, .int .i64 0, .bool false, .string ByteArray.empty], .agg #[.int .u32 0, .int .u32 0, .int .i64 0, .int .i64 0, .bool false, .string ByteArray.empty]] 8 (World.laidAll_os _ _ _)
      (World.shaped_of_ZipB (by kernel_rfl) (by kernel_rfl)) (by kernel_rfl) (by kernel_rfl) (by kernel_rfl)
      (by rw [MakeChecks.laidMetH_plain _ _ _ (by kernel_rfl)]; exact laidMet_laidAll _ (by kernel_rfl) (by kernel_rfl))) ?_
  intro W base args ds gs before hval0 hW _ _ hL _
  have hW' := hW
  obtain ⟨p, q, hA0, hV, rfl, _, _⟩ := hW
  have hA : DataW.TrodAll enc Tryd.prog W 0 (fun _ => true) true Tryd.f20.params.toList args.toList ds p := hA0
  have hval : ∀ (j : Nat) t v, Tryd.f20.params[j]? = some t → args[j]? = some v → Value.okWide Tryd.prog W .any base t v := hval0
  obtain ⟨rfl, rfl⟩ := trodVars_none hV
  have hlt : ∀ x ∈ p, x.block < W.heap.size := fun x hx => by simpa using hW'.lt x (by simpa using hx)
  have hst := fun {W' : World} (hb : Below W.heap.size W W') => Ab.trodAll_stays laidOut hb _ _ _ _ hA (by kernel_rfl) hlt
  rw [Tryd.params20] at hA hval
  obtain ⟨v0, v1, v2, v3, d0, d1, d2, d3, p0, p1, p2, p3, rfl, rfl, rfl, h0, h1, h2, h3⟩ := trodAll_four hA
  obtain ⟨as0, i0, r0⟩ := Ab.arg_struct (G := Ab.Gh.start W) Tryd.underlying64 setupCells (by kernel_rfl) setupSc (hval 0 64 v0 rfl rfl)
  obtain ⟨as1, i1, r1⟩ := Ab.arg_struct (G := Ab.Gh.start W) Tryd.underlying64 setupCells (by kernel_rfl) setupSc (hval 1 64 v1 rfl rfl)
  obtain ⟨as2, i2, r2⟩ := Ab.arg_struct (G := Ab.Gh.start W) Tryd.underlying51 xidCells (by kernel_rfl) xidSc (hval 2 51 v2 rfl rfl)
  obtain ⟨as3, i3, r3⟩ := Ab.arg_struct (G := Ab.Gh.start W) Tryd.underlying51 xidCells (by kernel_rfl) xidSc (hval 3 51 v3 rfl rfl)
  clear hA0 hval0
  refine (Ab.calls_trueG (tabGl_rel hL) (evX_ok W 1000) (says as0 i0 as1 i1 as2 i2 as3 i3) (.cons _ _ _ _ r0 (.cons _ _ _ _ r1 (.cons _ _ _ _ r2 (.cons _ _ _ _ r3 .nil))))).mono fun e W' ⟨he, hb⟩ => ?_
  subst he
  exact ⟨_, rfl, _, _, _, [], _, [], hW', trodAll_mk1 (shut_bool Tryd.underlying4 _), hst hb, rfl, hb.frame _, fun h => by cases h⟩
theorem holds : Rows.SetupUnlikeSaid :=
  OpenClaim.holds_of_wide 20 Tryd.f20 rfl rfl rfl rfl rfl rfl rfl ⟨rfl, rfl, rfl, rfl, rfl⟩ rfl rfl rfl rfl rfl (by kernel_rfl) Tryd.func20 (by kernel_rfl)
    (of_decide_eq_true (by kernel_rfl)) (by unfold Func.isWrapper; first | (rw [if_pos (by decide +kernel)]; kernel_rfl) | (rw [if_neg (by decide +kernel)]; exact ⟨rfl, rfl⟩))
    (fun os started H enc _ => lifted os started H enc)
end Go.Proofs.YtbeimfhodgmjhaaDoor.setupUnlike
namespace Go.Proofs.YtbeimfhodgmjhaaDoor
open Go
/-- The tied card. -/
theorem setupUnlike_card : Rows.SetupUnlikeCardSaid :=
  Claim7.holds_tied_plain_at .later [] [.data, .data, .pinned] true (true, "01f71eedae39d9de5eb5d15686d686c845c18c6011068d41dfae0df36afa5506") true setupUnlike.holds (fun _ h => by cases h) (by kernel_rfl) (fun _ h => by cases h) setupUnlike_row_tie rfl ⟨rfl, rfl⟩ (by kernel_rfl) rfl
    (fun f fn hf hfn => by
      obtain rfl : f = 20 := Option.some.inj ((show Tryd.prog.funcNamed "glowworm/glowwormlaw8.SetupUnlike" = some 20 by kernel_rfl).symm.trans hf) |>.symm
      obtain rfl : fn = Tryd.f20 := (Option.some.inj (Tryd.func20.symm.trans hfn)).symm
      exact ⟨by kernel_rfl, fun j t ht => by
        rw [Tryd.params20] at ht
        have hm : t ∈ [64, 64, 51, 51] := by simpa using Array.mem_of_getElem? ht
        have hall : ([64, 64, 51, 51].all fun u => !Tryd.prog.wantsStandIn u) = true := by kernel_rfl
        exact (show Tryd.prog.wantsStandIn t = false by simpa using List.all_eq_true.1 hall t hm)⟩)
    (by kernel_rfl)
#print axioms setupUnlike_card
end Go.Proofs.YtbeimfhodgmjhaaDoor
