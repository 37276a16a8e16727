/- The law XidAll returns true, its tables tied to the program's text. No conditions. -/
import Derived.Test.YtbeimfhodgmjhaaDoorTie
import Derived.Test.YtbeimfhodgmjhaaDoorCards
import Derived.Test.YtbeimfhodgmjhaaDoorTabs
import Derived.Test.YtbeimfhodgmjhaaDoorArg
import Derived.Test.YtbeimfhodgmjhaaDoorSaysXidAll
import Derived.WalkKit
import Derived.ProofKit
import Derived.Lay
import Derived.LaidOnce
import Derived.SevenTiedAt
set_option linter.unusedVariables false
namespace Go.Proofs.YtbeimfhodgmjhaaDoor.xidAll
open Go Go.ChangeShapes Go.WideShapes Go.ChangeAt Go.RowKit
theorem own : ownKnob Tryd.prog.godebug = none := by kernel_rfl
theorem laidOut : laidOutB Tryd.prog = true := by kernel_rfl
set_option maxRecDepth 100000 in
theorem lifted (os : Os) (started : os.Started) (H : Type) (enc : TypeId × Value → H) :
    ReturnsInHanded {} Tryd.checked os 7 .any (fun w args => (Rows.xidAllSpec.pre enc Tryd.prog Tryd.f7 [] false w args ∧ laidMetH Tryd.prog laid2 w) ∧ sizedMet enc Tryd.prog Tryd.f7 (OpenSpec.ofChange Rows.xidAllSpec) false w args)
      (Rows.xidAllSpec.post enc Tryd.prog Tryd.f7 false true false false) := by
  refine returnsInHanded_of_change_and (C := Tryd.checked) (X := fun w _ => laidMetH Tryd.prog laid2 w) (fun _ _ _ hh h => h.of_heap hh) own started (by kernel_rfl) Tryd.func7
    (ChangeSpec.witness_shaped (enc := enc) (C := Tryd.checked) (os := os) (X := fun w _ => laidMetH Tryd.prog laid2 w) false (World.laidAll Tryd.prog os laid2) #[.agg #[.int .u32 0, .int .u32 0, .int .i64 0, .int .i64 0, .bool false, .string ByteArray.empty], .string ByteArray.empty, .slice none 0 0, .slice none 0 0] 8 (World.laidAll_os _ _ _)
      (World.shaped_of_ZipB (by kernel_rfl) (by kernel_rfl)) (by kernel_rfl) (by kernel_rfl) (by kernel_rfl)
      (by rw [MakeChecks.laidMetH_plain _ _ _ (by kernel_rfl)]; exact laidMet_laidAll _ (by kernel_rfl) (by kernel_rfl))) ?_
  intro W base args ds gs before hval0 hW _ _ hL _
  have hW' := hW
  obtain ⟨p, q, hA0, hV, rfl, _, _⟩ := hW
  have hA : DataW.TrodAll enc Tryd.prog W 0 (fun _ => true) true Tryd.f7.params.toList args.toList ds p := hA0
  have hval : ∀ (j : Nat) t v, Tryd.f7.params[j]? = some t → args[j]? = some v → Value.okWide Tryd.prog W .any base t v := hval0
  obtain ⟨rfl, rfl⟩ := trodVars_none hV
  have hlt : ∀ x ∈ p, x.block < W.heap.size := fun x hx => by simpa using hW'.lt x (by simpa using hx)
  have hst := fun {W' : World} (hb : Below W.heap.size W W') => Ab.trodAll_stays laidOut hb _ _ _ _ hA (by kernel_rfl) hlt
  rw [Tryd.params7] at hA hval
  obtain ⟨v0, v1, v2, v3, d0, d1, d2, d3, p0, p1, p2, p3, rfl, rfl, rfl, h0, h1, h2, h3⟩ := trodAll_four hA
  obtain ⟨as0, i0, r0⟩ := Ab.arg_struct (G := Ab.Gh.start W) Tryd.underlying51 xidCells (by kernel_rfl) xidSc (hval 0 51 v0 rfl rfl)
  obtain ⟨b1, i1, r1⟩ := Ab.arg_str (G := Ab.Gh.start W) Tryd.underlying9 (hval 1 9 v1 rfl rfl)
  obtain ⟨x2, z2, i2, r2⟩ := Ab.arg_nums Tryd.underlying52 Tryd.underlying49 (by kernel_rfl) (hval 2 52 v2 rfl rfl) h2
  obtain ⟨x3, z3, i3, r3⟩ := Ab.arg_nums Tryd.underlying52 Tryd.underlying49 (by kernel_rfl) (hval 3 52 v3 rfl rfl) h3
  clear hA0 hval0
  refine (Ab.calls_trueG (tabGl_rel hL) (evU3_ok W 1000) (says as0 i0 b1 i1 x2 z2 i2 x3 z3 i3) (.cons _ _ _ _ r0 (.cons _ _ _ _ r1 (.cons _ _ _ _ r2 (.cons _ _ _ _ r3 .nil))))).mono fun e W' ⟨he, hb⟩ => ?_
  subst he
  exact ⟨_, rfl, _, _, _, [], _, [], hW', trodAll_mk1 (shut_bool Tryd.underlying4 _), hst hb, rfl, hb.frame _, fun h => by cases h⟩
theorem holds : Rows.XidAllSaid :=
  OpenClaim.holds_of_wide 7 Tryd.f7 rfl rfl rfl rfl rfl rfl rfl ⟨rfl, rfl, rfl, rfl, rfl⟩ rfl rfl rfl rfl rfl (by kernel_rfl) Tryd.func7 (by kernel_rfl)
    (of_decide_eq_true (by kernel_rfl)) (by unfold Func.isWrapper; first | (rw [if_pos (by decide +kernel)]; kernel_rfl) | (rw [if_neg (by decide +kernel)]; exact ⟨rfl, rfl⟩))
    (fun os started H enc _ => lifted os started H enc)
end Go.Proofs.YtbeimfhodgmjhaaDoor.xidAll
namespace Go.Proofs.YtbeimfhodgmjhaaDoor
open Go
/-- The tied card. -/
theorem xidAll_card : Rows.XidAllCardSaid :=
  Claim7.holds_tied_plain_at .later [] [.data, .data, .pinned] true (true, "01f71eedae39d9de5eb5d15686d686c845c18c6011068d41dfae0df36afa5506") true xidAll.holds (fun _ h => by cases h) (by kernel_rfl) (fun _ h => by cases h) xidAll_row_tie rfl ⟨rfl, rfl⟩ (by kernel_rfl) rfl
    (fun f fn hf hfn => by
      obtain rfl : f = 7 := Option.some.inj ((show Tryd.prog.funcNamed "glowworm/glowwormlaw8.XidAll" = some 7 by kernel_rfl).symm.trans hf) |>.symm
      obtain rfl : fn = Tryd.f7 := (Option.some.inj (Tryd.func7.symm.trans hfn)).symm
      exact ⟨by kernel_rfl, fun j t ht => by
        rw [Tryd.params7] at ht
        have hm : t ∈ [51, 9, 52, 52] := by simpa using Array.mem_of_getElem? ht
        have hall : ([51, 9, 52, 52].all fun u => !Tryd.prog.wantsStandIn u) = true := by kernel_rfl
        exact (show Tryd.prog.wantsStandIn t = false by simpa using List.all_eq_true.1 hall t hm)⟩)
    (by kernel_rfl)
#print axioms xidAll_card
end Go.Proofs.YtbeimfhodgmjhaaDoor
