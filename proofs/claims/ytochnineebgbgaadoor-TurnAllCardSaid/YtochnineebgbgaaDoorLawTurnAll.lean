/- The law TurnAll returns true, its tables tied to the program's text. No conditions. -/
import Derived.Test.YtochnineebgbgaaDoorLwTurnAll
set_option linter.unusedVariables false
namespace Go.Proofs.YtochnineebgbgaaDoor.turnAll
open Go Go.ChangeShapes Go.WideShapes Go.ChangeAt Go.RowKit
theorem holds : Rows.TurnAllSaid :=
  OpenClaim.holds_of_wide 18 Tryd.f18 rfl rfl rfl rfl rfl rfl rfl ⟨rfl, rfl, rfl, rfl, rfl⟩ rfl rfl rfl rfl rfl (by kernel_rfl) Tryd.func18 closed
    (of_decide_eq_true (by kernel_rfl)) (by unfold Func.isWrapper; first | (rw [if_pos (by decide +kernel)]; kernel_rfl) | (rw [if_neg (by decide +kernel)]; exact ⟨rfl, rfl⟩))
    (fun os started H enc _ => lifted os started H enc)
end Go.Proofs.YtochnineebgbgaaDoor.turnAll
namespace Go.Proofs.YtochnineebgbgaaDoor
open Go
/-- The tied card. -/
theorem turnAll_card : Rows.TurnAllCardSaid :=
  Claim7.holds_tied_plain_at .later [] [.data, .pinned] true (true, "5650f1350e6af3c2990bd041d3177180e50af1a699c1fc9277c091bf2c522b51") true turnAll.holds (fun _ h => by cases h) (by kernel_rfl) (fun _ h => by cases h) turnAll_row_tie rfl ⟨rfl, rfl⟩ (by kernel_rfl) rfl
    (fun f fn hf hfn => by
      obtain rfl : f = 18 := Option.some.inj ((show Tryd.prog.funcNamed "glowworm/glowwormlaw12.TurnAll" = some 18 by kernel_rfl).symm.trans hf) |>.symm
      obtain rfl : fn = Tryd.f18 := (Option.some.inj (Tryd.func18.symm.trans hfn)).symm
      exact ⟨by kernel_rfl, fun j t ht => by
        rw [Tryd.params18] at ht
        have hm : t ∈ [3, 58, 26] := by simpa using Array.mem_of_getElem? ht
        have hall : ([3, 58, 26].all fun u => !Tryd.prog.wantsStandIn u) = true := by kernel_rfl
        exact (show Tryd.prog.wantsStandIn t = false by simpa using List.all_eq_true.1 hall t hm)⟩)
    (by kernel_rfl)
#print axioms turnAll_card
end Go.Proofs.YtochnineebgbgaaDoor
