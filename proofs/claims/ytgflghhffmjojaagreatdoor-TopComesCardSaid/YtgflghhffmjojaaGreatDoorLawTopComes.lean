/- The law TopComes returns true, its tables tied to the program's text. No conditions. -/
import Derived.Test.YtgflghhffmjojaaGreatDoorLwTopComes
set_option linter.unusedVariables false
namespace Go.Proofs.YtgflghhffmjojaaGreatDoor.topComes
open Go Go.ChangeShapes Go.WideShapes Go.ChangeAt Go.RowKit
theorem holds : Rows.TopComesSaid :=
  OpenClaim.holds_of_wide 7 Tryz.f7 rfl rfl rfl rfl rfl rfl rfl ⟨rfl, rfl, rfl, rfl, rfl⟩ rfl rfl rfl rfl rfl (by kernel_rfl) Tryz.func7 closed
    (of_decide_eq_true (by kernel_rfl)) (by unfold Func.isWrapper; first | (rw [if_pos (by decide +kernel)]; kernel_rfl) | (rw [if_neg (by decide +kernel)]; exact ⟨rfl, rfl⟩))
    (fun os started H enc _ => lifted os started H enc)
end Go.Proofs.YtgflghhffmjojaaGreatDoor.topComes
namespace Go.Proofs.YtgflghhffmjojaaGreatDoor
open Go
/-- The tied card. -/
theorem topComes_card : Rows.TopComesCardSaid :=
  Claim7.holds_tied_plain_at .later [] [.data, .data, .pinned] true (true, "3cdbde8dc6f69ee8cba3d63a7c48df14a73f5b8322d86d77283aeec6acdc47e8") true topComes.holds (fun _ h => by cases h) (by kernel_rfl) (fun _ h => by cases h) topComes_row_tie rfl ⟨rfl, rfl⟩ (by kernel_rfl) rfl
    (fun f fn hf hfn => by
      obtain rfl : f = 7 := Option.some.inj ((show Tryz.prog.funcNamed "glowworm/glowwormtop.TopComes" = some 7 by kernel_rfl).symm.trans hf) |>.symm
      obtain rfl : fn = Tryz.f7 := (Option.some.inj (Tryz.func7.symm.trans hfn)).symm
      exact ⟨by kernel_rfl, fun j t ht => by
        rw [Tryz.params7] at ht
        have hm : t ∈ [3, 23] := by simpa using Array.mem_of_getElem? ht
        have hall : ([3, 23].all fun u => !Tryz.prog.wantsStandIn u) = true := by kernel_rfl
        exact (show Tryz.prog.wantsStandIn t = false by simpa using List.all_eq_true.1 hall t hm)⟩)
    (by kernel_rfl)
#print axioms topComes_card
end Go.Proofs.YtgflghhffmjojaaGreatDoor
