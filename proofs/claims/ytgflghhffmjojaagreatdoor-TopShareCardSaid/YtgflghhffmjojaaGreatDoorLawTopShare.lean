/- The law TopShare returns true, its tables tied to the program's text. No conditions. -/
import Derived.Test.YtgflghhffmjojaaGreatDoorLwTopShare
set_option linter.unusedVariables false
namespace Go.Proofs.YtgflghhffmjojaaGreatDoor.topShare
open Go Go.ChangeShapes Go.WideShapes Go.ChangeAt Go.RowKit
theorem holds : Rows.TopShareSaid :=
  OpenClaim.holds_of_wide 8 Tryz.f8 rfl rfl rfl rfl rfl rfl rfl ⟨rfl, rfl, rfl, rfl, rfl⟩ rfl rfl rfl rfl rfl (by kernel_rfl) Tryz.func8 closed
    (of_decide_eq_true (by kernel_rfl)) (by unfold Func.isWrapper; first | (rw [if_pos (by decide +kernel)]; kernel_rfl) | (rw [if_neg (by decide +kernel)]; exact ⟨rfl, rfl⟩))
    (fun os started H enc _ => lifted os started H enc)
end Go.Proofs.YtgflghhffmjojaaGreatDoor.topShare
namespace Go.Proofs.YtgflghhffmjojaaGreatDoor
open Go
/-- The tied card. -/
theorem topShare_card : Rows.TopShareCardSaid :=
  Claim7.holds_tied_plain_at .later [] [.data, .data, .pinned] true (true, "3cdbde8dc6f69ee8cba3d63a7c48df14a73f5b8322d86d77283aeec6acdc47e8") true topShare.holds (fun _ h => by cases h) (by kernel_rfl) (fun _ h => by cases h) topShare_row_tie rfl ⟨rfl, rfl⟩ (by kernel_rfl) rfl
    (fun f fn hf hfn => by
      obtain rfl : f = 8 := Option.some.inj ((show Tryz.prog.funcNamed "glowworm/glowwormtop.TopShare" = some 8 by kernel_rfl).symm.trans hf) |>.symm
      obtain rfl : fn = Tryz.f8 := (Option.some.inj (Tryz.func8.symm.trans hfn)).symm
      exact ⟨by kernel_rfl, fun j t ht => by
        rw [Tryz.params8] at ht
        have hm : t ∈ [29, 23] := by simpa using Array.mem_of_getElem? ht
        have hall : ([29, 23].all fun u => !Tryz.prog.wantsStandIn u) = true := by kernel_rfl
        exact (show Tryz.prog.wantsStandIn t = false by simpa using List.all_eq_true.1 hall t hm)⟩)
    (by kernel_rfl)
#print axioms topShare_card
end Go.Proofs.YtgflghhffmjojaaGreatDoor
