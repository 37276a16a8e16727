/- The law TopRefuse returns true, its tables tied to the program's text. No conditions. -/
import Derived.Test.YtgflghhffmjojaaGreatDoorLwTopRefuse
set_option linter.unusedVariables false
namespace Go.Proofs.YtgflghhffmjojaaGreatDoor.topRefuse
open Go Go.ChangeShapes Go.WideShapes Go.ChangeAt Go.RowKit
theorem holds : Rows.TopRefuseSaid :=
  OpenClaim.holds_of_wide 10 Tryz.f10 rfl rfl rfl rfl rfl rfl rfl ⟨rfl, rfl, rfl, rfl, rfl⟩ rfl rfl rfl rfl rfl (by kernel_rfl) Tryz.func10 closed
    (of_decide_eq_true (by kernel_rfl)) (by unfold Func.isWrapper; first | (rw [if_pos (by decide +kernel)]; kernel_rfl) | (rw [if_neg (by decide +kernel)]; exact ⟨rfl, rfl⟩))
    (fun os started H enc _ => lifted os started H enc)
end Go.Proofs.YtgflghhffmjojaaGreatDoor.topRefuse
namespace Go.Proofs.YtgflghhffmjojaaGreatDoor
open Go
/-- The tied card. -/
theorem topRefuse_card : Rows.TopRefuseCardSaid :=
  Claim7.holds_tied_plain_at .later [] [.data, .data, .pinned] true (true, "3cdbde8dc6f69ee8cba3d63a7c48df14a73f5b8322d86d77283aeec6acdc47e8") true topRefuse.holds (fun _ h => by cases h) (by kernel_rfl) (fun _ h => by cases h) topRefuse_row_tie rfl ⟨rfl, rfl⟩ (by kernel_rfl) rfl
    (fun f fn hf hfn => by
      obtain rfl : f = 10 := Option.some.inj ((show Tryz.prog.funcNamed "glowworm/glowwormtop.TopRefuse" = some 10 by kernel_rfl).symm.trans hf) |>.symm
      obtain rfl : fn = Tryz.f10 := (Option.some.inj (Tryz.func10.symm.trans hfn)).symm
      exact ⟨by kernel_rfl, fun j t ht => by
        rw [Tryz.params10] at ht
        have hm : t ∈ [23, 3] := by simpa using Array.mem_of_getElem? ht
        have hall : ([23, 3].all fun u => !Tryz.prog.wantsStandIn u) = true := by kernel_rfl
        exact (show Tryz.prog.wantsStandIn t = false by simpa using List.all_eq_true.1 hall t hm)⟩)
    (by kernel_rfl)
#print axioms topRefuse_card
end Go.Proofs.YtgflghhffmjojaaGreatDoor
