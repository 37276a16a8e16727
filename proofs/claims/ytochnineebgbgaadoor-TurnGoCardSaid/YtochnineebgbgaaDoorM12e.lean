/- Functions of the program in the evaluator's form, written out by a program. No conditions. -/
import Derived.Test.YtochnineebgbgaaDoorM12
set_option linter.unusedVariables false
namespace Go.Proofs.YtochnineebgbgaaDoor
open Go Go.Ab
def M41 : MFun :=
 ⟨11, [MRes.tmp 0 4], (MC.reg
 [⟨some 4, MOp.mv (Opd.c (AV.str [])), none⟩]).seq
 ((MC.reg
 [⟨some 5, MOp.mv (Opd.s 0), none⟩,
 ⟨some 6, MOp.mv (Opd.s 0), none⟩,
 ⟨some 7, MOp.lens (Opd.s 6), none⟩,
 ⟨some 8, MOp.mv (Opd.s 1), none⟩,
 ⟨some 9, MOp.mn [Opd.s 7, Opd.s 8], none⟩,
 ⟨some 10, MOp.sls (Opd.s 5) none (some (Opd.s 9)), none⟩,
 ⟨some 4, MOp.mv (Opd.s 10), none⟩]).seq
 MC.ret) ⟩
theorem tab41 : tableOf Tryd.prog 41 = some M41 := by kernel_rfl
end Go.Proofs.YtochnineebgbgaaDoor
