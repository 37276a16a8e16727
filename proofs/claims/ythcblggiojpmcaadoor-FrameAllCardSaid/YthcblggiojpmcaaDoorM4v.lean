/- Functions of the program in the evaluator's form, written out by a program. No conditions. -/
import Derived.Test.YthcblggiojpmcaaDoorM4
set_option linter.unusedVariables false
namespace Go.Proofs.YthcblggiojpmcaaDoor
open Go Go.Ab
def M66 : MFun :=
 ⟨17, [MRes.tmp 0 2], (MC.reg
 [⟨some 2, MOp.mv (Opd.c (AV.bool false)), none⟩]).seq
 ((MC.block 0
 ((MC.reg
 [⟨some 4, MOp.mv (Opd.s 0), none⟩,
 ⟨some 5, MOp.bin .leq (Opd.c (AV.int .i32 0))
 (Opd.s 4), none⟩,
 ⟨some 6, MOp.mv (Opd.s 5), none⟩,
 ⟨some 7, MOp.mv (Opd.s 0), some (6, true)⟩,
 ⟨some 8, MOp.bin .lss (Opd.s 7)
 (Opd.c (AV.int .i32 55296)), some (6, true)⟩,
 ⟨some 9, MOp.pick (Opd.s 6) (Opd.s 8) (Opd.c (AV.bool false)), none⟩,
 ⟨some 3, MOp.mv (Opd.s 9), none⟩]).seq
 (MC.cond (Opd.s 3)
 ((MC.reg
 [⟨some 2, MOp.mv (Opd.c (AV.bool true)), none⟩]).seq
 MC.ret)
 ((MC.reg
 [⟨some 11, MOp.mv (Opd.s 0), none⟩,
 ⟨some 12, MOp.bin .lss (Opd.c (AV.int .i32 57343))
 (Opd.s 11), none⟩,
 ⟨some 13, MOp.mv (Opd.s 12), none⟩,
 ⟨some 14, MOp.mv (Opd.s 0), some (13, true)⟩,
 ⟨some 15, MOp.bin .leq (Opd.s 14)
 (Opd.c (AV.int .i32 1114111)), some (13, true)⟩,
 ⟨some 16, MOp.pick (Opd.s 13) (Opd.s 15) (Opd.c (AV.bool false)), none⟩,
 ⟨some 10, MOp.mv (Opd.s 16), none⟩]).seq
 (MC.cond (Opd.s 10)
 ((MC.reg
 [⟨some 2, MOp.mv (Opd.c (AV.bool true)), none⟩]).seq
 MC.ret)
 MC.skip))))).seq
 ((MC.reg
 [⟨some 2, MOp.mv (Opd.c (AV.bool false)), none⟩]).seq
 MC.ret)) ⟩
theorem tab66 : tableOf Tryd.prog 66 = some M66 := by kernel_rfl
end Go.Proofs.YthcblggiojpmcaaDoor
