/- Functions of the program in the evaluator's form, written out by a program. No conditions. -/
import Derived.Test.YthcblggiojpmcaaDoorM4n
set_option linter.unusedVariables false
namespace Go.Proofs.YthcblggiojpmcaaDoor
open Go Go.Ab
def M3 : MFun :=
 ⟨49, [MRes.tmp 0 6], (MC.reg
 [⟨some 6, MOp.mv (Opd.c (AV.bool false)), none⟩]).seq
 ((MC.reg
 [⟨some 8, MOp.call 20 [], none⟩,
 ⟨some 7, MOp.mv (Opd.s 8), none⟩]).seq
 (((MC.reg
 [⟨some 9, MOp.mv (Opd.s 7), none⟩,
 ⟨some 10, MOp.un .not (Opd.s 9), none⟩]).seq
 (MC.cond (Opd.s 10)
 ((MC.reg
 [⟨some 6, MOp.mv (Opd.c (AV.bool false)), none⟩]).seq
 MC.ret)
 MC.skip)).seq
 ((MC.reg
 [⟨some 11, MOp.mv (Opd.s 0), none⟩,
 ⟨some 12, MOp.call 21
 [(0, Opd.s 11), (0, Opd.c (AV.int .i64 40))], none⟩,
 ⟨some 0, MOp.mv (Opd.s 12), none⟩]).seq
 ((MC.reg
 [⟨some 13, MOp.mv (Opd.s 0), none⟩,
 ⟨some 14, MOp.call 22 [(0, Opd.s 13)], none⟩,
 ⟨some 15, MOp.mv (Opd.s 0), none⟩,
 ⟨some 16, MOp.call 23 [(0, Opd.s 15)], none⟩,
 ⟨some 17, MOp.eqv false (EqK.flat (EqF.one SK.b)) (Opd.s 14)
 (Opd.s 16), none⟩,
 ⟨some 18, MOp.mv (Opd.s 17), none⟩,
 ⟨some 19, MOp.mv (Opd.s 0), some (18, true)⟩,
 ⟨some 20, MOp.call 24 [(0, Opd.s 19)], some (18, true)⟩,
 ⟨some 21, MOp.mv (Opd.s 0), some (18, true)⟩,
 ⟨some 22, MOp.call 25 [(0, Opd.s 21)], some (18, true)⟩,
 ⟨some 23, MOp.bin .eql (Opd.s 20) (Opd.s 22), some (18, true)⟩,
 ⟨some 24, MOp.pick (Opd.s 18) (Opd.s 23) (Opd.c (AV.bool false)), none⟩,
 ⟨some 25, MOp.mv (Opd.s 24), none⟩,
 ⟨some 26, MOp.mv (Opd.s 0), some (25, true)⟩,
 ⟨some 27, MOp.mv (Opd.s 1), some (25, true)⟩,
 ⟨some 28, MOp.call 26 [(0, Opd.s 26), (0, Opd.s 27)], some (25, true)⟩,
 ⟨some 29, MOp.mv (Opd.s 0), some (25, true)⟩,
 ⟨some 30, MOp.mv (Opd.s 1), some (25, true)⟩,
 ⟨some 31, MOp.call 27 [(0, Opd.s 29), (0, Opd.s 30)], some (25, true)⟩,
 ⟨some 32, MOp.bin .eql (Opd.s 28) (Opd.s 31), some (25, true)⟩,
 ⟨some 33, MOp.pick (Opd.s 25) (Opd.s 32) (Opd.c (AV.bool false)), none⟩,
 ⟨some 34, MOp.mv (Opd.s 33), none⟩,
 ⟨some 35, MOp.mv (Opd.s 0), some (34, true)⟩,
 ⟨some 36, MOp.call 28 [(0, Opd.s 35)], some (34, true)⟩,
 ⟨some 37, MOp.mv (Opd.s 0), some (34, true)⟩,
 ⟨some 38, MOp.call 29 [(0, Opd.s 37)], some (34, true)⟩,
 ⟨some 39, MOp.bin .eql (Opd.s 36) (Opd.s 38), some (34, true)⟩,
 ⟨some 40, MOp.pick (Opd.s 34) (Opd.s 39) (Opd.c (AV.bool false)), none⟩,
 ⟨some 41, MOp.mv (Opd.s 40), none⟩,
 ⟨some 42, MOp.mv (Opd.s 2), some (41, true)⟩,
 ⟨some 43, MOp.call 30 [(0, Opd.s 42)], some (41, true)⟩,
 ⟨some 44, MOp.mv (Opd.s 2), some (41, true)⟩,
 ⟨some 45, MOp.conv (Cv.toInt .i64) (Opd.s 44), some (41, true)⟩,
 ⟨some 46, MOp.call 31 [(0, Opd.s 45)], some (41, true)⟩,
 ⟨some 47, MOp.bin .eql (Opd.s 43) (Opd.s 46), some (41, true)⟩,
 ⟨some 48, MOp.pick (Opd.s 41) (Opd.s 47) (Opd.c (AV.bool false)), none⟩,
 ⟨some 6, MOp.mv (Opd.s 48), none⟩]).seq
 MC.ret)))) ⟩
theorem tab3 : tableOf Tryd.prog 3 = some M3 := by kernel_rfl
end Go.Proofs.YthcblggiojpmcaaDoor
