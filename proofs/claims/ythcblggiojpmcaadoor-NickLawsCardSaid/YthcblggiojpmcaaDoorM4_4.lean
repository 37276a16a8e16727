/- Functions of the program in the evaluator's form, written out by a program. No conditions. -/
import Derived.Test.YthcblggiojpmcaaDoorM4n
set_option linter.unusedVariables false
namespace Go.Proofs.YthcblggiojpmcaaDoor
open Go Go.Ab
def M4 : MFun :=
 ⟨79, [MRes.tmp 0 6], (MC.reg
 [⟨some 6, MOp.mv (Opd.c (AV.bool false)), none⟩]).seq
 ((MC.reg
 [⟨some 10, MOp.call 20 [], none⟩,
 ⟨some 7, MOp.mv (Opd.s 10), none⟩]).seq
 (((MC.reg
 [⟨some 11, MOp.mv (Opd.s 7), none⟩,
 ⟨some 12, MOp.un .not (Opd.s 11), none⟩]).seq
 (MC.cond (Opd.s 12)
 ((MC.reg
 [⟨some 6, MOp.mv (Opd.c (AV.bool false)), none⟩]).seq
 MC.ret)
 MC.skip)).seq
 ((MC.reg
 [⟨some 13, MOp.mv (Opd.s 0), none⟩,
 ⟨some 14, MOp.call 21
 [(0, Opd.s 13), (0, Opd.c (AV.int .i64 30))], none⟩,
 ⟨some 0, MOp.mv (Opd.s 14), none⟩]).seq
 ((MC.reg
 [⟨some 15, MOp.mv (Opd.s 1), none⟩,
 ⟨some 16, MOp.bin .rem (Opd.s 15)
 (Opd.c (AV.int .i64 25)), none⟩,
 ⟨some 17, MOp.bin .add (Opd.s 16)
 (Opd.c (AV.int .i64 25)), none⟩,
 ⟨some 18, MOp.bin .rem (Opd.s 17)
 (Opd.c (AV.int .i64 25)), none⟩,
 ⟨some 19, MOp.mv (Opd.s 2), none⟩,
 ⟨some 20, MOp.bin .rem (Opd.s 19)
 (Opd.c (AV.int .i64 25)), none⟩,
 ⟨some 21, MOp.bin .add (Opd.s 20)
 (Opd.c (AV.int .i64 25)), none⟩,
 ⟨some 22, MOp.bin .rem (Opd.s 21)
 (Opd.c (AV.int .i64 25)), none⟩,
 ⟨some 1, MOp.mv (Opd.s 18), none⟩,
 ⟨some 2, MOp.mv (Opd.s 22), none⟩]).seq
 ((MC.reg
 [⟨some 23, MOp.mv (Opd.s 0), none⟩,
 ⟨some 24, MOp.mv (Opd.s 1), none⟩,
 ⟨some 25, MOp.call 26 [(0, Opd.s 23), (0, Opd.s 24)], none⟩,
 ⟨some 8, MOp.mv (Opd.s 25), none⟩]).seq
 ((MC.reg
 [⟨some 26, MOp.mv (Opd.s 0), none⟩,
 ⟨some 27, MOp.call 28 [(0, Opd.s 26)], none⟩,
 ⟨some 9, MOp.mv (Opd.s 27), none⟩]).seq
 (((MC.reg
 [⟨some 28, MOp.mv (Opd.s 8), none⟩,
 ⟨some 29, MOp.lens (Opd.s 28), none⟩,
 ⟨some 30, MOp.mv (Opd.s 1), none⟩,
 ⟨some 31, MOp.bin .gtr (Opd.s 29) (Opd.s 30), none⟩,
 ⟨some 32, MOp.mv (Opd.s 31), none⟩,
 ⟨some 33, MOp.mv (Opd.s 0), some (32, false)⟩,
 ⟨some 34, MOp.mv (Opd.s 8), some (32, false)⟩,
 ⟨some 35, MOp.lens (Opd.s 34), some (32, false)⟩,
 ⟨some 36, MOp.sls (Opd.s 33) none (some (Opd.s 35)), some (32, false)⟩,
 ⟨some 37, MOp.mv (Opd.s 8), some (32, false)⟩,
 ⟨some 38, MOp.bin .neq (Opd.s 36) (Opd.s 37), some (32, false)⟩,
 ⟨some 39, MOp.pick (Opd.s 32) (Opd.c (AV.bool true))
 (Opd.s 38), none⟩,
 ⟨some 40, MOp.mv (Opd.s 39), none⟩,
 ⟨some 41, MOp.mv (Opd.s 8), some (40, false)⟩,
 ⟨some 42, MOp.mv (Opd.s 2), some (40, false)⟩,
 ⟨some 43, MOp.call 26 [(0, Opd.s 41), (0, Opd.s 42)], some (40, false)⟩,
 ⟨some 44, MOp.mv (Opd.s 0), some (40, false)⟩,
 ⟨some 45, MOp.mv (Opd.s 1), some (40, false)⟩,
 ⟨some 46, MOp.mv (Opd.s 2), some (40, false)⟩,
 ⟨some 47, MOp.mn [Opd.s 45, Opd.s 46], some (40, false)⟩,
 ⟨some 48, MOp.call 26 [(0, Opd.s 44), (0, Opd.s 47)], some (40, false)⟩,
 ⟨some 49, MOp.bin .neq (Opd.s 43) (Opd.s 48), some (40, false)⟩,
 ⟨some 50, MOp.pick (Opd.s 40) (Opd.c (AV.bool true))
 (Opd.s 49), none⟩,
 ⟨some 51, MOp.mv (Opd.s 50), none⟩,
 ⟨some 52, MOp.mv (Opd.s 9), some (51, false)⟩,
 ⟨some 53, MOp.call 28 [(0, Opd.s 52)], some (51, false)⟩,
 ⟨some 54, MOp.mv (Opd.s 9), some (51, false)⟩,
 ⟨some 55, MOp.bin .neq (Opd.s 53) (Opd.s 54), some (51, false)⟩,
 ⟨some 56, MOp.pick (Opd.s 51) (Opd.c (AV.bool true))
 (Opd.s 55), none⟩,
 ⟨some 57, MOp.mv (Opd.s 56), none⟩,
 ⟨some 58, MOp.mv (Opd.s 9), some (57, false)⟩,
 ⟨some 59, MOp.lens (Opd.s 58), some (57, false)⟩,
 ⟨some 60, MOp.mv (Opd.s 0), some (57, false)⟩,
 ⟨some 61, MOp.call 24 [(0, Opd.s 60)], some (57, false)⟩,
 ⟨some 62, MOp.bin .neq (Opd.s 59) (Opd.s 61), some (57, false)⟩,
 ⟨some 63, MOp.pick (Opd.s 57) (Opd.c (AV.bool true))
 (Opd.s 62), none⟩]).seq
 (MC.cond (Opd.s 63)
 ((MC.reg
 [⟨some 6, MOp.mv (Opd.c (AV.bool false)), none⟩]).seq
 MC.ret)
 MC.skip)).seq
 ((MC.reg
 [⟨some 64, MOp.mv (Opd.s 0), none⟩,
 ⟨some 65, MOp.call 22 [(0, Opd.s 64)], none⟩,
 ⟨some 66, MOp.un .not (Opd.s 65), none⟩,
 ⟨some 67, MOp.mv (Opd.s 66), none⟩,
 ⟨some 68, MOp.mv (Opd.s 8), some (67, false)⟩,
 ⟨some 69, MOp.call 22 [(0, Opd.s 68)], some (67, false)⟩,
 ⟨some 70, MOp.pick (Opd.s 67) (Opd.c (AV.bool true))
 (Opd.s 69), none⟩,
 ⟨some 71, MOp.mv (Opd.s 70), none⟩,
 ⟨some 72, MOp.mv (Opd.s 9), some (71, true)⟩,
 ⟨some 73, MOp.call 22 [(0, Opd.s 72)], some (71, true)⟩,
 ⟨some 74, MOp.mv (Opd.s 9), some (71, true)⟩,
 ⟨some 75, MOp.lens (Opd.s 74), some (71, true)⟩,
 ⟨some 76, MOp.bin .leq (Opd.s 75)
 (Opd.c (AV.int .i64 20)), some (71, true)⟩,
 ⟨some 77, MOp.eqv false (EqK.flat (EqF.one SK.b)) (Opd.s 73)
 (Opd.s 76), some (71, true)⟩,
 ⟨some 78, MOp.pick (Opd.s 71) (Opd.s 77)
 (Opd.c (AV.bool false)), none⟩,
 ⟨some 6, MOp.mv (Opd.s 78), none⟩]).seq
 MC.ret)))))))) ⟩
theorem tab4 : tableOf Tryd.prog 4 = some M4 := by kernel_rfl
end Go.Proofs.YthcblggiojpmcaaDoor
