/- Functions of the program in the evaluator's form, written out by a program. No conditions. -/
import Derived.Test.YthcblggiojpmcaaDoorM4
set_option linter.unusedVariables false
namespace Go.Proofs.YthcblggiojpmcaaDoor
open Go Go.Ab
def M14b0 : MC :=
 (((MC.reg
 [⟨some 7, MOp.mv (Opd.s 2), none⟩,
 ⟨some 8, MOp.bin .lss (Opd.s 7)
 (Opd.c (AV.int .i64 256)), none⟩]).seq
 (MC.cond (Opd.s 8) MC.skip (MC.exit 0))).seq
 ((MC.block 1
 ((MC.reg
 [⟨some 12, MOp.mv (Opd.s 2), none⟩,
 ⟨some 13, MOp.conv (Cv.toInt .u8) (Opd.s 12), none⟩,
 ⟨some 14, MOp.call 37 [(0, Opd.s 13)], none⟩,
 ⟨some 11, MOp.mv (Opd.s 14), none⟩,
 ⟨some 15, MOp.ext 0 (Opd.s 11), none⟩,
 ⟨some 16, MOp.ext 1 (Opd.s 11), none⟩,
 ⟨some 3, MOp.mv (Opd.s 15), none⟩,
 ⟨some 4, MOp.mv (Opd.s 16), none⟩]).seq
 (((MC.reg
 [⟨some 17, MOp.mv (Opd.s 4), none⟩,
 ⟨some 18, MOp.un .not (Opd.s 17), none⟩]).seq
 (MC.cond (Opd.s 18)
 ((MC.reg
 [⟨some 19, MOp.ixp 4 1 (Opd.s 1)
 (Opd.c (AV.int .i64 0)), none⟩,
 ⟨some 20, MOp.load none (Opd.s 19), none⟩,
 ⟨some 21, MOp.bin .add (Opd.s 20)
 (Opd.c (AV.int .i64 1)), none⟩,
 ⟨some 22, MOp.ixp 4 1 (Opd.s 1)
 (Opd.c (AV.int .i64 0)), none⟩,
 ⟨none, MOp.store 1 (Opd.s 22) (Opd.s 21), none⟩]).seq
 (MC.exit 1))
 MC.skip)).seq
 (((MC.reg
 [⟨some 23, MOp.mv (Opd.s 3), none⟩]).seq
 (MC.block 2
 ((MC.reg
 [⟨some 24, MOp.tas 64
 (AV.agg
 [AV.int .i64 0,
 AV.int .i64 0,
 AV.bool false])
 true (Opd.s 23), none⟩,
 ⟨some 25, MOp.ext 1 (Opd.s 24), none⟩,
 ⟨some 26, MOp.ext 0 (Opd.s 24), none⟩]).seq
 (MC.cond (Opd.s 25)
 (MC.reg
 [⟨some 27, MOp.ixp 4 1 (Opd.s 1)
 (Opd.c (AV.int .i64 1)), none⟩,
 ⟨some 28, MOp.load none (Opd.s 27), none⟩,
 ⟨some 29, MOp.bin .add (Opd.s 28)
 (Opd.c (AV.int .i64 1)), none⟩,
 ⟨some 30, MOp.ixp 4 1 (Opd.s 1)
 (Opd.c (AV.int .i64 1)), none⟩,
 ⟨none, MOp.store 1 (Opd.s 30) (Opd.s 29), none⟩])
 ((MC.reg
 [⟨some 31, MOp.tas 84
 (AV.agg
 [AV.int .i64 0,
 AV.int .i64 0,
 AV.bool false])
 true (Opd.s 23), none⟩,
 ⟨some 32, MOp.ext 1 (Opd.s 31), none⟩,
 ⟨some 33, MOp.ext 0 (Opd.s 31), none⟩]).seq
 (MC.cond (Opd.s 32)
 (MC.reg
 [⟨some 34, MOp.ixp 4 1 (Opd.s 1)
 (Opd.c (AV.int .i64 2)), none⟩,
 ⟨some 35, MOp.load none (Opd.s 34), none⟩,
 ⟨some 36, MOp.bin .add (Opd.s 35)
 (Opd.c (AV.int .i64 1)), none⟩,
 ⟨some 37, MOp.ixp 4 1 (Opd.s 1)
 (Opd.c (AV.int .i64 2)), none⟩,
 ⟨none, MOp.store 1 (Opd.s 37) (Opd.s 36), none⟩])
 ((MC.reg
 [⟨some 38, MOp.tas 86
 (AV.agg
 [AV.int .i64 0,
 AV.bool false])
 true (Opd.s 23), none⟩,
 ⟨some 39, MOp.ext 1 (Opd.s 38), none⟩,
 ⟨some 40, MOp.ext 0 (Opd.s 38), none⟩]).seq
 (MC.cond (Opd.s 39)
 (MC.reg
 [⟨some 41, MOp.ixp 4 1 (Opd.s 1)
 (Opd.c (AV.int .i64 3)), none⟩,
 ⟨some 42, MOp.load none (Opd.s 41), none⟩,
 ⟨some 43, MOp.bin .add (Opd.s 42)
 (Opd.c (AV.int .i64 1)), none⟩,
 ⟨some 44, MOp.ixp 4 1 (Opd.s 1)
 (Opd.c (AV.int .i64 3)), none⟩,
 ⟨none, MOp.store 1 (Opd.s 44) (Opd.s 43), none⟩])
 MC.skip)))))))).seq
 ((MC.reg
 [⟨some 46, MOp.mv (Opd.s 3), none⟩,
 ⟨some 47, MOp.call 35 [(0, Opd.s 46)], none⟩,
 ⟨some 45, MOp.mv (Opd.s 47), none⟩,
 ⟨some 48, MOp.ext 0 (Opd.s 45), none⟩,
 ⟨some 49, MOp.ext 1 (Opd.s 45), none⟩,
 ⟨some 5, MOp.mv (Opd.s 48), none⟩,
 ⟨some 6, MOp.mv (Opd.s 49), none⟩]).seq
 ((MC.reg
 [⟨some 50, MOp.mv (Opd.s 6), none⟩,
 ⟨some 51, MOp.un .not (Opd.s 50), none⟩,
 ⟨some 52, MOp.mv (Opd.s 51), none⟩,
 ⟨some 53, MOp.mv (Opd.s 5), some (52, false)⟩,
 ⟨some 54, MOp.mv (Opd.s 2), some (52, false)⟩,
 ⟨some 55, MOp.conv (Cv.toInt .u8) (Opd.s 54), some (52, false)⟩,
 ⟨some 56, MOp.bin .neq (Opd.s 53) (Opd.s 55), some (52, false)⟩,
 ⟨some 57, MOp.pick (Opd.s 52) (Opd.c (AV.bool true))
 (Opd.s 56), none⟩]).seq
 (MC.cond (Opd.s 57)
 ((MC.reg
 [⟨some 0, MOp.mv (Opd.c (AV.bool false)), none⟩]).seq
 MC.ret)
 MC.skip))))))).seq
 (MC.reg
 [⟨some 9, MOp.mv (Opd.s 2), none⟩,
 ⟨some 10, MOp.bin .add (Opd.s 9)
 (Opd.c (AV.int .i64 1)), none⟩,
 ⟨some 2, MOp.mv (Opd.s 10), none⟩])))
def M14b0l : List Bool := [false, true, true, false, false, false, false, false, false, false, false, false, false, false, false, false, false, false, false, false, false, false, false, false, false, false, false, false, false, false, false, false, false, false, false, false, false, false, false, false, false, false, false, false, false, false, false, false, false, false, false, false, false, false, false, false, false, false, false, false, false, false, false, false, false, false, false, false, false, false, false, false, false, false, false, false, false, false, false]
def M14 : MFun :=
 ⟨79, [MRes.tmp 0 0], (MC.reg
 [⟨some 0, MOp.mv (Opd.c (AV.bool false)), none⟩]).seq
 ((MC.reg
 [⟨some 1, MOp.alloc
 [AV.int .i64 0, AV.int .i64 0,
 AV.int .i64 0, AV.int .i64 0], none⟩]).seq
 (((MC.reg
 [⟨some 2, MOp.mv (Opd.c (AV.int .i64 0)), none⟩]).seq
 (MC.block 0
 (MC.loop M14b0l M14b0))).seq
 ((MC.reg
 [⟨some 58, MOp.call 20 [], none⟩,
 ⟨some 59, MOp.mv (Opd.s 58), none⟩,
 ⟨some 60, MOp.ixp 4 1 (Opd.s 1) (Opd.c (AV.int .i64 1)), some (59, true)⟩,
 ⟨some 61, MOp.load none (Opd.s 60), some (59, true)⟩,
 ⟨some 62, MOp.bin .eql (Opd.s 61)
 (Opd.c (AV.int .i64 128)), some (59, true)⟩,
 ⟨some 63, MOp.pick (Opd.s 59) (Opd.s 62) (Opd.c (AV.bool false)), none⟩,
 ⟨some 64, MOp.mv (Opd.s 63), none⟩,
 ⟨some 65, MOp.ixp 4 1 (Opd.s 1) (Opd.c (AV.int .i64 2)), some (64, true)⟩,
 ⟨some 66, MOp.load none (Opd.s 65), some (64, true)⟩,
 ⟨some 67, MOp.bin .eql (Opd.s 66)
 (Opd.c (AV.int .i64 48)), some (64, true)⟩,
 ⟨some 68, MOp.pick (Opd.s 64) (Opd.s 67) (Opd.c (AV.bool false)), none⟩,
 ⟨some 69, MOp.mv (Opd.s 68), none⟩,
 ⟨some 70, MOp.ixp 4 1 (Opd.s 1) (Opd.c (AV.int .i64 3)), some (69, true)⟩,
 ⟨some 71, MOp.load none (Opd.s 70), some (69, true)⟩,
 ⟨some 72, MOp.bin .eql (Opd.s 71)
 (Opd.c (AV.int .i64 14)), some (69, true)⟩,
 ⟨some 73, MOp.pick (Opd.s 69) (Opd.s 72) (Opd.c (AV.bool false)), none⟩,
 ⟨some 74, MOp.mv (Opd.s 73), none⟩,
 ⟨some 75, MOp.ixp 4 1 (Opd.s 1) (Opd.c (AV.int .i64 0)), some (74, true)⟩,
 ⟨some 76, MOp.load none (Opd.s 75), some (74, true)⟩,
 ⟨some 77, MOp.bin .eql (Opd.s 76)
 (Opd.c (AV.int .i64 66)), some (74, true)⟩,
 ⟨some 78, MOp.pick (Opd.s 74) (Opd.s 77) (Opd.c (AV.bool false)), none⟩,
 ⟨some 0, MOp.mv (Opd.s 78), none⟩]).seq
 MC.ret))) ⟩
theorem tab14 : tableOf Tryd.prog 14 = some M14 := by kernel_rfl
end Go.Proofs.YthcblggiojpmcaaDoor
