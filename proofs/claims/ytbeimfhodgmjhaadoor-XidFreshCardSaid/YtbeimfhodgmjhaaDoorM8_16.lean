/- Functions of the program in the evaluator's form, written out by a program. No conditions. -/
import Derived.Test.YtbeimfhodgmjhaaDoorM8
set_option linter.unusedVariables false
namespace Go.Proofs.YtbeimfhodgmjhaaDoor
open Go Go.Ab
def M16b0 : MC :=
 (((MC.reg
 [⟨some 54, MOp.mv (Opd.s 9), none⟩,
 ⟨some 55, MOp.bin .add (Opd.s 54)
 (Opd.c (AV.int .i64 1)), none⟩,
 ⟨some 56, MOp.mv (Opd.s 7), none⟩,
 ⟨some 57, MOp.bin .lss (Opd.s 55) (Opd.s 56), none⟩]).seq
 (MC.cond (Opd.s 57) MC.skip (MC.exit 2))).seq
 ((MC.block 3
 ((MC.reg
 [⟨some 60, MOp.mv (Opd.s 0), none⟩,
 ⟨some 61, MOp.mv (Opd.s 9), none⟩,
 ⟨some 62, MOp.ixa 1 (Opd.s 60) (Opd.s 61), none⟩,
 ⟨some 63, MOp.load none (Opd.s 62), none⟩,
 ⟨some 64, MOp.mv (Opd.s 6), none⟩,
 ⟨some 65, MOp.bin .eql (Opd.s 63) (Opd.s 64), none⟩]).seq
 (MC.cond (Opd.s 65)
 ((MC.reg
 [⟨some 4, MOp.mv (Opd.c (AV.bool false)), none⟩]).seq
 MC.ret)
 MC.skip))).seq
 (MC.reg
 [⟨some 58, MOp.mv (Opd.s 9), none⟩,
 ⟨some 59, MOp.bin .add (Opd.s 58)
 (Opd.c (AV.int .i64 1)), none⟩,
 ⟨some 9, MOp.mv (Opd.s 59), none⟩])))
def M16b0l : List Bool := [true, false, false, false, false, false, true, true, false, true, false, false, false, false, false, false, false, false, false, false, false, false, false, false, false, false, false, false, false, false, false, false, false, false, false, false, false, false, false, false, false, false, false, false, false, false, false, false, false, false, false, false, false, false, false, false, false, false, false, false, false, false, false, false, false, false, false, false, false, false, false, false, false, false, false, false, false, false, false, false, false, false, false]
def M16b1 : MC :=
 ((MC.reg
 [⟨some 45, MOp.bin .lss (Opd.s 44) (Opd.s 43), none⟩]).seq
 ((MC.cond (Opd.s 45) MC.skip (MC.exit 0)).seq
 ((MC.block 1
 ((MC.reg
 [⟨some 46, MOp.mv (Opd.s 44), none⟩,
 ⟨some 8, MOp.mv (Opd.s 46), none⟩]).seq
 ((MC.reg
 [⟨some 47, MOp.mv (Opd.s 1), none⟩,
 ⟨some 48, MOp.mv (Opd.s 8), none⟩,
 ⟨some 49, MOp.ixa 1 (Opd.s 47) (Opd.s 48), none⟩,
 ⟨some 50, MOp.load none (Opd.s 49), none⟩,
 ⟨some 51, MOp.mv (Opd.s 6), none⟩,
 ⟨some 52, MOp.bin .eql (Opd.s 50) (Opd.s 51), none⟩]).seq
 (MC.cond (Opd.s 52)
 ((MC.reg
 [⟨some 4, MOp.mv (Opd.c (AV.bool false)), none⟩]).seq
 MC.ret)
 MC.skip)))).seq
 (MC.reg
 [⟨some 53, MOp.bin .add (Opd.s 44)
 (Opd.c (AV.int .i64 1)), none⟩,
 ⟨some 44, MOp.mv (Opd.s 53), none⟩]))))
def M16b1l : List Bool := [true, true, false, false, false, false, true, true, false, false, false, false, false, false, false, false, false, false, false, false, false, false, false, false, false, false, false, false, false, false, false, false, false, false, false, false, false, false, false, false, false, false, false, true, true, false, false, false, false, false, false, false, false, false, false, false, false, false, false, false, false, false, false, false, false, false, false, false, false, false, false, false, false, false, false, false, false, false, false, false, false, false, false]
def M16r0 : MC :=
 ((MC.reg
 [⟨some 66, MOp.mv (Opd.s 7), none⟩,
 ⟨some 67, MOp.bin .eql (Opd.s 66)
 (Opd.c (AV.int .i64 0)), none⟩,
 ⟨some 68, MOp.mv (Opd.s 67), none⟩,
 ⟨some 69, MOp.mv (Opd.s 0), some (68, false)⟩,
 ⟨some 70, MOp.mv (Opd.s 7), some (68, false)⟩,
 ⟨some 71, MOp.bin .sub (Opd.s 70)
 (Opd.c (AV.int .i64 1)), some (68, false)⟩,
 ⟨some 72, MOp.ixa 1 (Opd.s 69) (Opd.s 71), some (68, false)⟩,
 ⟨some 73, MOp.load none (Opd.s 72), some (68, false)⟩,
 ⟨some 74, MOp.mv (Opd.s 6), some (68, false)⟩,
 ⟨some 75, MOp.bin .eql (Opd.s 73) (Opd.s 74), some (68, false)⟩,
 ⟨some 76, MOp.pick (Opd.s 68) (Opd.c (AV.bool true))
 (Opd.s 75), none⟩,
 ⟨some 77, MOp.mv (Opd.s 76), none⟩,
 ⟨some 78, MOp.mv (Opd.s 7), some (77, false)⟩,
 ⟨some 79, MOp.mv (Opd.s 0), some (77, false)⟩,
 ⟨some 80, MOp.len (Opd.s 79), some (77, false)⟩,
 ⟨some 81, MOp.bin .eql (Opd.s 78) (Opd.s 80), some (77, false)⟩,
 ⟨some 82, MOp.pick (Opd.s 77) (Opd.c (AV.bool true))
 (Opd.s 81), none⟩,
 ⟨some 4, MOp.mv (Opd.s 82), none⟩]).seq
 MC.ret)
def M16r1 : MC :=
 (((MC.reg
 [⟨some 9, MOp.mv (Opd.c (AV.int .i64 0)), none⟩]).seq
 (MC.block 2
 (MC.loop M16b0l M16b0))).seq
 M16r0)
def M16 : MFun :=
 ⟨83, [MRes.tmp 0 4], (MC.reg
 [⟨some 4, MOp.mv (Opd.c (AV.bool false)), none⟩]).seq
 ((MC.reg
 [⟨some 10, MOp.call 21 [], none⟩,
 ⟨some 5, MOp.mv (Opd.s 10), none⟩]).seq
 (((MC.reg
 [⟨some 11, MOp.mv (Opd.s 5), none⟩,
 ⟨some 12, MOp.un .not (Opd.s 11), none⟩]).seq
 (MC.cond (Opd.s 12)
 ((MC.reg
 [⟨some 4, MOp.mv (Opd.c (AV.bool false)), none⟩]).seq
 MC.ret)
 MC.skip)).seq
 ((MC.draw
 [⟨some 13, MOp.mv (Opd.s 0), none⟩,
 ⟨some 14, MOp.mv (Opd.s 0), none⟩,
 ⟨some 15, MOp.len (Opd.s 14), none⟩,
 ⟨some 16, MOp.mn [Opd.s 15, Opd.c (AV.int .i64 10)], none⟩,
 ⟨some 17, MOp.slc 1 (Opd.s 13) none (some (Opd.s 16)), none⟩,
 ⟨some 18, MOp.mv (Opd.s 1), none⟩,
 ⟨some 19, MOp.mv (Opd.s 1), none⟩,
 ⟨some 20, MOp.len (Opd.s 19), none⟩,
 ⟨some 21, MOp.mn [Opd.s 20, Opd.c (AV.int .i64 10)], none⟩,
 ⟨some 22, MOp.slc 1 (Opd.s 18) none (some (Opd.s 21)), none⟩,
 ⟨some 0, MOp.mv (Opd.s 17), none⟩,
 ⟨some 1, MOp.mv (Opd.s 22), none⟩]
 [0, 0, 2, 6, 15, 0, 0, 64, 192, 480, 31, 2047]).seq
 ((MC.reg
 [⟨some 24, MOp.mv (Opd.s 0), none⟩,
 ⟨some 25, MOp.mv (Opd.s 1), none⟩,
 ⟨some 26, MOp.call 52 [(1, Opd.s 24), (1, Opd.s 25)], none⟩,
 ⟨some 23, MOp.mv (Opd.s 26), none⟩,
 ⟨some 27, MOp.ext 0 (Opd.s 23), none⟩,
 ⟨some 28, MOp.ext 1 (Opd.s 23), none⟩,
 ⟨some 6, MOp.mv (Opd.s 27), none⟩,
 ⟨some 7, MOp.mv (Opd.s 28), none⟩]).seq
 (((MC.reg
 [⟨some 29, MOp.mv (Opd.s 6), none⟩,
 ⟨some 30, MOp.call 59 [(0, Opd.s 29)], none⟩,
 ⟨some 31, MOp.un .not (Opd.s 30), none⟩,
 ⟨some 32, MOp.mv (Opd.s 31), none⟩,
 ⟨some 33, MOp.mv (Opd.s 7), some (32, false)⟩,
 ⟨some 34, MOp.bin .lss (Opd.s 33)
 (Opd.c (AV.int .i64 0)), some (32, false)⟩,
 ⟨some 35, MOp.pick (Opd.s 32) (Opd.c (AV.bool true))
 (Opd.s 34), none⟩,
 ⟨some 36, MOp.mv (Opd.s 35), none⟩,
 ⟨some 37, MOp.mv (Opd.s 7), some (36, false)⟩,
 ⟨some 38, MOp.mv (Opd.s 0), some (36, false)⟩,
 ⟨some 39, MOp.len (Opd.s 38), some (36, false)⟩,
 ⟨some 40, MOp.bin .gtr (Opd.s 37) (Opd.s 39), some (36, false)⟩,
 ⟨some 41, MOp.pick (Opd.s 36) (Opd.c (AV.bool true))
 (Opd.s 40), none⟩]).seq
 (MC.cond (Opd.s 41)
 ((MC.reg
 [⟨some 4, MOp.mv (Opd.c (AV.bool false)), none⟩]).seq
 MC.ret)
 MC.skip)).seq
 (((MC.reg
 [⟨some 42, MOp.mv (Opd.s 1), none⟩,
 ⟨some 43, MOp.len (Opd.s 42), none⟩,
 ⟨some 44, MOp.mv (Opd.c (AV.int .i64 0)), none⟩]).seq
 (MC.block 0
 (MC.loop M16b1l M16b1))).seq
 M16r1)))))) ⟩
theorem tab16 : tableOf Tryd.prog 16 = some M16 := by kernel_rfl
end Go.Proofs.YtbeimfhodgmjhaaDoor
