/- Functions of the program in the evaluator's form, written out by a program. No conditions. -/
import Derived.Test.YtbeimfhodgmjhaaDoorM8e
set_option linter.unusedVariables false
namespace Go.Proofs.YtbeimfhodgmjhaaDoor
open Go Go.Ab
def M91b0 : MC :=
 (((MC.reg
 [⟨some 8, MOp.mv (Opd.s 3), none⟩,
 ⟨some 9, MOp.bin .neq (Opd.s 8) (Opd.c (AV.str [])), none⟩]).seq
 (MC.cond (Opd.s 9) MC.skip (MC.exit 0))).seq
 (MC.block 1
 ((MC.reg
 [⟨some 11, MOp.mv (Opd.s 3), none⟩,
 ⟨some 12, MOp.call 110 [(0, Opd.s 11)], none⟩,
 ⟨some 10, MOp.mv (Opd.s 12), none⟩,
 ⟨some 13, MOp.ext 0 (Opd.s 10), none⟩,
 ⟨some 14, MOp.ext 1 (Opd.s 10), none⟩,
 ⟨some 15, MOp.ext 2 (Opd.s 10), none⟩,
 ⟨some 4, MOp.mv (Opd.s 13), none⟩,
 ⟨some 5, MOp.mv (Opd.s 14), none⟩,
 ⟨some 6, MOp.mv (Opd.s 15), none⟩]).seq
 (((MC.reg
 [⟨some 16, MOp.mv (Opd.s 6), none⟩,
 ⟨some 17, MOp.un .not (Opd.s 16), none⟩,
 ⟨some 18, MOp.mv (Opd.s 17), none⟩,
 ⟨some 19, MOp.mv (Opd.s 4), some (18, false)⟩,
 ⟨some 20, MOp.call 111 [(0, Opd.s 19)], some (18, false)⟩,
 ⟨some 21, MOp.bin .eql (Opd.s 20)
 (Opd.c (AV.int .i64 0)), some (18, false)⟩,
 ⟨some 22, MOp.pick (Opd.s 18) (Opd.c (AV.bool true))
 (Opd.s 21), none⟩]).seq
 (MC.cond (Opd.s 22)
 ((MC.reg
 [⟨some 2, MOp.mv (Opd.c (AV.bool false)), none⟩]).seq
 MC.ret)
 MC.skip)).seq
 (MC.reg
 [⟨some 23, MOp.mv (Opd.s 3), none⟩,
 ⟨some 24, MOp.mv (Opd.s 5), none⟩,
 ⟨some 25, MOp.sls (Opd.s 23) (some (Opd.s 24)) none, none⟩,
 ⟨some 3, MOp.mv (Opd.s 25), none⟩])))))
def M91b0l : List Bool := [true, false, false, true, false, false, false, false, false, false, false, false, false, false, false, false, false, false, false, false, false, false, false, false, false, false, false, false, false]
def M91r0 : MC :=
 ((MC.reg
 [⟨some 26, MOp.mv (Opd.s 0), none⟩,
 ⟨some 27, MOp.lens (Opd.s 26), none⟩,
 ⟨some 28, MOp.bin .leq (Opd.s 27)
 (Opd.c (AV.int .i64 20)), none⟩,
 ⟨some 2, MOp.mv (Opd.s 28), none⟩]).seq
 MC.ret)
def M91 : MFun :=
 ⟨29, [MRes.tmp 0 2], (MC.reg
 [⟨some 2, MOp.mv (Opd.c (AV.bool false)), none⟩]).seq
 (((MC.reg
 [⟨some 7, MOp.mv (Opd.s 0), none⟩,
 ⟨some 3, MOp.mv (Opd.s 7), none⟩]).seq
 (MC.block 0
 (MC.loop M91b0l M91b0))).seq
 M91r0) ⟩
def M110b0 : MC :=
 (((MC.reg
 [⟨some 45, MOp.mv (Opd.s 9), none⟩,
 ⟨some 46, MOp.mv (Opd.s 6), none⟩,
 ⟨some 47, MOp.bin .lss (Opd.s 45) (Opd.s 46), none⟩]).seq
 (MC.cond (Opd.s 47) MC.skip (MC.exit 1))).seq
 ((MC.block 2
 (((MC.reg
 [⟨some 50, MOp.mv (Opd.s 9), none⟩,
 ⟨some 51, MOp.mv (Opd.s 0), none⟩,
 ⟨some 52, MOp.lens (Opd.s 51), none⟩,
 ⟨some 53, MOp.bin .geq (Opd.s 50) (Opd.s 52), none⟩,
 ⟨some 54, MOp.mv (Opd.s 53), none⟩,
 ⟨some 55, MOp.mv (Opd.s 0), some (54, false)⟩,
 ⟨some 56, MOp.mv (Opd.s 9), some (54, false)⟩,
 ⟨some 57, MOp.ixs (Opd.s 55) (Opd.s 56), some (54, false)⟩,
 ⟨some 58, MOp.bin .lss (Opd.s 57)
 (Opd.c (AV.int .u8 128)), some (54, false)⟩,
 ⟨some 59, MOp.pick (Opd.s 54) (Opd.c (AV.bool true))
 (Opd.s 58), none⟩,
 ⟨some 60, MOp.mv (Opd.s 59), none⟩,
 ⟨some 61, MOp.mv (Opd.s 0), some (60, false)⟩,
 ⟨some 62, MOp.mv (Opd.s 9), some (60, false)⟩,
 ⟨some 63, MOp.ixs (Opd.s 61) (Opd.s 62), some (60, false)⟩,
 ⟨some 64, MOp.bin .geq (Opd.s 63)
 (Opd.c (AV.int .u8 192)), some (60, false)⟩,
 ⟨some 65, MOp.pick (Opd.s 60) (Opd.c (AV.bool true))
 (Opd.s 64), none⟩]).seq
 (MC.cond (Opd.s 65)
 ((MC.reg
 [⟨some 2, MOp.mv
 (Opd.c (AV.int .i64 0)), none⟩,
 ⟨some 3, MOp.mv
 (Opd.c (AV.int .i64 1)), none⟩,
 ⟨some 4, MOp.mv (Opd.c (AV.bool false)), none⟩]).seq
 MC.ret)
 MC.skip)).seq
 (MC.reg
 [⟨some 66, MOp.mv (Opd.s 8), none⟩,
 ⟨some 67, MOp.bin .mul (Opd.s 66)
 (Opd.c (AV.int .i64 64)), none⟩,
 ⟨some 68, MOp.mv (Opd.s 0), none⟩,
 ⟨some 69, MOp.mv (Opd.s 9), none⟩,
 ⟨some 70, MOp.ixs (Opd.s 68) (Opd.s 69), none⟩,
 ⟨some 71, MOp.conv (Cv.toInt .i64) (Opd.s 70), none⟩,
 ⟨some 72, MOp.bin .add (Opd.s 67) (Opd.s 71), none⟩,
 ⟨some 73, MOp.bin .sub (Opd.s 72)
 (Opd.c (AV.int .i64 128)), none⟩,
 ⟨some 8, MOp.mv (Opd.s 73), none⟩]))).seq
 (MC.reg
 [⟨some 48, MOp.mv (Opd.s 9), none⟩,
 ⟨some 49, MOp.bin .add (Opd.s 48)
 (Opd.c (AV.int .i64 1)), none⟩,
 ⟨some 9, MOp.mv (Opd.s 49), none⟩])))
def M110b0l : List Bool := [true, false, false, false, false, false, true, true, true, true, false, false, false, false, false, false, false, false, false, false, false, false, false, false, false, false, false, false, false, false, false, false, false, false, false, false, false, false, false, false, false, false, false, false, false, false, false, false, false, false, false, false, false, false, false, false, false, false, false, false, false, false, false, false, false, false, false, false, false, false, false, false, false, false, false, false, false, false, false, false, false, false, false, false, false, false, false, false, false, false, false]
def M110r0 : MC :=
 (((MC.reg
 [⟨some 74, MOp.mv (Opd.s 8), none⟩,
 ⟨some 75, MOp.mv (Opd.s 7), none⟩,
 ⟨some 76, MOp.bin .lss (Opd.s 74) (Opd.s 75), none⟩,
 ⟨some 77, MOp.mv (Opd.s 76), none⟩,
 ⟨some 78, MOp.mv (Opd.s 8), some (77, false)⟩,
 ⟨some 79, MOp.bin .geq (Opd.s 78)
 (Opd.c (AV.int .i64 55296)), some (77, false)⟩,
 ⟨some 80, MOp.mv (Opd.s 79), some (77, false)⟩,
 ⟨some 81, MOp.mv (Opd.s 8), some (80, true)⟩,
 ⟨some 82, MOp.bin .lss (Opd.s 81)
 (Opd.c (AV.int .i64 57344)), some (80, true)⟩,
 ⟨some 83, MOp.pick (Opd.s 80) (Opd.s 82)
 (Opd.c (AV.bool false)), some (77, false)⟩,
 ⟨some 84, MOp.pick (Opd.s 77) (Opd.c (AV.bool true))
 (Opd.s 83), none⟩,
 ⟨some 85, MOp.mv (Opd.s 84), none⟩,
 ⟨some 86, MOp.mv (Opd.s 8), some (85, false)⟩,
 ⟨some 87, MOp.bin .gtr (Opd.s 86)
 (Opd.c (AV.int .i64 1114111)), some (85, false)⟩,
 ⟨some 88, MOp.pick (Opd.s 85) (Opd.c (AV.bool true))
 (Opd.s 87), none⟩]).seq
 (MC.cond (Opd.s 88)
 ((MC.reg
 [⟨some 2, MOp.mv (Opd.c (AV.int .i64 0)), none⟩,
 ⟨some 3, MOp.mv (Opd.c (AV.int .i64 1)), none⟩,
 ⟨some 4, MOp.mv (Opd.c (AV.bool false)), none⟩]).seq
 MC.ret)
 MC.skip)).seq
 ((MC.reg
 [⟨some 89, MOp.mv (Opd.s 8), none⟩,
 ⟨some 90, MOp.mv (Opd.s 6), none⟩,
 ⟨some 2, MOp.mv (Opd.s 89), none⟩,
 ⟨some 3, MOp.mv (Opd.s 90), none⟩,
 ⟨some 4, MOp.mv (Opd.c (AV.bool true)), none⟩]).seq
 MC.ret))
def M110 : MFun :=
 ⟨91, [MRes.tmp 0 2, MRes.tmp 0 3, MRes.tmp 0 4], (MC.reg
 [⟨some 2, MOp.mv (Opd.c (AV.int .i64 0)), none⟩,
 ⟨some 3, MOp.mv (Opd.c (AV.int .i64 0)), none⟩,
 ⟨some 4, MOp.mv (Opd.c (AV.bool false)), none⟩]).seq
 ((MC.reg
 [⟨some 10, MOp.mv (Opd.s 0), none⟩,
 ⟨some 11, MOp.ixs (Opd.s 10) (Opd.c (AV.int .i64 0)), none⟩,
 ⟨some 12, MOp.conv (Cv.toInt .i64) (Opd.s 11), none⟩,
 ⟨some 5, MOp.mv (Opd.s 12), none⟩]).seq
 ((MC.reg
 [⟨some 13, MOp.mv (Opd.s 5), none⟩,
 ⟨some 6, MOp.mv (Opd.c (AV.int .i64 1)), none⟩,
 ⟨some 7, MOp.mv (Opd.c (AV.int .i64 0)), none⟩,
 ⟨some 8, MOp.mv (Opd.s 13), none⟩]).seq
 ((MC.block 0
 ((MC.reg
 [⟨some 15, MOp.mv (Opd.s 5), none⟩,
 ⟨some 16, MOp.bin .lss (Opd.s 15)
 (Opd.c (AV.int .i64 128)), none⟩,
 ⟨some 14, MOp.mv (Opd.s 16), none⟩]).seq
 (MC.cond (Opd.s 14)
 ((MC.reg
 [⟨some 17, MOp.mv (Opd.s 5), none⟩,
 ⟨some 2, MOp.mv (Opd.s 17), none⟩,
 ⟨some 3, MOp.mv (Opd.c (AV.int .i64 1)), none⟩,
 ⟨some 4, MOp.mv (Opd.c (AV.bool true)), none⟩]).seq
 MC.ret)
 ((MC.reg
 [⟨some 19, MOp.mv (Opd.s 5), none⟩,
 ⟨some 20, MOp.bin .geq (Opd.s 19)
 (Opd.c (AV.int .i64 194)), none⟩,
 ⟨some 21, MOp.mv (Opd.s 20), none⟩,
 ⟨some 22, MOp.mv (Opd.s 5), some (21, true)⟩,
 ⟨some 23, MOp.bin .lss (Opd.s 22)
 (Opd.c (AV.int .i64 224)), some (21, true)⟩,
 ⟨some 24, MOp.pick (Opd.s 21) (Opd.s 23)
 (Opd.c (AV.bool false)), none⟩,
 ⟨some 18, MOp.mv (Opd.s 24), none⟩]).seq
 (MC.cond (Opd.s 18)
 (MC.reg
 [⟨some 25, MOp.mv (Opd.s 5), none⟩,
 ⟨some 26, MOp.bin .sub (Opd.s 25)
 (Opd.c (AV.int .i64 192)), none⟩,
 ⟨some 6, MOp.mv (Opd.c (AV.int .i64 2)), none⟩,
 ⟨some 7, MOp.mv (Opd.c (AV.int .i64 128)), none⟩,
 ⟨some 8, MOp.mv (Opd.s 26), none⟩])
 ((MC.reg
 [⟨some 28, MOp.mv (Opd.s 5), none⟩,
 ⟨some 29, MOp.bin .geq (Opd.s 28)
 (Opd.c (AV.int .i64 224)), none⟩,
 ⟨some 30, MOp.mv (Opd.s 29), none⟩,
 ⟨some 31, MOp.mv (Opd.s 5), some (30, true)⟩,
 ⟨some 32, MOp.bin .lss (Opd.s 31)
 (Opd.c (AV.int .i64 240)), some (30, true)⟩,
 ⟨some 33, MOp.pick (Opd.s 30) (Opd.s 32)
 (Opd.c (AV.bool false)), none⟩,
 ⟨some 27, MOp.mv (Opd.s 33), none⟩]).seq
 (MC.cond (Opd.s 27)
 (MC.reg
 [⟨some 34, MOp.mv (Opd.s 5), none⟩,
 ⟨some 35, MOp.bin .sub (Opd.s 34)
 (Opd.c (AV.int .i64 224)), none⟩,
 ⟨some 6, MOp.mv (Opd.c (AV.int .i64 3)), none⟩,
 ⟨some 7, MOp.mv (Opd.c (AV.int .i64 2048)), none⟩,
 ⟨some 8, MOp.mv (Opd.s 35), none⟩])
 ((MC.reg
 [⟨some 37, MOp.mv (Opd.s 5), none⟩,
 ⟨some 38, MOp.bin .geq (Opd.s 37)
 (Opd.c (AV.int .i64 240)), none⟩,
 ⟨some 39, MOp.mv (Opd.s 38), none⟩,
 ⟨some 40, MOp.mv (Opd.s 5), some (39, true)⟩,
 ⟨some 41, MOp.bin .lss (Opd.s 40)
 (Opd.c (AV.int .i64 245)), some (39, true)⟩,
 ⟨some 42, MOp.pick (Opd.s 39) (Opd.s 41)
 (Opd.c (AV.bool false)), none⟩,
 ⟨some 36, MOp.mv (Opd.s 42), none⟩]).seq
 (MC.cond (Opd.s 36)
 (MC.reg
 [⟨some 43, MOp.mv (Opd.s 5), none⟩,
 ⟨some 44, MOp.bin .sub (Opd.s 43)
 (Opd.c (AV.int .i64 240)), none⟩,
 ⟨some 6, MOp.mv (Opd.c (AV.int .i64 4)), none⟩,
 ⟨some 7, MOp.mv (Opd.c (AV.int .i64 65536)), none⟩,
 ⟨some 8, MOp.mv (Opd.s 44), none⟩])
 ((MC.reg
 [⟨some 2, MOp.mv (Opd.c (AV.int .i64 0)), none⟩,
 ⟨some 3, MOp.mv (Opd.c (AV.int .i64 1)), none⟩,
 ⟨some 4, MOp.mv (Opd.c (AV.bool false)), none⟩]).seq
 MC.ret)))))))))).seq
 (((MC.reg
 [⟨some 9, MOp.mv (Opd.c (AV.int .i64 1)), none⟩]).seq
 (MC.block 1
 (MC.loop M110b0l M110b0))).seq
 M110r0)))) ⟩
def M111 : MFun :=
 ⟨51, [MRes.tmp 0 2], (MC.reg
 [⟨some 2, MOp.mv (Opd.c (AV.int .i64 0)), none⟩]).seq
 ((MC.block 0
 ((MC.reg
 [⟨some 4, MOp.mv (Opd.s 0), none⟩,
 ⟨some 5, MOp.bin .geq (Opd.s 4)
 (Opd.c (AV.int .i64 97)), none⟩,
 ⟨some 6, MOp.mv (Opd.s 5), none⟩,
 ⟨some 7, MOp.mv (Opd.s 0), some (6, true)⟩,
 ⟨some 8, MOp.bin .leq (Opd.s 7)
 (Opd.c (AV.int .i64 122)), some (6, true)⟩,
 ⟨some 9, MOp.pick (Opd.s 6) (Opd.s 8) (Opd.c (AV.bool false)), none⟩,
 ⟨some 10, MOp.mv (Opd.s 9), none⟩,
 ⟨some 11, MOp.mv (Opd.s 0), some (10, false)⟩,
 ⟨some 12, MOp.bin .geq (Opd.s 11)
 (Opd.c (AV.int .i64 65)), some (10, false)⟩,
 ⟨some 13, MOp.mv (Opd.s 12), some (10, false)⟩,
 ⟨some 14, MOp.mv (Opd.s 0), some (13, true)⟩,
 ⟨some 15, MOp.bin .leq (Opd.s 14)
 (Opd.c (AV.int .i64 90)), some (13, true)⟩,
 ⟨some 16, MOp.pick (Opd.s 13) (Opd.s 15) (Opd.c (AV.bool false)), some (10, false)⟩,
 ⟨some 17, MOp.pick (Opd.s 10) (Opd.c (AV.bool true)) (Opd.s 16), none⟩,
 ⟨some 3, MOp.mv (Opd.s 17), none⟩]).seq
 (MC.cond (Opd.s 3)
 ((MC.reg
 [⟨some 2, MOp.mv (Opd.c (AV.int .i64 1)), none⟩]).seq
 MC.ret)
 ((MC.reg
 [⟨some 19, MOp.mv (Opd.s 0), none⟩,
 ⟨some 20, MOp.bin .geq (Opd.s 19)
 (Opd.c (AV.int .i64 48)), none⟩,
 ⟨some 21, MOp.mv (Opd.s 20), none⟩,
 ⟨some 22, MOp.mv (Opd.s 0), some (21, true)⟩,
 ⟨some 23, MOp.bin .leq (Opd.s 22)
 (Opd.c (AV.int .i64 57)), some (21, true)⟩,
 ⟨some 24, MOp.pick (Opd.s 21) (Opd.s 23) (Opd.c (AV.bool false)), none⟩,
 ⟨some 18, MOp.mv (Opd.s 24), none⟩]).seq
 (MC.cond (Opd.s 18)
 ((MC.reg
 [⟨some 2, MOp.mv (Opd.c (AV.int .i64 2)), none⟩]).seq
 MC.ret)
 ((MC.reg
 [⟨some 26, MOp.mv (Opd.s 0), none⟩,
 ⟨some 27, MOp.bin .geq (Opd.s 26)
 (Opd.c (AV.int .i64 32)), none⟩,
 ⟨some 28, MOp.mv (Opd.s 27), none⟩,
 ⟨some 29, MOp.mv (Opd.s 0), some (28, true)⟩,
 ⟨some 30, MOp.bin .leq (Opd.s 29)
 (Opd.c (AV.int .i64 126)), some (28, true)⟩,
 ⟨some 31, MOp.pick (Opd.s 28) (Opd.s 30)
 (Opd.c (AV.bool false)), none⟩,
 ⟨some 25, MOp.mv (Opd.s 31), none⟩]).seq
 (MC.cond (Opd.s 25)
 ((MC.reg
 [⟨some 2, MOp.mv (Opd.c (AV.int .i64 3)), none⟩]).seq
 MC.ret)
 ((MC.reg
 [⟨some 33, MOp.mv (Opd.s 0), none⟩,
 ⟨some 34, MOp.bin .geq (Opd.s 33)
 (Opd.c (AV.int .i64 160)), none⟩,
 ⟨some 35, MOp.mv (Opd.s 34), none⟩,
 ⟨some 36, MOp.mv (Opd.s 0), some (35, true)⟩,
 ⟨some 37, MOp.bin .leq (Opd.s 36)
 (Opd.c (AV.int .i64 1114111)), some (35, true)⟩,
 ⟨some 38, MOp.pick (Opd.s 35) (Opd.s 37)
 (Opd.c (AV.bool false)), none⟩,
 ⟨some 39, MOp.mv (Opd.s 38), none⟩,
 ⟨some 40, MOp.mv (Opd.s 0), some (39, true)⟩,
 ⟨some 41, MOp.bin .neq (Opd.s 40)
 (Opd.c (AV.int .i64 65533)), some (39, true)⟩,
 ⟨some 42, MOp.pick (Opd.s 39) (Opd.s 41)
 (Opd.c (AV.bool false)), none⟩,
 ⟨some 43, MOp.mv (Opd.s 42), none⟩,
 ⟨some 44, MOp.mv (Opd.s 0), some (43, true)⟩,
 ⟨some 45, MOp.bin .lss (Opd.s 44)
 (Opd.c (AV.int .i64 55296)), some (43, true)⟩,
 ⟨some 46, MOp.mv (Opd.s 45), some (43, true)⟩,
 ⟨some 47, MOp.mv (Opd.s 0), some (46, false)⟩,
 ⟨some 48, MOp.bin .gtr (Opd.s 47)
 (Opd.c (AV.int .i64 57343)), some (46, false)⟩,
 ⟨some 49, MOp.pick (Opd.s 46) (Opd.c (AV.bool true))
 (Opd.s 48), some (43, true)⟩,
 ⟨some 50, MOp.pick (Opd.s 43) (Opd.s 49)
 (Opd.c (AV.bool false)), none⟩,
 ⟨some 32, MOp.mv (Opd.s 50), none⟩]).seq
 (MC.cond (Opd.s 32)
 ((MC.reg
 [⟨some 2, MOp.mv (Opd.c (AV.int .i64 4)), none⟩]).seq
 MC.ret)
 MC.skip))))))))).seq
 ((MC.reg
 [⟨some 2, MOp.mv (Opd.c (AV.int .i64 0)), none⟩]).seq
 MC.ret)) ⟩
theorem tab91 : tableOf Tryd.prog 91 = some M91 := by kernel_rfl
theorem tab110 : tableOf Tryd.prog 110 = some M110 := by kernel_rfl
theorem tab111 : tableOf Tryd.prog 111 = some M111 := by kernel_rfl
end Go.Proofs.YtbeimfhodgmjhaaDoor
