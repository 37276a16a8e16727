/- Functions of the program in the evaluator's form, written out by a program. No conditions. -/
import Derived.Test.YthcblggiojpmcaaDoorM4
set_option linter.unusedVariables false
namespace Go.Proofs.YthcblggiojpmcaaDoor
open Go Go.Ab
def M6 : MFun :=
 ⟨101, [MRes.tmp 0 4], (MC.reg
 [⟨some 2, MOp.box (Opd.s 0), none⟩,
 ⟨some 3, MOp.box (Opd.s 1), none⟩,
 ⟨some 4, MOp.mv (Opd.c (AV.bool false)), none⟩]).seq
 ((MC.reg
 [⟨some 14, MOp.call 20 [], none⟩,
 ⟨some 5, MOp.mv (Opd.s 14), none⟩]).seq
 (((MC.reg
 [⟨some 15, MOp.mv (Opd.s 5), none⟩,
 ⟨some 16, MOp.un .not (Opd.s 15), none⟩]).seq
 (MC.cond (Opd.s 16)
 ((MC.reg
 [⟨some 4, MOp.mv (Opd.c (AV.bool false)), none⟩]).seq
 MC.ret)
 MC.skip)).seq
 ((MC.draw
 [⟨some 17, MOp.load (some 9) (Opd.s 2), none⟩,
 ⟨some 18, MOp.call 32 [(0, Opd.s 17)], none⟩,
 ⟨some 19, MOp.load (some 9) (Opd.s 3), none⟩,
 ⟨some 20, MOp.call 32 [(0, Opd.s 19)], none⟩,
 ⟨none, MOp.store 9 (Opd.s 2) (Opd.s 18), none⟩,
 ⟨none, MOp.store 9 (Opd.s 3) (Opd.s 20), none⟩]
 [0, 1, 0, 7, 15, 31]).seq
 ((MC.reg
 [⟨some 22, MOp.load (some 9) (Opd.s 2), none⟩,
 ⟨some 23, MOp.call 40 [(0, Opd.s 22)], none⟩,
 ⟨some 21, MOp.mv (Opd.s 23), none⟩,
 ⟨some 24, MOp.ext 0 (Opd.s 21), none⟩,
 ⟨some 25, MOp.ext 1 (Opd.s 21), none⟩,
 ⟨some 6, MOp.alloc
 [AV.int .i64 0, AV.int .i64 0,
 AV.bool false, AV.nili, AV.str []], none⟩,
 ⟨none, MOp.store 5 (Opd.s 6) (Opd.s 24), none⟩,
 ⟨some 7, MOp.mv (Opd.s 25), none⟩]).seq
 ((MC.reg
 [⟨some 27, MOp.load (some 9) (Opd.s 3), none⟩,
 ⟨some 28, MOp.call 40 [(0, Opd.s 27)], none⟩,
 ⟨some 26, MOp.mv (Opd.s 28), none⟩,
 ⟨some 29, MOp.ext 0 (Opd.s 26), none⟩,
 ⟨some 30, MOp.ext 1 (Opd.s 26), none⟩,
 ⟨some 8, MOp.alloc
 [AV.int .i64 0, AV.int .i64 0,
 AV.bool false, AV.nili, AV.str []], none⟩,
 ⟨none, MOp.store 5 (Opd.s 8) (Opd.s 29), none⟩,
 ⟨some 9, MOp.mv (Opd.s 30), none⟩]).seq
 (((MC.reg
 [⟨some 31, MOp.mv (Opd.s 7), none⟩,
 ⟨some 32, MOp.load (some 9) (Opd.s 2), none⟩,
 ⟨some 33, MOp.call 41 [(0, Opd.s 32)], none⟩,
 ⟨some 34, MOp.eqv true (EqK.flat (EqF.one SK.b)) (Opd.s 31)
 (Opd.s 33), none⟩,
 ⟨some 35, MOp.mv (Opd.s 34), none⟩,
 ⟨some 36, MOp.mv (Opd.s 9), some (35, false)⟩,
 ⟨some 37, MOp.load (some 9) (Opd.s 3), some (35, false)⟩,
 ⟨some 38, MOp.call 41 [(0, Opd.s 37)], some (35, false)⟩,
 ⟨some 39, MOp.eqv true (EqK.flat (EqF.one SK.b)) (Opd.s 36)
 (Opd.s 38), some (35, false)⟩,
 ⟨some 40, MOp.pick (Opd.s 35) (Opd.c (AV.bool true))
 (Opd.s 39), none⟩]).seq
 (MC.cond (Opd.s 40)
 ((MC.reg
 [⟨some 4, MOp.mv (Opd.c (AV.bool false)), none⟩]).seq
 MC.ret)
 MC.skip)).seq
 (((MC.reg
 [⟨some 41, MOp.mv (Opd.s 7), none⟩,
 ⟨some 42, MOp.un .not (Opd.s 41), none⟩]).seq
 (MC.cond (Opd.s 42)
 ((MC.reg
 [⟨some 43, MOp.fa 3 (Opd.s 6), none⟩,
 ⟨some 44, MOp.load none (Opd.s 43), none⟩,
 ⟨some 45, MOp.eqv false
 (EqK.ifc oks)
 (Opd.s 44) (Opd.c AV.nili), none⟩,
 ⟨some 46, MOp.mv (Opd.s 45), none⟩,
 ⟨some 47, MOp.fa 4 (Opd.s 6), some (46, true)⟩,
 ⟨some 48, MOp.load none (Opd.s 47), some (46, true)⟩,
 ⟨some 49, MOp.bin .eql (Opd.s 48) (Opd.c (AV.str [])), some (46, true)⟩,
 ⟨some 50, MOp.pick (Opd.s 46) (Opd.s 49)
 (Opd.c (AV.bool false)), none⟩,
 ⟨some 4, MOp.mv (Opd.s 50), none⟩]).seq
 MC.ret)
 MC.skip)).seq
 ((MC.reg
 [⟨some 52, MOp.load (some 5) (Opd.s 6), none⟩,
 ⟨some 53, MOp.call 42 [(0, Opd.s 52)], none⟩,
 ⟨some 51, MOp.mv (Opd.s 53), none⟩,
 ⟨some 54, MOp.ext 0 (Opd.s 51), none⟩,
 ⟨some 55, MOp.ext 1 (Opd.s 51), none⟩,
 ⟨some 10, MOp.mv (Opd.s 54), none⟩,
 ⟨some 11, MOp.mv (Opd.s 55), none⟩]).seq
 ((MC.reg
 [⟨some 57, MOp.mv (Opd.s 10), none⟩,
 ⟨some 58, MOp.call 43 [(1, Opd.s 57)], none⟩,
 ⟨some 56, MOp.mv (Opd.s 58), none⟩,
 ⟨some 59, MOp.ext 0 (Opd.s 56), none⟩,
 ⟨some 60, MOp.ext 1 (Opd.s 56), none⟩,
 ⟨some 12, MOp.alloc
 [AV.int .i64 0,
 AV.int .i64 0, AV.bool false,
 AV.nili, AV.str []], none⟩,
 ⟨none, MOp.store 5 (Opd.s 12) (Opd.s 59), none⟩,
 ⟨some 13, MOp.mv (Opd.s 60), none⟩]).seq
 ((MC.draw
 [⟨some 61, MOp.mv (Opd.s 11), none⟩,
 ⟨some 62, MOp.mv (Opd.s 61), none⟩,
 ⟨some 63, MOp.mv (Opd.s 10), some (62, true)⟩,
 ⟨some 64, MOp.conv Cv.b2s (Opd.s 63), some (62, true)⟩,
 ⟨some 65, MOp.load (some 9) (Opd.s 2), some (62, true)⟩,
 ⟨some 66, MOp.call 44 [(0, Opd.s 65)], some (62, true)⟩,
 ⟨some 67, MOp.conv Cv.b2s (Opd.s 66), some (62, true)⟩,
 ⟨some 68, MOp.bin .eql (Opd.s 64) (Opd.s 67), some (62, true)⟩,
 ⟨some 69, MOp.pick (Opd.s 62) (Opd.s 68)
 (Opd.c (AV.bool false)), none⟩,
 ⟨some 70, MOp.mv (Opd.s 69), none⟩,
 ⟨some 71, MOp.mv (Opd.s 13), some (70, true)⟩,
 ⟨some 72, MOp.pick (Opd.s 70) (Opd.s 71)
 (Opd.c (AV.bool false)), none⟩,
 ⟨some 73, MOp.mv (Opd.s 72), none⟩,
 ⟨some 74, MOp.load (some 5) (Opd.s 12), some (73, true)⟩,
 ⟨some 75, MOp.load (some 5) (Opd.s 6), some (73, true)⟩,
 ⟨some 76, MOp.call 45 [(0, Opd.s 74), (0, Opd.s 75)], some (73, true)⟩,
 ⟨some 77, MOp.pick (Opd.s 73) (Opd.s 76)
 (Opd.c (AV.bool false)), none⟩,
 ⟨some 78, MOp.mv (Opd.s 77), none⟩,
 ⟨some 79, MOp.load (some 5) (Opd.s 6), some (78, true)⟩,
 ⟨some 80, MOp.call 46 [(0, Opd.s 79)], some (78, true)⟩,
 ⟨some 81, MOp.load (some 9) (Opd.s 2), some (78, true)⟩,
 ⟨some 82, MOp.eqv false
 (EqK.flat
 (EqF.many
 [SK.i, SK.i, SK.b, SK.i, SK.i, SK.i,
 SK.i, SK.b, SK.s]))
 (Opd.s 80) (Opd.s 81), some (78, true)⟩,
 ⟨some 83, MOp.pick (Opd.s 78) (Opd.s 82)
 (Opd.c (AV.bool false)), none⟩,
 ⟨some 84, MOp.mv (Opd.s 83), none⟩,
 ⟨some 85, MOp.load (some 5) (Opd.s 6), some (84, true)⟩,
 ⟨some 86, MOp.call 47 [(0, Opd.s 85)], some (84, true)⟩,
 ⟨some 87, MOp.pick (Opd.s 84) (Opd.s 86)
 (Opd.c (AV.bool false)), none⟩,
 ⟨some 88, MOp.mv (Opd.s 87), none⟩,
 ⟨some 89, MOp.mv (Opd.s 9), some (88, true)⟩,
 ⟨some 90, MOp.un .not (Opd.s 89), some (88, true)⟩,
 ⟨some 91, MOp.mv (Opd.s 90), some (88, true)⟩,
 ⟨some 92, MOp.load (some 5) (Opd.s 6), some (91, false)⟩,
 ⟨some 93, MOp.load (some 5) (Opd.s 8), some (91, false)⟩,
 ⟨some 94, MOp.call 45 [(0, Opd.s 92), (0, Opd.s 93)], some (91, false)⟩,
 ⟨some 95, MOp.load (some 9) (Opd.s 2), some (91, false)⟩,
 ⟨some 96, MOp.load (some 9) (Opd.s 3), some (91, false)⟩,
 ⟨some 97, MOp.eqv false
 (EqK.flat
 (EqF.many
 [SK.i, SK.i, SK.b, SK.i, SK.i, SK.i,
 SK.i, SK.b, SK.s]))
 (Opd.s 95) (Opd.s 96), some (91, false)⟩,
 ⟨some 98, MOp.eqv false (EqK.flat (EqF.one SK.b))
 (Opd.s 94) (Opd.s 97), some (91, false)⟩,
 ⟨some 99, MOp.pick (Opd.s 91) (Opd.c (AV.bool true))
 (Opd.s 98), some (88, true)⟩,
 ⟨some 100, MOp.pick (Opd.s 88) (Opd.s 99)
 (Opd.c (AV.bool false)), none⟩,
 ⟨some 4, MOp.mv (Opd.s 100), none⟩]
 [0, 1, 3, 7, 3, 19, 51, 127, 255, 511, 1023, 2047, 4095, 8191, 8191, 32767, 65535,
 131071, 262143, 524287, 262143, 2097151, 4194303, 8388607, 16777215, 33554431,
 67108863, 134217727, 268435455, 536870911, 1073741823, 2147483647, 2147483647,
 8589934591, 2147483647, 2147483647, 53687091199, 137438953471, 274877906943,
 549755813887, 1099511627775]).seq
 MC.ret)))))))))) ⟩
theorem tab6 : tableOf Tryd.prog 6 = some M6 := by kernel_rfl
end Go.Proofs.YthcblggiojpmcaaDoor
