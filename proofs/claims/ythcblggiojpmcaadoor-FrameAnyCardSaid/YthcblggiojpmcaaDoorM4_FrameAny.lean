/- Functions of the program in the evaluator's form, written out by a program. No conditions. -/
import Derived.Test.YthcblggiojpmcaaDoorM4
set_option linter.unusedVariables false
namespace Go.Proofs.YthcblggiojpmcaaDoor
open Go Go.Ab
def M7 : MFun :=
 ⟨118, [MRes.tmp 0 4], (MC.reg
 [⟨some 3, MOp.box (Opd.s 1), none⟩,
 ⟨some 4, MOp.mv (Opd.c (AV.bool false)), none⟩]).seq
 ((MC.reg
 [⟨some 16, MOp.call 20 [], none⟩,
 ⟨some 5, MOp.mv (Opd.s 16), none⟩]).seq
 (((MC.reg
 [⟨some 17, MOp.mv (Opd.s 5), none⟩,
 ⟨some 18, MOp.un .not (Opd.s 17), none⟩]).seq
 (MC.cond (Opd.s 18)
 ((MC.reg
 [⟨some 4, MOp.mv (Opd.c (AV.bool false)), none⟩]).seq
 MC.ret)
 MC.skip)).seq
 ((MC.reg
 [⟨some 19, MOp.mv (Opd.s 0), none⟩,
 ⟨some 20, MOp.call 48
 [(1, Opd.s 19), (0, Opd.c (AV.int .i64 75))], none⟩,
 ⟨some 0, MOp.mv (Opd.s 20), none⟩]).seq
 ((MC.reg
 [⟨some 22, MOp.mv (Opd.s 0), none⟩,
 ⟨some 23, MOp.call 43 [(1, Opd.s 22)], none⟩,
 ⟨some 21, MOp.mv (Opd.s 23), none⟩,
 ⟨some 24, MOp.ext 0 (Opd.s 21), none⟩,
 ⟨some 25, MOp.ext 1 (Opd.s 21), none⟩,
 ⟨some 6, MOp.alloc
 [AV.int .i64 0, AV.int .i64 0,
 AV.bool false, AV.nili, AV.str []], none⟩,
 ⟨none, MOp.store 5 (Opd.s 6) (Opd.s 24), none⟩,
 ⟨some 7, MOp.mv (Opd.s 25), none⟩]).seq
 ((MC.reg
 [⟨some 27, MOp.mv (Opd.s 0), none⟩,
 ⟨some 28, MOp.call 49 [(1, Opd.s 27)], none⟩,
 ⟨some 26, MOp.mv (Opd.s 28), none⟩,
 ⟨some 29, MOp.ext 0 (Opd.s 26), none⟩,
 ⟨some 30, MOp.ext 1 (Opd.s 26), none⟩,
 ⟨some 8, MOp.alloc
 [AV.int .i64 0, AV.int .i64 0,
 AV.bool false, AV.int .i64 0,
 AV.int .i64 0, AV.int .i64 0,
 AV.int .i64 0, AV.bool false, AV.str []], none⟩,
 ⟨none, MOp.store 9 (Opd.s 8) (Opd.s 29), none⟩,
 ⟨some 9, MOp.mv (Opd.s 30), none⟩]).seq
 (((MC.draw
 [⟨some 31, MOp.mv (Opd.s 7), none⟩,
 ⟨some 32, MOp.mv (Opd.s 9), none⟩,
 ⟨some 33, MOp.eqv true (EqK.flat (EqF.one SK.b)) (Opd.s 31)
 (Opd.s 32), none⟩,
 ⟨some 34, MOp.mv (Opd.s 33), none⟩,
 ⟨some 35, MOp.mv (Opd.s 7), some (34, false)⟩,
 ⟨some 36, MOp.mv (Opd.s 35), some (34, false)⟩,
 ⟨some 37, MOp.load (some 5) (Opd.s 6), some (36, true)⟩,
 ⟨some 38, MOp.call 46 [(0, Opd.s 37)], some (36, true)⟩,
 ⟨some 39, MOp.load (some 9) (Opd.s 8), some (36, true)⟩,
 ⟨some 40, MOp.eqv true
 (EqK.flat
 (EqF.many
 [SK.i, SK.i, SK.b, SK.i, SK.i, SK.i,
 SK.i, SK.b, SK.s]))
 (Opd.s 38) (Opd.s 39), some (36, true)⟩,
 ⟨some 41, MOp.pick (Opd.s 36) (Opd.s 40)
 (Opd.c (AV.bool false)), some (34, false)⟩,
 ⟨some 42, MOp.pick (Opd.s 34) (Opd.c (AV.bool true))
 (Opd.s 41), none⟩,
 ⟨some 43, MOp.mv (Opd.s 42), none⟩,
 ⟨some 44, MOp.mv (Opd.s 7), some (43, false)⟩,
 ⟨some 45, MOp.un .not (Opd.s 44), some (43, false)⟩,
 ⟨some 46, MOp.mv (Opd.s 45), some (43, false)⟩,
 ⟨some 47, MOp.fa 3 (Opd.s 6), some (46, true)⟩,
 ⟨some 48, MOp.load none (Opd.s 47), some (46, true)⟩,
 ⟨some 49, MOp.eqv true
 (EqK.ifc oks)
 (Opd.s 48) (Opd.c AV.nili), some (46, true)⟩,
 ⟨some 50, MOp.pick (Opd.s 46) (Opd.s 49)
 (Opd.c (AV.bool false)), some (43, false)⟩,
 ⟨some 51, MOp.pick (Opd.s 43) (Opd.c (AV.bool true))
 (Opd.s 50), none⟩]
 [0, 0, 3, 7, 15, 31, 63, 127, 63, 511, 1023, 2047, 4095, 8191, 16383, 32767, 65535, 131071,
 262143, 524287, 1048575]).seq
 (MC.cond (Opd.s 51)
 ((MC.reg
 [⟨some 4, MOp.mv (Opd.c (AV.bool false)), none⟩]).seq
 MC.ret)
 MC.skip)).seq
 (((MC.reg
 [⟨some 52, MOp.mv (Opd.s 7), none⟩]).seq
 (MC.cond (Opd.s 52)
 ((MC.reg
 [⟨some 54, MOp.load (some 5) (Opd.s 6), none⟩,
 ⟨some 55, MOp.call 42 [(0, Opd.s 54)], none⟩,
 ⟨some 53, MOp.mv (Opd.s 55), none⟩,
 ⟨some 56, MOp.ext 0 (Opd.s 53), none⟩,
 ⟨some 57, MOp.ext 1 (Opd.s 53), none⟩,
 ⟨some 10, MOp.mv (Opd.s 56), none⟩,
 ⟨some 11, MOp.mv (Opd.s 57), none⟩]).seq
 ((MC.reg
 [⟨some 58, MOp.mv (Opd.s 11), none⟩,
 ⟨some 59, MOp.un .not (Opd.s 58), none⟩,
 ⟨some 60, MOp.mv (Opd.s 59), none⟩,
 ⟨some 61, MOp.mv (Opd.s 10), some (60, false)⟩,
 ⟨some 62, MOp.conv Cv.b2s (Opd.s 61), some (60, false)⟩,
 ⟨some 63, MOp.mv (Opd.s 0), some (60, false)⟩,
 ⟨some 64, MOp.conv Cv.b2s (Opd.s 63), some (60, false)⟩,
 ⟨some 65, MOp.bin .neq (Opd.s 62) (Opd.s 64), some (60, false)⟩,
 ⟨some 66, MOp.pick (Opd.s 60) (Opd.c (AV.bool true))
 (Opd.s 65), none⟩]).seq
 (MC.cond (Opd.s 66)
 ((MC.reg
 [⟨some 4, MOp.mv (Opd.c (AV.bool false)), none⟩]).seq
 MC.ret)
 MC.skip)))
 MC.skip)).seq
 ((MC.draw
 [⟨some 67, MOp.fa 0 (Opd.s 3), none⟩,
 ⟨some 68, MOp.load (some 2) (Opd.s 67), none⟩,
 ⟨some 69, MOp.fa 2 (Opd.s 3), none⟩,
 ⟨some 70, MOp.load none (Opd.s 69), none⟩,
 ⟨some 71, MOp.fa 5 (Opd.s 3), none⟩,
 ⟨some 72, MOp.load none (Opd.s 71), none⟩,
 ⟨some 73, MOp.mki 3 (Opd.s 72), none⟩,
 ⟨some 74, MOp.fa 8 (Opd.s 3), none⟩,
 ⟨some 75, MOp.load none (Opd.s 74), none⟩,
 ⟨some 76, MOp.call 21
 [(0, Opd.s 75),
 (0, Opd.c (AV.int .i64 60))], none⟩,
 ⟨some 77, MOp.build
 [AV.int .i64 0,
 AV.int .i64 0, AV.bool false,
 AV.nili, AV.str []]
 [(0, 2, Opd.s 68), (2, 1, Opd.s 70), (3, 1, Opd.s 73),
 (4, 1, Opd.s 76)], none⟩,
 ⟨some 12, MOp.alloc
 [AV.int .i64 0,
 AV.int .i64 0, AV.bool false,
 AV.nili, AV.str []], none⟩,
 ⟨none, MOp.store 5 (Opd.s 12) (Opd.s 77), none⟩]
 [0, 1, 0, 4, 0, 16, 48, 0, 128, 384, 1023, 0, 4095]).seq
 ((MC.reg
 [⟨some 78, MOp.fa 0 (Opd.s 3), none⟩,
 ⟨some 79, MOp.load (some 2) (Opd.s 78), none⟩,
 ⟨some 80, MOp.build
 [AV.int .i64 0,
 AV.int .i64 0, AV.bool false]
 [], none⟩,
 ⟨some 81, MOp.box (Opd.s 80), none⟩,
 ⟨some 82, MOp.mki 62 (Opd.s 81), none⟩,
 ⟨some 83, MOp.build
 [AV.int .i64 0,
 AV.int .i64 0, AV.bool false,
 AV.nili, AV.str []]
 [(0, 2, Opd.s 79), (3, 1, Opd.s 82),
 (4, 1, Opd.c (AV.str []))], none⟩,
 ⟨some 13, MOp.alloc
 [AV.int .i64 0,
 AV.int .i64 0, AV.bool false,
 AV.nili, AV.str []], none⟩,
 ⟨none, MOp.store 5 (Opd.s 13) (Opd.s 83), none⟩]).seq
 ((MC.reg
 [⟨some 85, MOp.load (some 5) (Opd.s 12), none⟩,
 ⟨some 86, MOp.call 42 [(0, Opd.s 85)], none⟩,
 ⟨some 84, MOp.mv (Opd.s 86), none⟩,
 ⟨some 87, MOp.ext 0 (Opd.s 84), none⟩,
 ⟨some 88, MOp.ext 1 (Opd.s 84), none⟩,
 ⟨some 14, MOp.mv (Opd.s 87), none⟩,
 ⟨some 15, MOp.mv (Opd.s 88), none⟩]).seq
 ((MC.reg
 [⟨some 89, MOp.load (some 5) (Opd.s 12), none⟩,
 ⟨some 90, MOp.call 47 [(0, Opd.s 89)], none⟩,
 ⟨some 91, MOp.un .not (Opd.s 90), none⟩,
 ⟨some 92, MOp.mv (Opd.s 91), none⟩,
 ⟨some 93, MOp.mv (Opd.s 15), some (92, true)⟩,
 ⟨some 94, MOp.un .not (Opd.s 93), some (92, true)⟩,
 ⟨some 95, MOp.pick (Opd.s 92) (Opd.s 94)
 (Opd.c (AV.bool false)), none⟩,
 ⟨some 96, MOp.mv (Opd.s 95), none⟩,
 ⟨some 97, MOp.mv (Opd.s 14), some (96, true)⟩,
 ⟨some 98, MOp.len (Opd.s 97), some (96, true)⟩,
 ⟨some 99, MOp.bin .eql (Opd.s 98)
 (Opd.c (AV.int .i64 0)), some (96, true)⟩,
 ⟨some 100, MOp.pick (Opd.s 96) (Opd.s 99)
 (Opd.c (AV.bool false)), none⟩,
 ⟨some 101, MOp.mv (Opd.s 100), none⟩,
 ⟨some 102, MOp.load (some 5) (Opd.s 12), some (101, true)⟩,
 ⟨some 103, MOp.call 46 [(0, Opd.s 102)], some (101, true)⟩,
 ⟨some 104, MOp.build
 [AV.int .i64 0,
 AV.int .i64 0, AV.bool false,
 AV.int .i64 0,
 AV.int .i64 0,
 AV.int .i64 0,
 AV.int .i64 0, AV.bool false,
 AV.str []]
 [], some (101, true)⟩,
 ⟨some 105, MOp.eqv false
 (EqK.flat
 (EqF.many
 [SK.i, SK.i, SK.b, SK.i, SK.i, SK.i,
 SK.i, SK.b, SK.s]))
 (Opd.s 103) (Opd.s 104), some (101, true)⟩,
 ⟨some 106, MOp.pick (Opd.s 101) (Opd.s 105)
 (Opd.c (AV.bool false)), none⟩,
 ⟨some 107, MOp.mv (Opd.s 106), none⟩,
 ⟨some 108, MOp.load (some 5) (Opd.s 13), some (107, true)⟩,
 ⟨some 109, MOp.call 47 [(0, Opd.s 108)], some (107, true)⟩,
 ⟨some 110, MOp.un .not (Opd.s 109), some (107, true)⟩,
 ⟨some 111, MOp.pick (Opd.s 107) (Opd.s 110)
 (Opd.c (AV.bool false)), none⟩,
 ⟨some 112, MOp.mv (Opd.s 111), none⟩,
 ⟨some 113, MOp.load (some 5) (Opd.s 12), some (112, true)⟩,
 ⟨some 114, MOp.load (some 5) (Opd.s 12), some (112, true)⟩,
 ⟨some 115, MOp.call 45 [(0, Opd.s 113), (0, Opd.s 114)], some (112, true)⟩,
 ⟨some 116, MOp.un .not (Opd.s 115), some (112, true)⟩,
 ⟨some 117, MOp.pick (Opd.s 112) (Opd.s 116)
 (Opd.c (AV.bool false)), none⟩,
 ⟨some 4, MOp.mv (Opd.s 117), none⟩]).seq
 MC.ret))))))))))) ⟩
theorem tab7 : tableOf Tryd.prog 7 = some M7 := by kernel_rfl
end Go.Proofs.YthcblggiojpmcaaDoor
