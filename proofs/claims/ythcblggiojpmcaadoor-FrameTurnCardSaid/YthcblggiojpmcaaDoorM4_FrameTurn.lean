/- Functions of the program in the evaluator's form, written out by a program. No conditions. -/
import Derived.Test.YthcblggiojpmcaaDoorM4
set_option linter.unusedVariables false
namespace Go.Proofs.YthcblggiojpmcaaDoor
open Go Go.Ab
def M15 : MFun :=
 ⟨107, [MRes.tmp 0 8], (MC.reg
 [⟨some 4, MOp.box (Opd.s 0), none⟩,
 ⟨some 8, MOp.mv (Opd.c (AV.bool false)), none⟩]).seq
 ((MC.reg
 [⟨some 19, MOp.call 20 [], none⟩,
 ⟨some 9, MOp.mv (Opd.s 19), none⟩]).seq
 (((MC.reg
 [⟨some 20, MOp.mv (Opd.s 9), none⟩,
 ⟨some 21, MOp.un .not (Opd.s 20), none⟩]).seq
 (MC.cond (Opd.s 21)
 ((MC.reg
 [⟨some 8, MOp.mv (Opd.c (AV.bool false)), none⟩]).seq
 MC.ret)
 MC.skip)).seq
 ((MC.reg
 [⟨some 22, MOp.load (some 9) (Opd.s 4), none⟩,
 ⟨some 23, MOp.call 32 [(0, Opd.s 22)], none⟩,
 ⟨none, MOp.store 9 (Opd.s 4) (Opd.s 23), none⟩]).seq
 (((MC.reg
 [⟨some 24, MOp.load (some 9) (Opd.s 4), none⟩,
 ⟨some 25, MOp.call 41 [(0, Opd.s 24)], none⟩,
 ⟨some 26, MOp.un .not (Opd.s 25), none⟩]).seq
 (MC.cond (Opd.s 26)
 ((MC.reg
 [⟨some 8, MOp.mv (Opd.c (AV.bool true)), none⟩]).seq
 MC.ret)
 MC.skip)).seq
 ((MC.reg
 [⟨some 27, MOp.load (some 9) (Opd.s 4), none⟩,
 ⟨some 10, MOp.alloc
 [AV.int .i64 0, AV.int .i64 0,
 AV.bool false, AV.int .i64 0,
 AV.int .i64 0, AV.int .i64 0,
 AV.int .i64 0, AV.bool false, AV.str []], none⟩,
 ⟨none, MOp.store 9 (Opd.s 10) (Opd.s 27), none⟩]).seq
 (((MC.reg
 [⟨some 28, MOp.mv (Opd.s 1), none⟩,
 ⟨some 29, MOp.bin .rem (Opd.s 28)
 (Opd.c (AV.int .i64 7)), none⟩,
 ⟨some 30, MOp.bin .add (Opd.s 29)
 (Opd.c (AV.int .i64 7)), none⟩,
 ⟨some 31, MOp.bin .rem (Opd.s 30)
 (Opd.c (AV.int .i64 7)), none⟩]).seq
 (MC.block 0
 ((MC.reg
 [⟨some 35, MOp.bin .eql (Opd.s 31)
 (Opd.c (AV.int .i64 0)), none⟩,
 ⟨some 34, MOp.mv (Opd.s 35), none⟩]).seq
 (MC.cond (Opd.s 34)
 (MC.reg
 [⟨some 36, MOp.mv (Opd.s 2), none⟩,
 ⟨some 37, MOp.fa 0 (Opd.s 10), none⟩,
 ⟨some 38, MOp.fa 0 (Opd.s 37), none⟩,
 ⟨none, MOp.store 1 (Opd.s 38) (Opd.s 36), none⟩])
 ((MC.reg
 [⟨some 40, MOp.bin .eql (Opd.s 31)
 (Opd.c (AV.int .i64 1)), none⟩,
 ⟨some 39, MOp.mv (Opd.s 40), none⟩]).seq
 (MC.cond (Opd.s 39)
 (MC.reg
 [⟨some 41, MOp.mv (Opd.s 2), none⟩,
 ⟨some 42, MOp.fa 0 (Opd.s 10), none⟩,
 ⟨some 43, MOp.fa 1 (Opd.s 42), none⟩,
 ⟨none, MOp.store 1 (Opd.s 43) (Opd.s 41), none⟩])
 ((MC.reg
 [⟨some 45, MOp.bin .eql (Opd.s 31)
 (Opd.c (AV.int .i64 2)), none⟩,
 ⟨some 44, MOp.mv (Opd.s 45), none⟩]).seq
 (MC.cond (Opd.s 44)
 (MC.reg
 [⟨some 46, MOp.fa 2 (Opd.s 10), none⟩,
 ⟨some 47, MOp.load none (Opd.s 46), none⟩,
 ⟨some 48, MOp.un .not (Opd.s 47), none⟩,
 ⟨some 49, MOp.fa 2 (Opd.s 10), none⟩,
 ⟨none, MOp.store 1 (Opd.s 49) (Opd.s 48), none⟩])
 ((MC.reg
 [⟨some 51, MOp.bin .eql (Opd.s 31)
 (Opd.c (AV.int .i64 3)), none⟩,
 ⟨some 50, MOp.mv (Opd.s 51), none⟩]).seq
 (MC.cond (Opd.s 50)
 (MC.reg
 [⟨some 52, MOp.mv (Opd.s 2), none⟩,
 ⟨some 53, MOp.fa 5 (Opd.s 10), none⟩,
 ⟨none, MOp.store 1 (Opd.s 53) (Opd.s 52), none⟩])
 ((MC.reg
 [⟨some 55, MOp.bin .eql (Opd.s 31)
 (Opd.c (AV.int .i64 4)), none⟩,
 ⟨some 54, MOp.mv (Opd.s 55), none⟩]).seq
 (MC.cond (Opd.s 54)
 (MC.reg
 [⟨some 56, MOp.fa 7 (Opd.s 10), none⟩,
 ⟨some 57, MOp.load none (Opd.s 56), none⟩,
 ⟨some 58, MOp.un .not (Opd.s 57), none⟩,
 ⟨some 59, MOp.fa 7 (Opd.s 10), none⟩,
 ⟨none, MOp.store 1 (Opd.s 59) (Opd.s 58), none⟩])
 ((MC.reg
 [⟨some 61, MOp.bin .eql (Opd.s 31)
 (Opd.c (AV.int .i64 5)), none⟩,
 ⟨some 60, MOp.mv (Opd.s 61), none⟩]).seq
 (MC.cond (Opd.s 60)
 (MC.reg
 [⟨some 62, MOp.mv (Opd.s 3), none⟩,
 ⟨some 63, MOp.call 21
 [(0, Opd.s 62),
 (0,
 Opd.c
 (AV.int .i64 70))], none⟩,
 ⟨some 64, MOp.fa 8 (Opd.s 10), none⟩,
 ⟨none, MOp.store 1 (Opd.s 64) (Opd.s 63), none⟩])
 (MC.reg
 [⟨some 32, MOp.mv (Opd.s 2), none⟩,
 ⟨some 33, MOp.fa 4 (Opd.s 10), none⟩,
 ⟨none, MOp.store 1 (Opd.s 33) (Opd.s 32), none⟩]))))))))))))))).seq
 ((MC.reg
 [⟨some 66, MOp.load (some 9) (Opd.s 4), none⟩,
 ⟨some 67, MOp.call 40 [(0, Opd.s 66)], none⟩,
 ⟨some 65, MOp.mv (Opd.s 67), none⟩,
 ⟨some 68, MOp.ext 0 (Opd.s 65), none⟩,
 ⟨some 69, MOp.ext 1 (Opd.s 65), none⟩,
 ⟨some 11, MOp.alloc
 [AV.int .i64 0, AV.int .i64 0,
 AV.bool false, AV.nili, AV.str []], none⟩,
 ⟨none, MOp.store 5 (Opd.s 11) (Opd.s 68), none⟩,
 ⟨some 12, MOp.mv (Opd.s 69), none⟩]).seq
 ((MC.reg
 [⟨some 71, MOp.load (some 9) (Opd.s 10), none⟩,
 ⟨some 72, MOp.call 40 [(0, Opd.s 71)], none⟩,
 ⟨some 70, MOp.mv (Opd.s 72), none⟩,
 ⟨some 73, MOp.ext 0 (Opd.s 70), none⟩,
 ⟨some 74, MOp.ext 1 (Opd.s 70), none⟩,
 ⟨some 13, MOp.alloc
 [AV.int .i64 0,
 AV.int .i64 0, AV.bool false,
 AV.nili, AV.str []], none⟩,
 ⟨none, MOp.store 5 (Opd.s 13) (Opd.s 73), none⟩,
 ⟨some 14, MOp.mv (Opd.s 74), none⟩]).seq
 ((MC.reg
 [⟨some 76, MOp.load (some 5) (Opd.s 11), none⟩,
 ⟨some 77, MOp.call 42 [(0, Opd.s 76)], none⟩,
 ⟨some 75, MOp.mv (Opd.s 77), none⟩,
 ⟨some 78, MOp.ext 0 (Opd.s 75), none⟩,
 ⟨some 79, MOp.ext 1 (Opd.s 75), none⟩,
 ⟨some 15, MOp.mv (Opd.s 78), none⟩,
 ⟨some 16, MOp.mv (Opd.s 79), none⟩]).seq
 ((MC.reg
 [⟨some 81, MOp.load (some 5) (Opd.s 13), none⟩,
 ⟨some 82, MOp.call 42 [(0, Opd.s 81)], none⟩,
 ⟨some 80, MOp.mv (Opd.s 82), none⟩,
 ⟨some 83, MOp.ext 0 (Opd.s 80), none⟩,
 ⟨some 84, MOp.ext 1 (Opd.s 80), none⟩,
 ⟨some 17, MOp.mv (Opd.s 83), none⟩,
 ⟨some 18, MOp.mv (Opd.s 84), none⟩]).seq
 ((MC.draw
 [⟨some 85, MOp.mv (Opd.s 12), none⟩,
 ⟨some 86, MOp.mv (Opd.s 85), none⟩,
 ⟨some 87, MOp.mv (Opd.s 14), some (86, true)⟩,
 ⟨some 88, MOp.load (some 9) (Opd.s 10), some (86, true)⟩,
 ⟨some 89, MOp.call 41 [(0, Opd.s 88)], some (86, true)⟩,
 ⟨some 90, MOp.eqv false (EqK.flat (EqF.one SK.b))
 (Opd.s 87) (Opd.s 89), some (86, true)⟩,
 ⟨some 91, MOp.pick (Opd.s 86) (Opd.s 90)
 (Opd.c (AV.bool false)), none⟩,
 ⟨some 92, MOp.mv (Opd.s 91), none⟩,
 ⟨some 93, MOp.mv (Opd.s 14), some (92, true)⟩,
 ⟨some 94, MOp.un .not (Opd.s 93), some (92, true)⟩,
 ⟨some 95, MOp.mv (Opd.s 94), some (92, true)⟩,
 ⟨some 96, MOp.mv (Opd.s 15), some (95, false)⟩,
 ⟨some 97, MOp.conv Cv.b2s (Opd.s 96), some (95, false)⟩,
 ⟨some 98, MOp.mv (Opd.s 17), some (95, false)⟩,
 ⟨some 99, MOp.conv Cv.b2s (Opd.s 98), some (95, false)⟩,
 ⟨some 100, MOp.bin .eql (Opd.s 97) (Opd.s 99), some (95, false)⟩,
 ⟨some 101, MOp.load (some 9) (Opd.s 4), some (95, false)⟩,
 ⟨some 102, MOp.load (some 9) (Opd.s 10), some (95, false)⟩,
 ⟨some 103, MOp.eqv false
 (EqK.flat
 (EqF.many
 [SK.i, SK.i, SK.b, SK.i, SK.i, SK.i,
 SK.i, SK.b, SK.s]))
 (Opd.s 101) (Opd.s 102), some (95, false)⟩,
 ⟨some 104, MOp.eqv false (EqK.flat (EqF.one SK.b))
 (Opd.s 100) (Opd.s 103), some (95, false)⟩,
 ⟨some 105, MOp.pick (Opd.s 95) (Opd.c (AV.bool true))
 (Opd.s 104), some (92, true)⟩,
 ⟨some 106, MOp.pick (Opd.s 92) (Opd.s 105)
 (Opd.c (AV.bool false)), none⟩,
 ⟨some 8, MOp.mv (Opd.s 106), none⟩]
 [0, 1, 3, 3, 11, 31, 63, 127, 255, 511, 1023, 2047, 4095, 2047, 10239, 32767, 2047,
 2047, 198655, 524287, 1048575, 2097151, 4194303]).seq
 MC.ret))))))))))) ⟩
theorem tab15 : tableOf Tryd.prog 15 = some M15 := by kernel_rfl
end Go.Proofs.YthcblggiojpmcaaDoor
