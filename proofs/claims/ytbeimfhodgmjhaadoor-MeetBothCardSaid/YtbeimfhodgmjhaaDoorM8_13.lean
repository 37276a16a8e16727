/- Functions of the program in the evaluator's form, written out by a program. No conditions. -/
import Derived.Test.YtbeimfhodgmjhaaDoorM8
set_option linter.unusedVariables false
namespace Go.Proofs.YtbeimfhodgmjhaaDoor
open Go Go.Ab
def M13b0 : MC :=
 (((MC.reg
 [⟨some 55, MOp.mv (Opd.s 9), none⟩,
 ⟨some 56, MOp.bin .lss (Opd.s 55)
 (Opd.c (AV.int .i64 3)), none⟩]).seq
 (MC.cond (Opd.s 56) MC.skip (MC.exit 2))).seq
 ((MC.block 3
 ((MC.draw
 [⟨some 59, MOp.fa 1 (Opd.s 2), none⟩,
 ⟨some 60, MOp.load none (Opd.s 59), none⟩,
 ⟨some 61, MOp.mv (Opd.s 9), none⟩,
 ⟨some 62, MOp.bin .shr (Opd.s 60) (Opd.s 61), none⟩,
 ⟨some 63, MOp.bin .and (Opd.s 62)
 (Opd.c (AV.int .i64 1)), none⟩,
 ⟨some 64, MOp.bin .eql (Opd.s 63)
 (Opd.c (AV.int .i64 1)), none⟩,
 ⟨some 65, MOp.mv (Opd.s 64), none⟩,
 ⟨some 66, MOp.fa 1 (Opd.s 3), some (65, true)⟩,
 ⟨some 67, MOp.load none (Opd.s 66), some (65, true)⟩,
 ⟨some 68, MOp.mv (Opd.s 9), some (65, true)⟩,
 ⟨some 69, MOp.bin .shr (Opd.s 67) (Opd.s 68), some (65, true)⟩,
 ⟨some 70, MOp.bin .and (Opd.s 69)
 (Opd.c (AV.int .i64 1)), some (65, true)⟩,
 ⟨some 71, MOp.bin .eql (Opd.s 70)
 (Opd.c (AV.int .i64 1)), some (65, true)⟩,
 ⟨some 72, MOp.pick (Opd.s 65) (Opd.s 71)
 (Opd.c (AV.bool false)), none⟩,
 ⟨some 73, MOp.mv (Opd.s 72), none⟩,
 ⟨some 74, MOp.mv (Opd.s 9), some (73, true)⟩,
 ⟨some 75, MOp.call 32 [(0, Opd.s 74)], some (73, true)⟩,
 ⟨some 76, MOp.fa 1 (Opd.s 6), some (73, true)⟩,
 ⟨some 77, MOp.load none (Opd.s 76), some (73, true)⟩,
 ⟨some 78, MOp.bin .lss (Opd.s 75) (Opd.s 77), some (73, true)⟩,
 ⟨some 79, MOp.pick (Opd.s 73) (Opd.s 78)
 (Opd.c (AV.bool false)), none⟩]
 [0, 1, 0, 7, 15, 31, 63, 127, 255, 127, 1023, 2047, 4095, 8191, 16383, 32767,
 65535, 32767, 163839, 524287, 1048575]).seq
 (MC.cond (Opd.s 79)
 ((MC.reg
 [⟨some 4, MOp.mv (Opd.c (AV.bool false)), none⟩]).seq
 MC.ret)
 MC.skip))).seq
 (MC.reg
 [⟨some 57, MOp.mv (Opd.s 9), none⟩,
 ⟨some 58, MOp.bin .add (Opd.s 57)
 (Opd.c (AV.int .i64 1)), none⟩,
 ⟨some 9, MOp.mv (Opd.s 58), none⟩])))
def M13b0l : List Bool := [false, false, true, true, false, false, true, false, false, true, false, false, false, false, false, false, false, false, false, false, false, false, false, false, false, false, false, false, false, false, false, false, false, false, false, false, false, false, false, false, false, false, false, false, false, false, false, false, false, false, false, false, false, false, false, false, false, false, false, false, false, false, false, false, false, false, false, false, false, false, false, false, false, false, false, false, false, false, false, false, false, false, false, false, false, false, false, false, false, false, false, false, false, false, false, false, false, false, false]
def M13b1 : MC :=
 (((MC.reg
 [⟨some 30, MOp.mv (Opd.s 8), none⟩,
 ⟨some 31, MOp.bin .lss (Opd.s 30)
 (Opd.c (AV.int .i64 4)), none⟩]).seq
 (MC.cond (Opd.s 31) MC.skip (MC.exit 0))).seq
 ((MC.block 1
 ((MC.draw
 [⟨some 34, MOp.fa 0 (Opd.s 2), none⟩,
 ⟨some 35, MOp.load none (Opd.s 34), none⟩,
 ⟨some 36, MOp.mv (Opd.s 8), none⟩,
 ⟨some 37, MOp.bin .shr (Opd.s 35) (Opd.s 36), none⟩,
 ⟨some 38, MOp.bin .and (Opd.s 37)
 (Opd.c (AV.int .i64 1)), none⟩,
 ⟨some 39, MOp.bin .eql (Opd.s 38)
 (Opd.c (AV.int .i64 1)), none⟩,
 ⟨some 40, MOp.mv (Opd.s 39), none⟩,
 ⟨some 41, MOp.fa 0 (Opd.s 3), some (40, true)⟩,
 ⟨some 42, MOp.load none (Opd.s 41), some (40, true)⟩,
 ⟨some 43, MOp.mv (Opd.s 8), some (40, true)⟩,
 ⟨some 44, MOp.bin .shr (Opd.s 42) (Opd.s 43), some (40, true)⟩,
 ⟨some 45, MOp.bin .and (Opd.s 44)
 (Opd.c (AV.int .i64 1)), some (40, true)⟩,
 ⟨some 46, MOp.bin .eql (Opd.s 45)
 (Opd.c (AV.int .i64 1)), some (40, true)⟩,
 ⟨some 47, MOp.pick (Opd.s 40) (Opd.s 46)
 (Opd.c (AV.bool false)), none⟩,
 ⟨some 48, MOp.mv (Opd.s 47), none⟩,
 ⟨some 49, MOp.mv (Opd.s 8), some (48, true)⟩,
 ⟨some 50, MOp.call 30 [(0, Opd.s 49)], some (48, true)⟩,
 ⟨some 51, MOp.fa 0 (Opd.s 6), some (48, true)⟩,
 ⟨some 52, MOp.load none (Opd.s 51), some (48, true)⟩,
 ⟨some 53, MOp.bin .gtr (Opd.s 50) (Opd.s 52), some (48, true)⟩,
 ⟨some 54, MOp.pick (Opd.s 48) (Opd.s 53)
 (Opd.c (AV.bool false)), none⟩]
 [0, 1, 0, 7, 15, 31, 63, 127, 255, 127, 1023, 2047, 4095, 8191, 16383, 32767,
 65535, 32767, 163839, 524287, 1048575]).seq
 (MC.cond (Opd.s 54)
 ((MC.reg
 [⟨some 4, MOp.mv (Opd.c (AV.bool false)), none⟩]).seq
 MC.ret)
 MC.skip))).seq
 (MC.reg
 [⟨some 32, MOp.mv (Opd.s 8), none⟩,
 ⟨some 33, MOp.bin .add (Opd.s 32)
 (Opd.c (AV.int .i64 1)), none⟩,
 ⟨some 8, MOp.mv (Opd.s 33), none⟩])))
def M13b1l : List Bool := [false, false, true, true, false, false, true, false, true, false, false, false, false, false, false, false, false, false, false, false, false, false, false, false, false, false, false, false, false, false, false, false, false, false, false, false, false, false, false, false, false, false, false, false, false, false, false, false, false, false, false, false, false, false, false, false, false, false, false, false, false, false, false, false, false, false, false, false, false, false, false, false, false, false, false, false, false, false, false, false, false, false, false, false, false, false, false, false, false, false, false, false, false, false, false, false, false, false, false]
def M13r0 : MC :=
 ((MC.reg
 [⟨some 80, MOp.fa 2 (Opd.s 6), none⟩,
 ⟨some 81, MOp.load none (Opd.s 80), none⟩,
 ⟨some 82, MOp.bin .add (Opd.s 81)
 (Opd.c (AV.int .i64 1)), none⟩,
 ⟨some 10, MOp.mv (Opd.s 82), none⟩]).seq
 ((MC.reg
 [⟨some 83, MOp.mv (Opd.s 10), none⟩,
 ⟨some 84, MOp.fa 2 (Opd.s 3), none⟩,
 ⟨some 85, MOp.load none (Opd.s 84), none⟩,
 ⟨some 86, MOp.call 27 [(0, Opd.s 85)], none⟩,
 ⟨some 87, MOp.bin .add (Opd.s 86)
 (Opd.c (AV.int .i64 1)), none⟩,
 ⟨some 88, MOp.bin .gtr (Opd.s 83) (Opd.s 87), none⟩,
 ⟨some 89, MOp.mv (Opd.s 88), none⟩,
 ⟨some 90, MOp.mv (Opd.s 10), some (89, false)⟩,
 ⟨some 91, MOp.fa 3 (Opd.s 6), some (89, false)⟩,
 ⟨some 92, MOp.load none (Opd.s 91), some (89, false)⟩,
 ⟨some 93, MOp.fa 0 (Opd.s 6), some (89, false)⟩,
 ⟨some 94, MOp.load none (Opd.s 93), some (89, false)⟩,
 ⟨some 95, MOp.call 44 [(0, Opd.s 92), (0, Opd.s 94)], some (89, false)⟩,
 ⟨some 96, MOp.bin .mul (Opd.s 90) (Opd.s 95), some (89, false)⟩,
 ⟨some 97, MOp.bin .gtr (Opd.s 96)
 (Opd.c (AV.int .i64 30)), some (89, false)⟩,
 ⟨some 98, MOp.pick (Opd.s 89) (Opd.c (AV.bool true))
 (Opd.s 97), none⟩,
 ⟨some 4, MOp.mv (Opd.s 98), none⟩]).seq
 MC.ret))
def M13r1 : MC :=
 (((MC.reg
 [⟨some 9, MOp.mv (Opd.c (AV.int .i64 0)), none⟩]).seq
 (MC.block 2
 (MC.loop M13b0l M13b0))).seq
 M13r0)
def M13 : MFun :=
 ⟨99, [MRes.tmp 0 4], (MC.reg
 [⟨some 2, MOp.box (Opd.s 0), none⟩,
 ⟨some 3, MOp.box (Opd.s 1), none⟩,
 ⟨some 4, MOp.mv (Opd.c (AV.bool false)), none⟩]).seq
 ((MC.reg
 [⟨some 11, MOp.call 21 [], none⟩,
 ⟨some 5, MOp.mv (Opd.s 11), none⟩]).seq
 (((MC.reg
 [⟨some 12, MOp.mv (Opd.s 5), none⟩,
 ⟨some 13, MOp.un .not (Opd.s 12), none⟩]).seq
 (MC.cond (Opd.s 13)
 ((MC.reg
 [⟨some 4, MOp.mv (Opd.c (AV.bool false)), none⟩]).seq
 MC.ret)
 MC.skip)).seq
 ((MC.reg
 [⟨some 15, MOp.load (some 5) (Opd.s 2), none⟩,
 ⟨some 16, MOp.load (some 5) (Opd.s 3), none⟩,
 ⟨some 17, MOp.call 42 [(0, Opd.s 15), (0, Opd.s 16)], none⟩,
 ⟨some 14, MOp.mv (Opd.s 17), none⟩,
 ⟨some 18, MOp.ext 0 (Opd.s 14), none⟩,
 ⟨some 19, MOp.ext 1 (Opd.s 14), none⟩,
 ⟨some 6, MOp.alloc
 [AV.int .i64 0, AV.int .i64 0,
 AV.int .i64 0, AV.int .i64 0,
 AV.int .i64 0], none⟩,
 ⟨none, MOp.store 5 (Opd.s 6) (Opd.s 18), none⟩,
 ⟨some 7, MOp.mv (Opd.s 19), none⟩]).seq
 (((MC.reg
 [⟨some 20, MOp.mv (Opd.s 7), none⟩,
 ⟨some 21, MOp.un .not (Opd.s 20), none⟩]).seq
 (MC.cond (Opd.s 21)
 ((MC.reg
 [⟨some 22, MOp.load (some 5) (Opd.s 2), none⟩,
 ⟨some 23, MOp.call 58 [(0, Opd.s 22)], none⟩,
 ⟨some 24, MOp.un .not (Opd.s 23), none⟩,
 ⟨some 25, MOp.mv (Opd.s 24), none⟩,
 ⟨some 26, MOp.load (some 5) (Opd.s 3), some (25, false)⟩,
 ⟨some 27, MOp.call 58 [(0, Opd.s 26)], some (25, false)⟩,
 ⟨some 28, MOp.un .not (Opd.s 27), some (25, false)⟩,
 ⟨some 29, MOp.pick (Opd.s 25) (Opd.c (AV.bool true))
 (Opd.s 28), none⟩,
 ⟨some 4, MOp.mv (Opd.s 29), none⟩]).seq
 MC.ret)
 MC.skip)).seq
 (((MC.reg
 [⟨some 8, MOp.mv (Opd.c (AV.int .i64 0)), none⟩]).seq
 (MC.block 0
 (MC.loop M13b1l M13b1))).seq
 M13r1))))) ⟩
theorem tab13 : tableOf Tryd.prog 13 = some M13 := by kernel_rfl
end Go.Proofs.YtbeimfhodgmjhaaDoor
