/- Functions of the program in the evaluator's form, written out by a program. No conditions. -/
import Derived.Test.YtochnineebgbgaaDoorM12
set_option linter.unusedVariables false
namespace Go.Proofs.YtochnineebgbgaaDoor
open Go Go.Ab
def M14b0 : MC :=
 (((MC.reg
 [⟨some 101, MOp.mv (Opd.s 13), none⟩,
 ⟨some 102, MOp.bin .lss (Opd.s 101)
 (Opd.c (AV.int .i64 20)), none⟩]).seq
 (MC.cond (Opd.s 102) MC.skip (MC.exit 3))).seq
 ((MC.block 4
 ((MC.reg
 [⟨some 105, MOp.ixp 2 1 (Opd.s 8)
 (Opd.c (AV.int .i64 0)), none⟩,
 ⟨some 106, MOp.load none (Opd.s 105), none⟩,
 ⟨some 107, MOp.call 44 [(0, Opd.s 106)], none⟩]).seq
 ((MC.draw
 [⟨some 108, MOp.ixp 2 1 (Opd.s 10)
 (Opd.c (AV.int .i64 1)), none⟩,
 ⟨some 109, MOp.load none (Opd.s 108), none⟩,
 ⟨some 110, MOp.ixp 2 1 (Opd.s 8)
 (Opd.c (AV.int .i64 0)), none⟩,
 ⟨some 111, MOp.load none (Opd.s 110), none⟩,
 ⟨some 112, MOp.ixp 2 1 (Opd.s 8)
 (Opd.c (AV.int .i64 1)), none⟩,
 ⟨some 113, MOp.load none (Opd.s 112), none⟩,
 ⟨some 114, MOp.call 48
 [(0, Opd.s 111), (0, Opd.s 113),
 (0, Opd.c (AV.int .i64 0))], none⟩,
 ⟨some 115, MOp.bin .add (Opd.s 109) (Opd.s 114), none⟩,
 ⟨some 116, MOp.ixp 2 1 (Opd.s 10)
 (Opd.c (AV.int .i64 1)), none⟩,
 ⟨none, MOp.store 1 (Opd.s 116) (Opd.s 115), none⟩]
 [0, 1, 0, 4, 0, 16, 60, 127, 255, 511]).seq
 (MC.draw
 [⟨some 117, MOp.ixp 2 1 (Opd.s 10)
 (Opd.c (AV.int .i64 0)), none⟩,
 ⟨some 118, MOp.load none (Opd.s 117), none⟩,
 ⟨some 119, MOp.ixp 2 1 (Opd.s 8)
 (Opd.c (AV.int .i64 1)), none⟩,
 ⟨some 120, MOp.load none (Opd.s 119), none⟩,
 ⟨some 121, MOp.ixp 2 1 (Opd.s 8)
 (Opd.c (AV.int .i64 0)), none⟩,
 ⟨some 122, MOp.load none (Opd.s 121), none⟩,
 ⟨some 123, MOp.call 48
 [(0, Opd.s 120), (0, Opd.s 122),
 (0, Opd.c (AV.int .i64 0))], none⟩,
 ⟨some 124, MOp.bin .add (Opd.s 118) (Opd.s 123), none⟩,
 ⟨some 125, MOp.ixp 2 1 (Opd.s 10)
 (Opd.c (AV.int .i64 0)), none⟩,
 ⟨none, MOp.store 1 (Opd.s 125) (Opd.s 124), none⟩]
 [0, 1, 0, 4, 0, 16, 60, 127, 255, 511])))).seq
 (MC.reg
 [⟨some 103, MOp.mv (Opd.s 13), none⟩,
 ⟨some 104, MOp.bin .add (Opd.s 103)
 (Opd.c (AV.int .i64 1)), none⟩,
 ⟨some 13, MOp.mv (Opd.s 104), none⟩])))
def M14b0l : List Bool := [false, false, false, false, false, false, false, false, true, true, true, false, false, true, false, false, false, false, false, false, false, false, false, false, false, false, false, false, false, false, false, false, false, false, false, false, false, false, false, false, false, false, false, false, false, false, false, false, false, false, false, false, false, false, false, false, false, false, false, false, false, false, false, false, false, false, false, false, false, false, false, false, false, false, false, false, false, false, false, false, false, false, false, false, false, false, false, false, false, false, false, false, false, false, false, false, false, false, false, false, false, false, false, false, false, false, false, false, false, false, false, false, false, false, false, false, false, false, false, false, false, false, false, false, false, false, false, false, false, false, false, false, false, false, false, false, false, false, false, false, false, false, false, false, false, false, false, false, false, false]
def M14b1 : MC :=
 (((MC.reg
 [⟨some 32, MOp.mv (Opd.s 11), none⟩,
 ⟨some 33, MOp.mv (Opd.s 2), none⟩,
 ⟨some 34, MOp.len (Opd.s 33), none⟩,
 ⟨some 35, MOp.bin .lss (Opd.s 32) (Opd.s 34), none⟩,
 ⟨some 36, MOp.mv (Opd.s 35), none⟩,
 ⟨some 37, MOp.mv (Opd.s 11), some (36, true)⟩,
 ⟨some 38, MOp.bin .lss (Opd.s 37)
 (Opd.c (AV.int .i64 60)), some (36, true)⟩,
 ⟨some 39, MOp.pick (Opd.s 36) (Opd.s 38)
 (Opd.c (AV.bool false)), none⟩]).seq
 (MC.cond (Opd.s 39) MC.skip (MC.exit 0))).seq
 ((MC.block 1
 ((MC.reg
 [⟨some 42, MOp.mv (Opd.s 2), none⟩,
 ⟨some 43, MOp.mv (Opd.s 11), none⟩,
 ⟨some 44, MOp.ixa 4 (Opd.s 42) (Opd.s 43), none⟩,
 ⟨some 45, MOp.load (some 4) (Opd.s 44), none⟩,
 ⟨some 12, MOp.alloc
 [AV.int .i64 0,
 AV.int .i64 0,
 AV.int .i64 0, AV.str []], none⟩,
 ⟨none, MOp.store 4 (Opd.s 12) (Opd.s 45), none⟩]).seq
 ((MC.reg
 [⟨some 46, MOp.fa 0 (Opd.s 12), none⟩,
 ⟨some 47, MOp.load none (Opd.s 46), none⟩]).seq
 (MC.block 2
 ((MC.reg
 [⟨some 62, MOp.bin .eql (Opd.s 47)
 (Opd.c (AV.int .i64 0)), none⟩,
 ⟨some 61, MOp.mv (Opd.s 62), none⟩]).seq
 (MC.cond (Opd.s 61)
 ((MC.reg
 [⟨some 63, MOp.fa 1 (Opd.s 12), none⟩,
 ⟨some 64, MOp.load none (Opd.s 63), none⟩,
 ⟨some 65, MOp.bin .and (Opd.s 64)
 (Opd.c (AV.int .i64 1)), none⟩,
 ⟨some 66, MOp.ixp 2 1 (Opd.s 8) (Opd.s 65), none⟩,
 ⟨some 67, MOp.load none (Opd.s 66), none⟩,
 ⟨some 68, MOp.call 40
 [(0, Opd.s 67),
 (0,
 Opd.c
 (AV.str [(120 : UInt8)]))], none⟩,
 ⟨some 69, MOp.bin .eql (Opd.s 68)
 (Opd.c (AV.int .i64 0)), none⟩]).seq
 (MC.cond (Opd.s 69)
 (MC.reg
 [⟨some 70, MOp.fa 1 (Opd.s 12), none⟩,
 ⟨some 71, MOp.load none (Opd.s 70), none⟩,
 ⟨some 72, MOp.bin .and (Opd.s 71)
 (Opd.c (AV.int .i64 1)), none⟩,
 ⟨some 73, MOp.ixp 2 1 (Opd.s 9) (Opd.s 72), none⟩,
 ⟨some 74, MOp.load none (Opd.s 73), none⟩,
 ⟨some 75, MOp.bin .add (Opd.s 74)
 (Opd.c (AV.int .i64 1)), none⟩,
 ⟨some 76, MOp.ixp 2 1 (Opd.s 9) (Opd.s 72), none⟩,
 ⟨none, MOp.store 1 (Opd.s 76) (Opd.s 75), none⟩])
 MC.skip))
 ((MC.reg
 [⟨some 78, MOp.bin .eql (Opd.s 47)
 (Opd.c (AV.int .i64 1)), none⟩,
 ⟨some 77, MOp.mv (Opd.s 78), none⟩]).seq
 (MC.cond (Opd.s 77)
 (MC.draw
 [⟨some 79, MOp.fa 1 (Opd.s 12), none⟩,
 ⟨some 80, MOp.load none (Opd.s 79), none⟩,
 ⟨some 81, MOp.bin .and (Opd.s 80)
 (Opd.c (AV.int .i64 1)), none⟩,
 ⟨some 82, MOp.bin .sub
 (Opd.c (AV.int .i64 1))
 (Opd.s 81), none⟩,
 ⟨some 83, MOp.ixp 2 1 (Opd.s 10) (Opd.s 82), none⟩,
 ⟨some 84, MOp.load none (Opd.s 83), none⟩,
 ⟨some 85, MOp.fa 1 (Opd.s 12), none⟩,
 ⟨some 86, MOp.load none (Opd.s 85), none⟩,
 ⟨some 87, MOp.bin .and (Opd.s 86)
 (Opd.c (AV.int .i64 1)), none⟩,
 ⟨some 88, MOp.ixp 2 1 (Opd.s 8) (Opd.s 87), none⟩,
 ⟨some 89, MOp.load none (Opd.s 88), none⟩,
 ⟨some 90, MOp.fa 1 (Opd.s 12), none⟩,
 ⟨some 91, MOp.load none (Opd.s 90), none⟩,
 ⟨some 92, MOp.bin .and (Opd.s 91)
 (Opd.c (AV.int .i64 1)), none⟩,
 ⟨some 93, MOp.bin .sub
 (Opd.c (AV.int .i64 1))
 (Opd.s 92), none⟩,
 ⟨some 94, MOp.ixp 2 1 (Opd.s 8) (Opd.s 93), none⟩,
 ⟨some 95, MOp.load none (Opd.s 94), none⟩,
 ⟨some 96, MOp.fa 2 (Opd.s 12), none⟩,
 ⟨some 97, MOp.load none (Opd.s 96), none⟩,
 ⟨some 98, MOp.call 48
 [(0, Opd.s 89), (0, Opd.s 95), (0, Opd.s 97)], none⟩,
 ⟨some 99, MOp.bin .add (Opd.s 84) (Opd.s 98), none⟩,
 ⟨some 100, MOp.ixp 2 1 (Opd.s 10) (Opd.s 82), none⟩,
 ⟨none, MOp.store 1 (Opd.s 100) (Opd.s 99), none⟩]
 [0, 1, 3, 7, 15, 31, 0, 64, 192, 448, 960, 0, 2048, 6144, 14336, 30720,
 63488, 0, 131072, 524224, 1048575, 2097151, 4194303])
 ((MC.reg
 [⟨some 48, MOp.ixp 2 1 (Opd.s 8)
 (Opd.c (AV.int .i64 0)), none⟩,
 ⟨some 49, MOp.load none (Opd.s 48), none⟩,
 ⟨some 50, MOp.call 43 [(0, Opd.s 49)], none⟩,
 ⟨some 51, MOp.un .not (Opd.s 50), none⟩,
 ⟨some 52, MOp.mv (Opd.s 51), none⟩,
 ⟨some 53, MOp.ixp 2 1 (Opd.s 8)
 (Opd.c (AV.int .i64 1)), some (52, true)⟩,
 ⟨some 54, MOp.load none (Opd.s 53), some (52, true)⟩,
 ⟨some 55, MOp.call 43 [(0, Opd.s 54)], some (52, true)⟩,
 ⟨some 56, MOp.un .not (Opd.s 55), some (52, true)⟩,
 ⟨some 57, MOp.pick (Opd.s 52) (Opd.s 56)
 (Opd.c (AV.bool false)), none⟩]).seq
 (MC.cond (Opd.s 57)
 (MC.reg
 [⟨some 58, MOp.ixp 2 1 (Opd.s 8)
 (Opd.c (AV.int .i64 0)), none⟩,
 ⟨some 59, MOp.load none (Opd.s 58), none⟩,
 ⟨some 60, MOp.call 44 [(0, Opd.s 59)], none⟩])
 MC.skip)))))))))).seq
 (MC.reg
 [⟨some 40, MOp.mv (Opd.s 11), none⟩,
 ⟨some 41, MOp.bin .add (Opd.s 40)
 (Opd.c (AV.int .i64 1)), none⟩,
 ⟨some 11, MOp.mv (Opd.s 41), none⟩])))
def M14b1l : List Bool := [false, false, true, false, false, false, false, false, true, true, true, true, false, false, false, false, false, false, false, false, false, false, false, false, false, false, false, false, false, false, false, false, false, false, false, false, false, false, false, false, false, false, false, false, false, false, false, false, false, false, false, false, false, false, false, false, false, false, false, false, false, false, false, false, false, false, false, false, false, false, false, false, false, false, false, false, false, false, false, false, false, false, false, false, false, false, false, false, false, false, false, false, false, false, false, false, false, false, false, false, false, false, false, false, false, false, false, false, false, false, false, false, false, false, false, false, false, false, false, false, false, false, false, false, false, false, false, false, false, false, false, false, false, false, false, false, false, false, false, false, false, false, false, false, false, false, false, false, false, false]
def M14r0 : MC :=
 ((MC.reg
 [⟨some 126, MOp.ixp 2 1 (Opd.s 10)
 (Opd.c (AV.int .i64 1)), none⟩,
 ⟨some 127, MOp.load none (Opd.s 126), none⟩,
 ⟨some 128, MOp.ixp 2 1 (Opd.s 9)
 (Opd.c (AV.int .i64 0)), none⟩,
 ⟨some 129, MOp.load none (Opd.s 128), none⟩,
 ⟨some 130, MOp.bin .eql (Opd.s 127) (Opd.s 129), none⟩,
 ⟨some 131, MOp.mv (Opd.s 130), none⟩,
 ⟨some 132, MOp.ixp 2 1 (Opd.s 10)
 (Opd.c (AV.int .i64 0)), some (131, true)⟩,
 ⟨some 133, MOp.load none (Opd.s 132), some (131, true)⟩,
 ⟨some 134, MOp.ixp 2 1 (Opd.s 9)
 (Opd.c (AV.int .i64 1)), some (131, true)⟩,
 ⟨some 135, MOp.load none (Opd.s 134), some (131, true)⟩,
 ⟨some 136, MOp.bin .eql (Opd.s 133) (Opd.s 135), some (131, true)⟩,
 ⟨some 137, MOp.pick (Opd.s 131) (Opd.s 136)
 (Opd.c (AV.bool false)), none⟩,
 ⟨some 138, MOp.mv (Opd.s 137), none⟩,
 ⟨some 139, MOp.ixp 2 1 (Opd.s 8)
 (Opd.c (AV.int .i64 0)), some (138, true)⟩,
 ⟨some 140, MOp.load none (Opd.s 139), some (138, true)⟩,
 ⟨some 141, MOp.call 46 [(0, Opd.s 140)], some (138, true)⟩,
 ⟨some 142, MOp.bin .eql (Opd.s 141)
 (Opd.c (AV.int .i64 0)), some (138, true)⟩,
 ⟨some 143, MOp.pick (Opd.s 138) (Opd.s 142)
 (Opd.c (AV.bool false)), none⟩,
 ⟨some 144, MOp.mv (Opd.s 143), none⟩,
 ⟨some 145, MOp.ixp 2 1 (Opd.s 8)
 (Opd.c (AV.int .i64 1)), some (144, true)⟩,
 ⟨some 146, MOp.load none (Opd.s 145), some (144, true)⟩,
 ⟨some 147, MOp.call 46 [(0, Opd.s 146)], some (144, true)⟩,
 ⟨some 148, MOp.bin .eql (Opd.s 147)
 (Opd.c (AV.int .i64 0)), some (144, true)⟩,
 ⟨some 149, MOp.pick (Opd.s 144) (Opd.s 148)
 (Opd.c (AV.bool false)), none⟩,
 ⟨some 6, MOp.mv (Opd.s 149), none⟩]).seq
 MC.ret)
def M14r1 : MC :=
 (((MC.reg
 [⟨some 13, MOp.mv (Opd.c (AV.int .i64 0)), none⟩]).seq
 (MC.block 3
 (MC.loop M14b0l M14b0))).seq
 M14r0)
def M14 : MFun :=
 ⟨150, [MRes.tmp 0 6], (MC.reg
 [⟨some 3, MOp.box (Opd.s 0), none⟩,
 ⟨some 4, MOp.box (Opd.s 1), none⟩,
 ⟨some 6, MOp.mv (Opd.c (AV.bool false)), none⟩]).seq
 ((MC.reg
 [⟨some 14, MOp.call 21 [], none⟩,
 ⟨some 7, MOp.mv (Opd.s 14), none⟩]).seq
 (((MC.reg
 [⟨some 15, MOp.mv (Opd.s 7), none⟩,
 ⟨some 16, MOp.un .not (Opd.s 15), none⟩]).seq
 (MC.cond (Opd.s 16)
 ((MC.reg
 [⟨some 6, MOp.mv (Opd.c (AV.bool false)), none⟩]).seq
 MC.ret)
 MC.skip)).seq
 ((MC.reg
 [⟨some 17, MOp.fa 3 (Opd.s 3), none⟩,
 ⟨none, MOp.store 1 (Opd.s 17) (Opd.c (AV.int .i64 40)), none⟩,
 ⟨some 18, MOp.fa 3 (Opd.s 4), none⟩,
 ⟨none, MOp.store 1 (Opd.s 18) (Opd.c (AV.int .i64 40)), none⟩]).seq
 ((MC.draw
 [⟨some 19, MOp.load (some 5) (Opd.s 3), none⟩,
 ⟨some 20, MOp.call 39
 [(0, Opd.c (AV.int .i64 1)), (0, Opd.s 19)], none⟩,
 ⟨some 21, MOp.load (some 5) (Opd.s 4), none⟩,
 ⟨some 22, MOp.call 39
 [(0, Opd.c (AV.int .i64 2)), (0, Opd.s 21)], none⟩,
 ⟨some 23, MOp.build [AV.nilp, AV.nilp] [(0, 1, Opd.s 20), (1, 1, Opd.s 22)], none⟩,
 ⟨some 8, MOp.alloc [AV.nilp, AV.nilp], none⟩,
 ⟨none, MOp.store 2 (Opd.s 8) (Opd.s 23), none⟩]
 [0, 1, 0, 7, 15, 0, 63]).seq
 (((MC.reg
 [⟨some 24, MOp.ixp 2 1 (Opd.s 8) (Opd.c (AV.int .i64 0)), none⟩,
 ⟨some 25, MOp.load none (Opd.s 24), none⟩,
 ⟨some 26, MOp.eqv false EqK.ptr (Opd.s 25) (Opd.c AV.nilp), none⟩,
 ⟨some 27, MOp.mv (Opd.s 26), none⟩,
 ⟨some 28, MOp.ixp 2 1 (Opd.s 8) (Opd.c (AV.int .i64 1)), some (27, false)⟩,
 ⟨some 29, MOp.load none (Opd.s 28), some (27, false)⟩,
 ⟨some 30, MOp.eqv false EqK.ptr (Opd.s 29) (Opd.c AV.nilp), some (27, false)⟩,
 ⟨some 31, MOp.pick (Opd.s 27) (Opd.c (AV.bool true)) (Opd.s 30), none⟩]).seq
 (MC.cond (Opd.s 31)
 ((MC.reg
 [⟨some 6, MOp.mv (Opd.c (AV.bool false)), none⟩]).seq
 MC.ret)
 MC.skip)).seq
 ((MC.reg
 [⟨some 9, MOp.alloc
 [AV.int .i64 0, AV.int .i64 0], none⟩,
 ⟨some 10, MOp.alloc
 [AV.int .i64 0, AV.int .i64 0], none⟩]).seq
 (((MC.reg
 [⟨some 11, MOp.mv (Opd.c (AV.int .i64 0)), none⟩]).seq
 (MC.block 0
 (MC.loop M14b1l M14b1))).seq
 M14r1))))))) ⟩
def M48b0 : MC :=
 ((MC.reg
 [⟨some 16, MOp.bin .lss (Opd.s 15) (Opd.s 14), none⟩]).seq
 ((MC.cond (Opd.s 16) MC.skip (MC.exit 0)).seq
 ((MC.block 1
 ((MC.reg
 [⟨some 17, MOp.mv (Opd.s 15), none⟩,
 ⟨some 18, MOp.ixa 9 (Opd.s 13) (Opd.s 15), none⟩,
 ⟨some 19, MOp.load (some 9) (Opd.s 18), none⟩,
 ⟨some 9, MOp.alloc
 [AV.int .i64 0,
 AV.int .i64 0, AV.bool false,
 AV.int .i64 0,
 AV.int .i64 0,
 AV.int .i64 0,
 AV.int .i64 0, AV.bool false,
 AV.str []], none⟩,
 ⟨some 8, MOp.mv (Opd.s 17), none⟩,
 ⟨none, MOp.store 9 (Opd.s 9) (Opd.s 19), none⟩]).seq
 (((MC.reg
 [⟨some 20, MOp.mv (Opd.s 2), none⟩,
 ⟨some 21, MOp.mv (Opd.s 8), none⟩,
 ⟨some 22, MOp.bin .and (Opd.s 21)
 (Opd.c (AV.int .i64 7)), none⟩,
 ⟨some 23, MOp.bin .shr (Opd.s 20) (Opd.s 22), none⟩,
 ⟨some 24, MOp.bin .and (Opd.s 23)
 (Opd.c (AV.int .i64 1)), none⟩,
 ⟨some 25, MOp.bin .eql (Opd.s 24)
 (Opd.c (AV.int .i64 1)), none⟩]).seq
 (MC.cond (Opd.s 25) (MC.exit 1) MC.skip)).seq
 ((MC.reg
 [⟨some 27, MOp.mv (Opd.s 1), none⟩,
 ⟨some 28, MOp.load (some 9) (Opd.s 9), none⟩,
 ⟨some 29, MOp.call 49 [(0, Opd.s 27), (0, Opd.s 28)], none⟩,
 ⟨some 26, MOp.mv (Opd.s 29), none⟩,
 ⟨some 30, MOp.ext 0 (Opd.s 26), none⟩,
 ⟨some 31, MOp.ext 1 (Opd.s 26), none⟩,
 ⟨some 10, MOp.mv (Opd.s 30), none⟩,
 ⟨some 11, MOp.mv (Opd.s 31), none⟩]).seq
 ((MC.reg
 [⟨some 32, MOp.mv (Opd.s 11), none⟩]).seq
 (MC.cond (Opd.s 32)
 (MC.reg
 [⟨some 33, MOp.mv (Opd.s 7), none⟩,
 ⟨some 34, MOp.bin .add (Opd.s 33)
 (Opd.c (AV.int .i64 1)), none⟩,
 ⟨some 7, MOp.mv (Opd.s 34), none⟩])
 MC.skip)))))).seq
 (MC.reg
 [⟨some 35, MOp.bin .add (Opd.s 15)
 (Opd.c (AV.int .i64 1)), none⟩,
 ⟨some 15, MOp.mv (Opd.s 35), none⟩]))))
def M48b0l : List Bool := [false, true, true, false, false, false, false, true, false, false, false, false, false, true, true, true, false, false, false, false, false, false, false, false, false, false, false, false, false, false, false, false, false, false, false, false, false]
def M48r0 : MC :=
 ((MC.reg
 [⟨some 36, MOp.mv (Opd.s 7), none⟩,
 ⟨some 6, MOp.mv (Opd.s 36), none⟩]).seq
 MC.ret)
def M48 : MFun :=
 ⟨37, [MRes.tmp 0 6], (MC.reg
 [⟨some 6, MOp.mv (Opd.c (AV.int .i64 0)), none⟩]).seq
 ((MC.reg
 [⟨some 7, MOp.mv (Opd.c (AV.int .i64 0)), none⟩]).seq
 (((MC.reg
 [⟨some 12, MOp.mv (Opd.s 0), none⟩,
 ⟨some 13, MOp.call 42 [(0, Opd.s 12)], none⟩,
 ⟨some 14, MOp.len (Opd.s 13), none⟩,
 ⟨some 15, MOp.mv (Opd.c (AV.int .i64 0)), none⟩]).seq
 (MC.block 0
 (MC.loop M48b0l M48b0))).seq
 M48r0)) ⟩
def M18b0 : MC :=
 (((MC.reg
 [⟨some 40, MOp.mv (Opd.s 10), none⟩,
 ⟨some 41, MOp.mv (Opd.s 2), none⟩,
 ⟨some 42, MOp.len (Opd.s 41), none⟩,
 ⟨some 43, MOp.bin .lss (Opd.s 40) (Opd.s 42), none⟩,
 ⟨some 44, MOp.mv (Opd.s 43), none⟩,
 ⟨some 45, MOp.mv (Opd.s 10), some (44, true)⟩,
 ⟨some 46, MOp.bin .lss (Opd.s 45)
 (Opd.c (AV.int .i64 80)), some (44, true)⟩,
 ⟨some 47, MOp.pick (Opd.s 44) (Opd.s 46)
 (Opd.c (AV.bool false)), none⟩]).seq
 (MC.cond (Opd.s 47) MC.skip (MC.exit 0))).seq
 ((MC.block 1
 ((MC.reg
 [⟨some 50, MOp.mv (Opd.s 2), none⟩,
 ⟨some 51, MOp.mv (Opd.s 10), none⟩,
 ⟨some 52, MOp.ixa 12 (Opd.s 50) (Opd.s 51), none⟩,
 ⟨some 53, MOp.load (some 12) (Opd.s 52), none⟩,
 ⟨some 11, MOp.alloc
 [AV.int .i64 0,
 AV.int .i64 0, AV.str [],
 AV.int .i64 0,
 AV.int .i64 0, AV.bool false,
 AV.int .i64 0,
 AV.int .i64 0,
 AV.int .i64 0,
 AV.int .i64 0, AV.bool false,
 AV.str []], none⟩,
 ⟨none, MOp.store 12 (Opd.s 11) (Opd.s 53), none⟩]).seq
 (((MC.reg
 [⟨some 54, MOp.fa 0 (Opd.s 11), none⟩,
 ⟨some 55, MOp.load none (Opd.s 54), none⟩]).seq
 (MC.block 2
 ((MC.reg
 [⟨some 61, MOp.bin .eql (Opd.s 55)
 (Opd.c (AV.int .i64 0)), none⟩,
 ⟨some 60, MOp.mv (Opd.s 61), none⟩]).seq
 (MC.cond (Opd.s 60)
 ((MC.reg
 [⟨some 62, MOp.fa 2 (Opd.s 11), none⟩,
 ⟨some 63, MOp.load none (Opd.s 62), none⟩,
 ⟨some 64, MOp.call 41
 [(0, Opd.s 63),
 (0,
 Opd.c
 (AV.int .i64 70))], none⟩,
 ⟨some 12, MOp.mv (Opd.s 64), none⟩]).seq
 ((MC.reg
 [⟨some 65, MOp.mv (Opd.s 8), none⟩,
 ⟨some 66, MOp.mv (Opd.s 12), none⟩,
 ⟨some 67, MOp.call 40
 [(0, Opd.s 65), (0, Opd.s 66)], none⟩,
 ⟨some 68, MOp.mv (Opd.s 9), none⟩,
 ⟨some 69, MOp.mv (Opd.s 12), none⟩,
 ⟨some 70, MOp.call 51
 [(0, Opd.s 68), (0, Opd.s 69)], none⟩,
 ⟨some 71, MOp.bin .neq (Opd.s 67)
 (Opd.s 70), none⟩]).seq
 (MC.cond (Opd.s 71)
 ((MC.reg
 [⟨some 6, MOp.mv (Opd.c (AV.bool false)), none⟩]).seq
 MC.ret)
 MC.skip)))
 ((MC.reg
 [⟨some 73, MOp.bin .eql (Opd.s 55)
 (Opd.c (AV.int .i64 1)), none⟩,
 ⟨some 72, MOp.mv (Opd.s 73), none⟩]).seq
 (MC.cond (Opd.s 72)
 ((MC.reg
 [⟨some 74, MOp.mv (Opd.s 8), none⟩,
 ⟨some 75, MOp.call 42 [(0, Opd.s 74)], none⟩,
 ⟨some 76, MOp.mv (Opd.s 9), none⟩,
 ⟨some 77, MOp.call 53 [(0, Opd.s 76)], none⟩,
 ⟨some 78, MOp.call 52
 [(9, Opd.s 75), (9, Opd.s 77)], none⟩,
 ⟨some 79, MOp.un .not (Opd.s 78), none⟩]).seq
 (MC.cond (Opd.s 79)
 ((MC.reg
 [⟨some 6, MOp.mv (Opd.c (AV.bool false)), none⟩]).seq
 MC.ret)
 MC.skip))
 ((MC.reg
 [⟨some 81, MOp.bin .eql (Opd.s 55)
 (Opd.c
 (AV.int .i64 2)), none⟩,
 ⟨some 80, MOp.mv (Opd.s 81), none⟩]).seq
 (MC.cond (Opd.s 80)
 ((MC.reg
 [⟨some 82, MOp.fa 3 (Opd.s 11), none⟩,
 ⟨some 83, MOp.load (some 9) (Opd.s 82), none⟩,
 ⟨some 84, MOp.call 54 [(0, Opd.s 83)], none⟩,
 ⟨some 13, MOp.alloc
 [AV.int .i64 0,
 AV.int .i64 0,
 AV.bool false,
 AV.int .i64 0,
 AV.int .i64 0,
 AV.int .i64 0,
 AV.int .i64 0,
 AV.bool false, AV.str []], none⟩,
 ⟨none, MOp.store 9 (Opd.s 13) (Opd.s 84), none⟩]).seq
 ((MC.reg
 [⟨some 86, MOp.mv (Opd.s 8), none⟩,
 ⟨some 87, MOp.load (some 9) (Opd.s 13), none⟩,
 ⟨some 88, MOp.call 49
 [(0, Opd.s 86), (0, Opd.s 87)], none⟩,
 ⟨some 85, MOp.mv (Opd.s 88), none⟩,
 ⟨some 89, MOp.ext 0 (Opd.s 85), none⟩,
 ⟨some 90, MOp.ext 1 (Opd.s 85), none⟩,
 ⟨some 14, MOp.mv (Opd.s 89), none⟩,
 ⟨some 15, MOp.mv (Opd.s 90), none⟩]).seq
 ((MC.reg
 [⟨some 92, MOp.mv (Opd.s 9), none⟩,
 ⟨some 93, MOp.load (some 9) (Opd.s 13), none⟩,
 ⟨some 94, MOp.call 55
 [(0, Opd.s 92), (0, Opd.s 93)], none⟩,
 ⟨some 91, MOp.mv (Opd.s 94), none⟩,
 ⟨some 95, MOp.ext 0 (Opd.s 91), none⟩,
 ⟨some 96, MOp.ext 1 (Opd.s 91), none⟩,
 ⟨some 16, MOp.mv (Opd.s 95), none⟩,
 ⟨some 17, MOp.mv (Opd.s 96), none⟩]).seq
 ((MC.reg
 [⟨some 97, MOp.mv (Opd.s 14), none⟩,
 ⟨some 98, MOp.mv (Opd.s 16), none⟩,
 ⟨some 99, MOp.bin .neq (Opd.s 97)
 (Opd.s 98), none⟩,
 ⟨some 100, MOp.mv (Opd.s 99), none⟩,
 ⟨some 101, MOp.mv (Opd.s 15), some (100, false)⟩,
 ⟨some 102, MOp.mv (Opd.s 17), some (100, false)⟩,
 ⟨some 103, MOp.eqv true
 (EqK.flat (EqF.one SK.b))
 (Opd.s 101) (Opd.s 102), some (100, false)⟩,
 ⟨some 104, MOp.pick (Opd.s 100)
 (Opd.c (AV.bool true))
 (Opd.s 103), none⟩]).seq
 (MC.cond (Opd.s 104)
 ((MC.reg
 [⟨some 6, MOp.mv
 (Opd.c (AV.bool false)), none⟩]).seq
 MC.ret)
 MC.skip)))))
 ((MC.reg
 [⟨some 106, MOp.bin .eql (Opd.s 55)
 (Opd.c
 (AV.int .i64 3)), none⟩,
 ⟨some 105, MOp.mv (Opd.s 106), none⟩]).seq
 (MC.cond (Opd.s 105)
 ((MC.reg
 [⟨some 107, MOp.mv (Opd.s 8), none⟩,
 ⟨some 108, MOp.call 44 [(0, Opd.s 107)], none⟩,
 ⟨some 109, MOp.mv (Opd.s 9), none⟩,
 ⟨some 110, MOp.call 56 [(0, Opd.s 109)], none⟩,
 ⟨some 111, MOp.eqv true
 (EqK.flat (EqF.one SK.b))
 (Opd.s 108) (Opd.s 110), none⟩]).seq
 (MC.cond (Opd.s 111)
 ((MC.reg
 [⟨some 6, MOp.mv
 (Opd.c (AV.bool false)), none⟩]).seq
 MC.ret)
 MC.skip))
 ((MC.reg
 [⟨some 56, MOp.mv (Opd.s 8), none⟩,
 ⟨some 57, MOp.call 57 [(0, Opd.s 56)], none⟩]).seq
 (MC.reg
 [⟨some 58, MOp.mv (Opd.s 9), none⟩,
 ⟨some 59, MOp.call 58 [(0, Opd.s 58)], none⟩])))))))))))).seq
 ((MC.draw
 [⟨some 112, MOp.mv (Opd.s 8), none⟩,
 ⟨some 113, MOp.call 43 [(0, Opd.s 112)], none⟩,
 ⟨some 114, MOp.mv (Opd.s 9), none⟩,
 ⟨some 115, MOp.nchk (Opd.s 114), none⟩,
 ⟨some 116, MOp.fa 2 (Opd.s 115), none⟩,
 ⟨some 117, MOp.load none (Opd.s 116), none⟩,
 ⟨some 118, MOp.eqv true (EqK.flat (EqF.one SK.b))
 (Opd.s 113) (Opd.s 117), none⟩,
 ⟨some 119, MOp.mv (Opd.s 118), none⟩,
 ⟨some 120, MOp.mv (Opd.s 8), some (119, false)⟩,
 ⟨some 121, MOp.call 59 [(0, Opd.s 120)], some (119, false)⟩,
 ⟨some 122, MOp.mv (Opd.s 9), some (119, false)⟩,
 ⟨some 123, MOp.nchk (Opd.s 122), some (119, false)⟩,
 ⟨some 124, MOp.fa 0 (Opd.s 123), some (119, false)⟩,
 ⟨some 125, MOp.load none (Opd.s 124), some (119, false)⟩,
 ⟨some 126, MOp.bin .neq (Opd.s 121) (Opd.s 125), some (119, false)⟩,
 ⟨some 127, MOp.pick (Opd.s 119) (Opd.c (AV.bool true))
 (Opd.s 126), none⟩,
 ⟨some 128, MOp.mv (Opd.s 127), none⟩,
 ⟨some 129, MOp.mv (Opd.s 8), some (128, false)⟩,
 ⟨some 130, MOp.call 46 [(0, Opd.s 129)], some (128, false)⟩,
 ⟨some 131, MOp.mv (Opd.s 9), some (128, false)⟩,
 ⟨some 132, MOp.nchk (Opd.s 131), some (128, false)⟩,
 ⟨some 133, MOp.fa 3 (Opd.s 132), some (128, false)⟩,
 ⟨some 134, MOp.load none (Opd.s 133), some (128, false)⟩,
 ⟨some 135, MOp.nchk (Opd.s 134), some (128, false)⟩,
 ⟨some 136, MOp.fa 2 (Opd.s 135), some (128, false)⟩,
 ⟨some 137, MOp.load none (Opd.s 136), some (128, false)⟩,
 ⟨some 138, MOp.len (Opd.s 137), some (128, false)⟩,
 ⟨some 139, MOp.bin .neq (Opd.s 130) (Opd.s 138), some (128, false)⟩,
 ⟨some 140, MOp.pick (Opd.s 128) (Opd.c (AV.bool true))
 (Opd.s 139), none⟩]
 [0, 1, 0, 4, 12, 28, 63, 127, 255, 511, 255, 1279, 3327, 7423, 16383, 32767,
 65535, 131071, 262143, 131071, 655359, 1703935, 3801087, 7995391, 16383999,
 33161215, 66715647, 134217727, 268435455]).seq
 (MC.cond (Opd.s 140)
 ((MC.reg
 [⟨some 6, MOp.mv (Opd.c (AV.bool false)), none⟩]).seq
 MC.ret)
 MC.skip))))).seq
 (MC.reg
 [⟨some 48, MOp.mv (Opd.s 10), none⟩,
 ⟨some 49, MOp.bin .add (Opd.s 48)
 (Opd.c (AV.int .i64 1)), none⟩,
 ⟨some 10, MOp.mv (Opd.s 49), none⟩])))
def M18b0l : List Bool := [false, false, true, false, false, false, false, false, true, true, true, false, false, false, false, false, false, false, false, false, false, false, false, false, false, false, false, false, false, false, false, false, false, false, false, false, false, false, false, false, false, false, false, false, false, false, false, false, false, false, false, false, false, false, false, false, false, false, false, false, false, false, false, false, false, false, false, false, false, false, false, false, false, false, false, false, false, false, false, false, false, false, false, false, false, false, false, false, false, false, false, false, false, false, false, false, false, false, false, false, false, false, false, false, false, false, false, false, false, false, false, false, false, false, false, false, false, false, false, false, false, false, false, false, false, false, false, false, false, false, false, false, false, false, false, false, false, false, false, false, false]
def M18r0 : MC :=
 ((MC.reg
 [⟨some 6, MOp.mv (Opd.c (AV.bool true)), none⟩]).seq
 MC.ret)
def M18 : MFun :=
 ⟨141, [MRes.tmp 0 6], (MC.reg
 [⟨some 4, MOp.box (Opd.s 1), none⟩,
 ⟨some 6, MOp.mv (Opd.c (AV.bool false)), none⟩]).seq
 ((MC.reg
 [⟨some 18, MOp.call 21 [], none⟩,
 ⟨some 7, MOp.mv (Opd.s 18), none⟩]).seq
 (((MC.reg
 [⟨some 19, MOp.mv (Opd.s 7), none⟩,
 ⟨some 20, MOp.un .not (Opd.s 19), none⟩]).seq
 (MC.cond (Opd.s 20)
 ((MC.reg
 [⟨some 6, MOp.mv (Opd.c (AV.bool false)), none⟩]).seq
 MC.ret)
 MC.skip)).seq
 ((MC.reg
 [⟨some 21, MOp.mv (Opd.s 0), none⟩,
 ⟨some 22, MOp.bin .rem (Opd.s 21) (Opd.c (AV.int .i64 2)), none⟩,
 ⟨some 23, MOp.bin .add (Opd.s 22) (Opd.c (AV.int .i64 2)), none⟩,
 ⟨some 24, MOp.bin .rem (Opd.s 23) (Opd.c (AV.int .i64 2)), none⟩,
 ⟨some 25, MOp.bin .add (Opd.c (AV.int .i64 1)) (Opd.s 24), none⟩,
 ⟨some 0, MOp.mv (Opd.s 25), none⟩]).seq
 ((MC.reg
 [⟨some 26, MOp.fa 3 (Opd.s 4), none⟩,
 ⟨some 27, MOp.load none (Opd.s 26), none⟩,
 ⟨some 28, MOp.bin .rem (Opd.s 27)
 (Opd.c (AV.int .i64 70)), none⟩,
 ⟨some 29, MOp.bin .add (Opd.s 28)
 (Opd.c (AV.int .i64 70)), none⟩,
 ⟨some 30, MOp.bin .rem (Opd.s 29)
 (Opd.c (AV.int .i64 70)), none⟩,
 ⟨some 31, MOp.fa 3 (Opd.s 4), none⟩,
 ⟨none, MOp.store 1 (Opd.s 31) (Opd.s 30), none⟩]).seq
 ((MC.draw
 [⟨some 32, MOp.mv (Opd.s 0), none⟩,
 ⟨some 33, MOp.load (some 5) (Opd.s 4), none⟩,
 ⟨some 34, MOp.call 39 [(0, Opd.s 32), (0, Opd.s 33)], none⟩,
 ⟨some 35, MOp.mv (Opd.s 0), none⟩,
 ⟨some 36, MOp.load (some 5) (Opd.s 4), none⟩,
 ⟨some 37, MOp.call 50 [(0, Opd.s 35), (0, Opd.s 36)], none⟩,
 ⟨some 8, MOp.mv (Opd.s 34), none⟩,
 ⟨some 9, MOp.mv (Opd.s 37), none⟩]
 [0, 0, 3, 0, 0, 31, 63, 127]).seq
 (((MC.reg
 [⟨some 38, MOp.mv (Opd.s 8), none⟩,
 ⟨some 39, MOp.eqv false EqK.ptr (Opd.s 38) (Opd.c AV.nilp), none⟩]).seq
 (MC.cond (Opd.s 39)
 ((MC.reg
 [⟨some 6, MOp.mv (Opd.c (AV.bool false)), none⟩]).seq
 MC.ret)
 MC.skip)).seq
 (((MC.reg
 [⟨some 10, MOp.mv (Opd.c (AV.int .i64 0)), none⟩]).seq
 (MC.block 0
 (MC.loop M18b0l M18b0))).seq
 M18r0))))))) ⟩
def M29 : MFun :=
 ⟨30, [MRes.tmp 0 6, MRes.tmp 0 7], (MC.reg
 [⟨some 6, MOp.mv (Opd.c (AV.str [])), none⟩,
 ⟨some 7, MOp.mv (Opd.c (AV.bool false)), none⟩]).seq
 (((MC.reg
 [⟨some 8, MOp.mv (Opd.s 1), none⟩,
 ⟨some 9, MOp.mv (Opd.s 0), none⟩,
 ⟨some 10, MOp.nchk (Opd.s 9), none⟩,
 ⟨some 11, MOp.fa 0 (Opd.s 10), none⟩,
 ⟨some 12, MOp.load none (Opd.s 11), none⟩,
 ⟨some 13, MOp.bin .neq (Opd.s 8) (Opd.s 12), none⟩]).seq
 (MC.cond (Opd.s 13)
 ((MC.reg
 [⟨some 14, MOp.mv (Opd.s 0), none⟩,
 ⟨some 15, MOp.nchk (Opd.s 14), none⟩,
 ⟨some 16, MOp.fa 1 (Opd.s 15), none⟩,
 ⟨none, MOp.store 1 (Opd.s 16) (Opd.c (AV.bool true)), none⟩]).seq
 ((MC.reg
 [⟨some 6, MOp.mv (Opd.c (AV.str [])), none⟩,
 ⟨some 7, MOp.mv (Opd.c (AV.bool false)), none⟩]).seq
 MC.ret))
 MC.skip)).seq
 ((MC.reg
 [⟨some 17, MOp.mv (Opd.s 0), none⟩,
 ⟨some 18, MOp.mv (Opd.s 0), none⟩,
 ⟨some 19, MOp.mv (Opd.s 0), none⟩,
 ⟨some 20, MOp.nchk (Opd.s 19), none⟩,
 ⟨some 21, MOp.fa 0 (Opd.s 20), none⟩,
 ⟨some 22, MOp.load none (Opd.s 21), none⟩,
 ⟨some 23, MOp.bin .add (Opd.s 22) (Opd.c (AV.int .i64 1)), none⟩,
 ⟨some 24, MOp.call 23 [(0, Opd.s 23)], none⟩,
 ⟨some 25, MOp.nchk (Opd.s 17), none⟩,
 ⟨some 26, MOp.fa 0 (Opd.s 25), none⟩,
 ⟨none, MOp.store 1 (Opd.s 26) (Opd.s 24), none⟩,
 ⟨some 27, MOp.nchk (Opd.s 18), none⟩,
 ⟨some 28, MOp.fa 1 (Opd.s 27), none⟩,
 ⟨none, MOp.store 1 (Opd.s 28) (Opd.c (AV.bool false)), none⟩]).seq
 ((MC.reg
 [⟨some 29, MOp.mv (Opd.s 2), none⟩,
 ⟨some 6, MOp.mv (Opd.s 29), none⟩,
 ⟨some 7, MOp.mv (Opd.c (AV.bool true)), none⟩]).seq
 MC.ret))) ⟩
def M41 : MFun :=
 ⟨11, [MRes.tmp 0 4], (MC.reg [⟨some 4, MOp.mv (Opd.c (AV.str [])), none⟩]).seq
 ((MC.reg
 [⟨some 5, MOp.mv (Opd.s 0), none⟩,
 ⟨some 6, MOp.mv (Opd.s 0), none⟩,
 ⟨some 7, MOp.lens (Opd.s 6), none⟩,
 ⟨some 8, MOp.mv (Opd.s 1), none⟩,
 ⟨some 9, MOp.mn [Opd.s 7, Opd.s 8], none⟩,
 ⟨some 10, MOp.sls (Opd.s 5) none (some (Opd.s 9)), none⟩,
 ⟨some 4, MOp.mv (Opd.s 10), none⟩]).seq
 MC.ret) ⟩
def M50 : MFun :=
 ⟨16, [MRes.tmp 0 4], (MC.reg
 [⟨some 3, MOp.box (Opd.s 1), none⟩,
 ⟨some 4, MOp.mv (Opd.c AV.nilp), none⟩]).seq
 ((MC.draw
 [⟨some 5, MOp.mv (Opd.s 0), none⟩,
 ⟨some 6, MOp.fa 3 (Opd.s 3), none⟩,
 ⟨some 7, MOp.load none (Opd.s 6), none⟩,
 ⟨some 8, MOp.mn [Opd.s 7, Opd.c (AV.int .i64 64)], none⟩,
 ⟨some 9, MOp.mv (Opd.s 0), none⟩,
 ⟨some 10, MOp.bin .eql (Opd.s 9) (Opd.c (AV.int .i64 1)), none⟩,
 ⟨some 11, MOp.fa 2 (Opd.s 3), none⟩,
 ⟨some 12, MOp.load none (Opd.s 11), none⟩,
 ⟨some 13, MOp.call 63 [(0, Opd.s 12)], none⟩,
 ⟨some 14, MOp.build
 [AV.int .i64 0, AV.int .i64 0,
 AV.bool false, AV.nilp, AV.int .i64 0,
 AV.bool false]
 [(0, 1, Opd.s 5), (1, 1, Opd.s 8), (2, 1, Opd.s 10), (3, 1, Opd.s 13)], none⟩,
 ⟨some 15, MOp.box (Opd.s 14), none⟩,
 ⟨some 4, MOp.mv (Opd.s 15), none⟩]
 [0, 0, 2, 6, 0, 16, 0, 64, 192, 511, 1023, 2047]).seq
 MC.ret) ⟩
def M51 : MFun :=
 ⟨18, [MRes.tmp 0 4], (MC.reg
 [⟨some 4, MOp.mv (Opd.c (AV.int .i64 0)), none⟩]).seq
 (((MC.reg
 [⟨some 5, MOp.mv (Opd.s 1), none⟩,
 ⟨some 6, MOp.lens (Opd.s 5), none⟩,
 ⟨some 7, MOp.mv (Opd.s 0), none⟩,
 ⟨some 8, MOp.nchk (Opd.s 7), none⟩,
 ⟨some 9, MOp.fa 1 (Opd.s 8), none⟩,
 ⟨some 10, MOp.load none (Opd.s 9), none⟩,
 ⟨some 11, MOp.bin .gtr (Opd.s 6) (Opd.s 10), none⟩]).seq
 (MC.cond (Opd.s 11)
 ((MC.reg
 [⟨some 4, MOp.mv (Opd.c (AV.int .i64 1)), none⟩]).seq
 MC.ret)
 MC.skip)).seq
 ((MC.reg
 [⟨some 12, MOp.mv (Opd.s 0), none⟩,
 ⟨some 13, MOp.nchk (Opd.s 12), none⟩,
 ⟨some 14, MOp.fa 3 (Opd.s 13), none⟩,
 ⟨some 15, MOp.load none (Opd.s 14), none⟩,
 ⟨some 16, MOp.mv (Opd.s 1), none⟩,
 ⟨some 17, MOp.call 64 [(0, Opd.s 15), (0, Opd.s 16)], none⟩,
 ⟨some 4, MOp.mv (Opd.s 17), none⟩]).seq
 MC.ret)) ⟩
def M52b0 : MC :=
 ((MC.reg
 [⟨some 14, MOp.bin .lss (Opd.s 13) (Opd.s 12), none⟩]).seq
 ((MC.cond (Opd.s 14) MC.skip (MC.exit 0)).seq
 ((MC.block 1
 ((MC.reg
 [⟨some 15, MOp.mv (Opd.s 13), none⟩,
 ⟨some 5, MOp.mv (Opd.s 15), none⟩]).seq
 ((MC.draw
 [⟨some 16, MOp.mv (Opd.s 0), none⟩,
 ⟨some 17, MOp.mv (Opd.s 5), none⟩,
 ⟨some 18, MOp.ixa 9 (Opd.s 16) (Opd.s 17), none⟩,
 ⟨some 19, MOp.load (some 9) (Opd.s 18), none⟩,
 ⟨some 20, MOp.mv (Opd.s 1), none⟩,
 ⟨some 21, MOp.mv (Opd.s 5), none⟩,
 ⟨some 22, MOp.ixa 9 (Opd.s 20) (Opd.s 21), none⟩,
 ⟨some 23, MOp.load (some 9) (Opd.s 22), none⟩,
 ⟨some 24, MOp.eqv true
 (EqK.flat
 (EqF.many
 [SK.i, SK.i, SK.b, SK.i, SK.i, SK.i,
 SK.i, SK.b, SK.s]))
 (Opd.s 19) (Opd.s 23), none⟩]
 [0, 0, 3, 7, 0, 0, 48, 112, 255]).seq
 (MC.cond (Opd.s 24)
 ((MC.reg
 [⟨some 4, MOp.mv (Opd.c (AV.bool false)), none⟩]).seq
 MC.ret)
 MC.skip)))).seq
 (MC.reg
 [⟨some 25, MOp.bin .add (Opd.s 13)
 (Opd.c (AV.int .i64 1)), none⟩,
 ⟨some 13, MOp.mv (Opd.s 25), none⟩]))))
def M52b0l : List Bool := [true, true, false, false, false, false, false, false, false, false, false, false, true, true, false, false, false, false, false, false, false, false, false, false, false, false]
def M52r0 : MC :=
 ((MC.reg
 [⟨some 4, MOp.mv (Opd.c (AV.bool true)), none⟩]).seq
 MC.ret)
def M52 : MFun :=
 ⟨26, [MRes.tmp 0 4], (MC.reg
 [⟨some 4, MOp.mv (Opd.c (AV.bool false)), none⟩]).seq
 (((MC.reg
 [⟨some 6, MOp.mv (Opd.s 0), none⟩,
 ⟨some 7, MOp.len (Opd.s 6), none⟩,
 ⟨some 8, MOp.mv (Opd.s 1), none⟩,
 ⟨some 9, MOp.len (Opd.s 8), none⟩,
 ⟨some 10, MOp.bin .neq (Opd.s 7) (Opd.s 9), none⟩]).seq
 (MC.cond (Opd.s 10)
 ((MC.reg
 [⟨some 4, MOp.mv (Opd.c (AV.bool false)), none⟩]).seq
 MC.ret)
 MC.skip)).seq
 (((MC.reg
 [⟨some 11, MOp.mv (Opd.s 0), none⟩,
 ⟨some 12, MOp.len (Opd.s 11), none⟩,
 ⟨some 13, MOp.mv (Opd.c (AV.int .i64 0)), none⟩]).seq
 (MC.block 0
 (MC.loop M52b0l M52b0))).seq
 M52r0)) ⟩
def M53b0 : MC :=
 (((MC.reg
 [⟨some 20, MOp.mv (Opd.s 6), none⟩,
 ⟨some 21, MOp.mv (Opd.s 4), none⟩,
 ⟨some 22, MOp.len (Opd.s 21), none⟩,
 ⟨some 23, MOp.bin .lss (Opd.s 20) (Opd.s 22), none⟩]).seq
 (MC.cond (Opd.s 23) MC.skip (MC.exit 0))).seq
 ((MC.block 1
 (MC.draw
 [⟨some 26, MOp.mv (Opd.s 3), none⟩,
 ⟨some 27, MOp.mv (Opd.s 0), none⟩,
 ⟨some 28, MOp.nchk (Opd.s 27), none⟩,
 ⟨some 29, MOp.fa 0 (Opd.s 28), none⟩,
 ⟨some 30, MOp.load none (Opd.s 29), none⟩,
 ⟨some 31, MOp.bin .eql (Opd.s 30)
 (Opd.c (AV.int .i64 1)), none⟩,
 ⟨some 32, MOp.mv (Opd.s 0), none⟩,
 ⟨some 33, MOp.nchk (Opd.s 32), none⟩,
 ⟨some 34, MOp.fa 4 (Opd.s 33), none⟩,
 ⟨some 35, MOp.fa 0 (Opd.s 34), none⟩,
 ⟨some 36, MOp.load none (Opd.s 35), none⟩,
 ⟨some 37, MOp.mv (Opd.s 4), none⟩,
 ⟨some 38, MOp.mv (Opd.s 6), none⟩,
 ⟨some 39, MOp.ixa 1 (Opd.s 37) (Opd.s 38), none⟩,
 ⟨some 40, MOp.load none (Opd.s 39), none⟩,
 ⟨some 41, MOp.mv (Opd.s 5), none⟩,
 ⟨some 42, MOp.mv (Opd.s 6), none⟩,
 ⟨some 43, MOp.ixa 1 (Opd.s 41) (Opd.s 42), none⟩,
 ⟨some 44, MOp.load none (Opd.s 43), none⟩,
 ⟨some 45, MOp.build
 [AV.int .i64 0,
 AV.int .i64 0, AV.bool false,
 AV.int .i64 0,
 AV.int .i64 0,
 AV.int .i64 0,
 AV.int .i64 0, AV.bool false,
 AV.str []]
 [(2, 1, Opd.s 31),
 (3, 1, Opd.c (AV.int .i64 1)),
 (5, 1, Opd.s 36), (6, 1, Opd.s 40), (8, 1, Opd.s 44)], none⟩,
 ⟨some 46, MOp.bsl true 9 1
 [AV.int .i64 0,
 AV.int .i64 0, AV.bool false,
 AV.int .i64 0,
 AV.int .i64 0,
 AV.int .i64 0,
 AV.int .i64 0, AV.bool false,
 AV.str []]
 [(0, 9, Opd.s 45)], none⟩,
 ⟨some 47, MOp.app true 9 80 (Opd.s 26) (Opd.s 46), none⟩,
 ⟨some 3, MOp.mv (Opd.s 47), none⟩]
 [0, 0, 2, 6, 14, 30, 0, 64, 192, 448, 960, 0, 0, 6144, 14336, 0, 0, 98304, 229376, 524286,
 1048574, 2097151, 4194303])).seq
 (MC.reg
 [⟨some 24, MOp.mv (Opd.s 6), none⟩,
 ⟨some 25, MOp.bin .add (Opd.s 24)
 (Opd.c (AV.int .i64 1)), none⟩,
 ⟨some 6, MOp.mv (Opd.s 25), none⟩])))
def M53b0l : List Bool := [true, false, false, true, true, true, true, false, false, false, false, false, false, false, false, false, false, false, false, false, false, false, false, false, false, false, false, false, false, false, false, false, false, false, false, false, false, false, false, false, false, false, false, false, false, false, false, false, false, false, false, false, false, false, false, false, false, false, false, false, false, false, false, false, false, false, false, false, false, false, false, false, false, false, false, false, false, false, false, false, false]
def M53r0 : MC :=
 (((MC.reg
 [⟨some 48, MOp.mv (Opd.s 3), none⟩,
 ⟨some 49, MOp.len (Opd.s 48), none⟩,
 ⟨some 50, MOp.bin .eql (Opd.s 49)
 (Opd.c (AV.int .i64 0)), none⟩]).seq
 (MC.cond (Opd.s 50)
 ((MC.draw
 [⟨some 51, MOp.mv (Opd.s 0), none⟩,
 ⟨some 52, MOp.nchk (Opd.s 51), none⟩,
 ⟨some 53, MOp.fa 0 (Opd.s 52), none⟩,
 ⟨some 54, MOp.load none (Opd.s 53), none⟩,
 ⟨some 55, MOp.bin .eql (Opd.s 54)
 (Opd.c (AV.int .i64 1)), none⟩,
 ⟨some 56, MOp.mv (Opd.s 0), none⟩,
 ⟨some 57, MOp.nchk (Opd.s 56), none⟩,
 ⟨some 58, MOp.fa 4 (Opd.s 57), none⟩,
 ⟨some 59, MOp.fa 0 (Opd.s 58), none⟩,
 ⟨some 60, MOp.load none (Opd.s 59), none⟩,
 ⟨some 61, MOp.build
 [AV.int .i64 0, AV.int .i64 0,
 AV.bool false, AV.int .i64 0,
 AV.int .i64 0, AV.int .i64 0,
 AV.int .i64 0, AV.bool false, AV.str []]
 [(2, 1, Opd.s 55),
 (3, 1, Opd.c (AV.int .i64 2)),
 (4, 1, Opd.c (AV.int .i64 0)),
 (5, 1, Opd.s 60)], none⟩,
 ⟨some 62, MOp.bsl true 9 1
 [AV.int .i64 0, AV.int .i64 0,
 AV.bool false, AV.int .i64 0,
 AV.int .i64 0, AV.int .i64 0,
 AV.int .i64 0, AV.bool false, AV.str []]
 [(0, 9, Opd.s 61)], none⟩,
 ⟨some 3, MOp.mv (Opd.s 62), none⟩]
 [0, 1, 3, 7, 15, 0, 32, 96, 224, 480, 1023, 2047, 4095]).seq
 ((MC.reg
 [⟨some 63, MOp.mv (Opd.s 0), none⟩,
 ⟨some 64, MOp.nchk (Opd.s 63), none⟩,
 ⟨some 65, MOp.fa 4 (Opd.s 64), none⟩,
 ⟨some 66, MOp.fa 1 (Opd.s 65), none⟩,
 ⟨some 67, MOp.load none (Opd.s 66), none⟩]).seq
 (MC.cond (Opd.s 67)
 (MC.reg
 [⟨some 68, MOp.mv (Opd.s 3), none⟩,
 ⟨some 69, MOp.ixa 9 (Opd.s 68)
 (Opd.c (AV.int .i64 0)), none⟩,
 ⟨some 70, MOp.fa 4 (Opd.s 69), none⟩,
 ⟨none, MOp.store 1 (Opd.s 70)
 (Opd.c (AV.int .i64 2)), none⟩])
 MC.skip)))
 MC.skip)).seq
 ((MC.reg
 [⟨some 71, MOp.mv (Opd.s 3), none⟩,
 ⟨some 72, MOp.mv (Opd.s 3), none⟩,
 ⟨some 73, MOp.len (Opd.s 72), none⟩,
 ⟨some 74, MOp.bin .sub (Opd.s 73)
 (Opd.c (AV.int .i64 1)), none⟩,
 ⟨some 75, MOp.ixa 9 (Opd.s 71) (Opd.s 74), none⟩,
 ⟨some 76, MOp.fa 7 (Opd.s 75), none⟩,
 ⟨none, MOp.store 1 (Opd.s 76) (Opd.c (AV.bool true)), none⟩]).seq
 ((MC.reg
 [⟨some 77, MOp.mv (Opd.s 0), none⟩,
 ⟨some 78, MOp.nchk (Opd.s 77), none⟩,
 ⟨some 79, MOp.fa 2 (Opd.s 78), none⟩,
 ⟨none, MOp.store 1 (Opd.s 79) (Opd.c (AV.bool false)), none⟩]).seq
 ((MC.reg
 [⟨some 80, MOp.mv (Opd.s 3), none⟩,
 ⟨some 2, MOp.mv (Opd.s 80), none⟩]).seq
 MC.ret))))
def M53 : MFun :=
 ⟨81, [MRes.tmp 9 2], (MC.reg [⟨some 2, MOp.mv (Opd.c AV.nils), none⟩]).seq
 (((MC.reg
 [⟨some 7, MOp.mv (Opd.s 0), none⟩,
 ⟨some 8, MOp.nchk (Opd.s 7), none⟩,
 ⟨some 9, MOp.fa 2 (Opd.s 8), none⟩,
 ⟨some 10, MOp.load none (Opd.s 9), none⟩,
 ⟨some 11, MOp.un .not (Opd.s 10), none⟩]).seq
 (MC.cond (Opd.s 11)
 ((MC.reg
 [⟨some 2, MOp.mv (Opd.c AV.nils), none⟩]).seq
 MC.ret)
 MC.skip)).seq
 ((MC.reg [⟨some 3, MOp.mv (Opd.c AV.nils), none⟩]).seq
 ((MC.reg
 [⟨some 13, MOp.mv (Opd.s 0), none⟩,
 ⟨some 14, MOp.nchk (Opd.s 13), none⟩,
 ⟨some 15, MOp.fa 3 (Opd.s 14), none⟩,
 ⟨some 16, MOp.load none (Opd.s 15), none⟩,
 ⟨some 17, MOp.call 65 [(0, Opd.s 16)], none⟩,
 ⟨some 12, MOp.mv (Opd.s 17), none⟩,
 ⟨some 18, MOp.ext 0 (Opd.s 12), none⟩,
 ⟨some 19, MOp.ext 1 (Opd.s 12), none⟩,
 ⟨some 4, MOp.mv (Opd.s 18), none⟩,
 ⟨some 5, MOp.mv (Opd.s 19), none⟩]).seq
 (((MC.reg
 [⟨some 6, MOp.mv (Opd.c (AV.int .i64 0)), none⟩]).seq
 (MC.block 0
 (MC.loop M53b0l M53b0))).seq
 M53r0)))) ⟩
def M54 : MFun :=
 ⟨8, [MRes.cell 2 (some 9)], (MC.reg
 [⟨some 1, MOp.box (Opd.s 0), none⟩,
 ⟨some 2, MOp.alloc
 [AV.int .i64 0, AV.int .i64 0,
 AV.bool false, AV.int .i64 0,
 AV.int .i64 0, AV.int .i64 0,
 AV.int .i64 0, AV.bool false, AV.str []], none⟩]).seq
 ((MC.reg
 [⟨some 3, MOp.fa 8 (Opd.s 1), none⟩,
 ⟨some 4, MOp.load none (Opd.s 3), none⟩,
 ⟨some 5, MOp.call 41 [(0, Opd.s 4), (0, Opd.c (AV.int .i64 70))], none⟩,
 ⟨some 6, MOp.fa 8 (Opd.s 1), none⟩,
 ⟨none, MOp.store 1 (Opd.s 6) (Opd.s 5), none⟩]).seq
 ((MC.reg
 [⟨some 7, MOp.load (some 9) (Opd.s 1), none⟩,
 ⟨none, MOp.store 9 (Opd.s 2) (Opd.s 7), none⟩]).seq
 MC.ret)) ⟩
def M55 : MFun :=
 ⟨80, [MRes.tmp 0 4, MRes.tmp 0 5], (MC.reg
 [⟨some 3, MOp.box (Opd.s 1), none⟩,
 ⟨some 4, MOp.mv (Opd.c (AV.str [])), none⟩,
 ⟨some 5, MOp.mv (Opd.c (AV.bool false)), none⟩]).seq
 (((MC.draw
 [⟨some 8, MOp.fa 3 (Opd.s 3), none⟩,
 ⟨some 9, MOp.load none (Opd.s 8), none⟩,
 ⟨some 10, MOp.bin .lss (Opd.s 9) (Opd.c (AV.int .i64 1)), none⟩,
 ⟨some 11, MOp.mv (Opd.s 10), none⟩,
 ⟨some 12, MOp.fa 3 (Opd.s 3), some (11, false)⟩,
 ⟨some 13, MOp.load none (Opd.s 12), some (11, false)⟩,
 ⟨some 14, MOp.bin .gtr (Opd.s 13) (Opd.c (AV.int .i64 2)), some (11, false)⟩,
 ⟨some 15, MOp.pick (Opd.s 11) (Opd.c (AV.bool true)) (Opd.s 14), none⟩,
 ⟨some 16, MOp.mv (Opd.s 15), none⟩,
 ⟨some 17, MOp.fa 2 (Opd.s 3), some (16, false)⟩,
 ⟨some 18, MOp.load none (Opd.s 17), some (16, false)⟩,
 ⟨some 19, MOp.mv (Opd.s 0), some (16, false)⟩,
 ⟨some 20, MOp.nchk (Opd.s 19), some (16, false)⟩,
 ⟨some 21, MOp.fa 0 (Opd.s 20), some (16, false)⟩,
 ⟨some 22, MOp.load none (Opd.s 21), some (16, false)⟩,
 ⟨some 23, MOp.bin .eql (Opd.s 22) (Opd.c (AV.int .i64 2)), some (16, false)⟩,
 ⟨some 24, MOp.eqv true (EqK.flat (EqF.one SK.b)) (Opd.s 18) (Opd.s 23), some (16, false)⟩,
 ⟨some 25, MOp.pick (Opd.s 16) (Opd.c (AV.bool true)) (Opd.s 24), none⟩,
 ⟨some 26, MOp.mv (Opd.s 25), none⟩,
 ⟨some 27, MOp.fa 5 (Opd.s 3), some (26, false)⟩,
 ⟨some 28, MOp.load none (Opd.s 27), some (26, false)⟩,
 ⟨some 29, MOp.bin .lss (Opd.s 28) (Opd.c (AV.int .i64 0)), some (26, false)⟩,
 ⟨some 30, MOp.pick (Opd.s 26) (Opd.c (AV.bool true)) (Opd.s 29), none⟩,
 ⟨some 31, MOp.mv (Opd.s 30), none⟩,
 ⟨some 32, MOp.fa 5 (Opd.s 3), some (31, false)⟩,
 ⟨some 33, MOp.load none (Opd.s 32), some (31, false)⟩,
 ⟨some 34, MOp.bin .gtr (Opd.s 33) (Opd.c (AV.int .i64 7)), some (31, false)⟩,
 ⟨some 35, MOp.pick (Opd.s 31) (Opd.c (AV.bool true)) (Opd.s 34), none⟩,
 ⟨some 36, MOp.mv (Opd.s 35), none⟩,
 ⟨some 37, MOp.fa 6 (Opd.s 3), some (36, false)⟩,
 ⟨some 38, MOp.load none (Opd.s 37), some (36, false)⟩,
 ⟨some 39, MOp.bin .lss (Opd.s 38) (Opd.c (AV.int .i64 0)), some (36, false)⟩,
 ⟨some 40, MOp.pick (Opd.s 36) (Opd.c (AV.bool true)) (Opd.s 39), none⟩,
 ⟨some 41, MOp.mv (Opd.s 40), none⟩,
 ⟨some 42, MOp.fa 6 (Opd.s 3), some (41, false)⟩,
 ⟨some 43, MOp.load none (Opd.s 42), some (41, false)⟩,
 ⟨some 44, MOp.bin .gtr (Opd.s 43) (Opd.c (AV.int .i64 7)), some (41, false)⟩,
 ⟨some 45, MOp.pick (Opd.s 41) (Opd.c (AV.bool true)) (Opd.s 44), none⟩]
 [0, 1, 3, 7, 15, 31, 63, 127, 255, 511, 1023, 511, 2559, 6655, 14847, 31231, 65535, 131071, 262143, 524287,
 1048575, 2097151, 4194303, 8388607, 16777215, 33554431, 67108863, 134217727, 268435455, 536870911,
 1073741823, 2147483647, 4294967295, 8589934591, 17179869183, 34359738367, 68719476735, 137438953471]).seq
 (MC.cond (Opd.s 45)
 ((MC.reg
 [⟨some 4, MOp.mv (Opd.c (AV.str [])), none⟩,
 ⟨some 5, MOp.mv (Opd.c (AV.bool false)), none⟩]).seq
 MC.ret)
 MC.skip)).seq
 ((MC.draw
 [⟨some 46, MOp.mv (Opd.s 0), none⟩,
 ⟨some 47, MOp.nchk (Opd.s 46), none⟩,
 ⟨some 48, MOp.fa 3 (Opd.s 47), none⟩,
 ⟨some 49, MOp.load none (Opd.s 48), none⟩,
 ⟨some 50, MOp.fa 5 (Opd.s 3), none⟩,
 ⟨some 51, MOp.load none (Opd.s 50), none⟩,
 ⟨some 52, MOp.call 66 [(0, Opd.s 49), (0, Opd.s 51)], none⟩]
 [0, 1, 3, 7, 0, 16, 63]).seq
 ((MC.reg
 [⟨some 6, MOp.mv (Opd.c (AV.str [])), none⟩,
 ⟨some 7, MOp.mv (Opd.c (AV.bool false)), none⟩]).seq
 (((MC.reg
 [⟨some 53, MOp.fa 3 (Opd.s 3), none⟩,
 ⟨some 54, MOp.load none (Opd.s 53), none⟩,
 ⟨some 55, MOp.bin .eql (Opd.s 54)
 (Opd.c (AV.int .i64 1)), none⟩]).seq
 (MC.cond (Opd.s 55)
 (MC.draw
 [⟨some 57, MOp.mv (Opd.s 0), none⟩,
 ⟨some 58, MOp.nchk (Opd.s 57), none⟩,
 ⟨some 59, MOp.fa 4 (Opd.s 58), none⟩,
 ⟨some 60, MOp.fa 6 (Opd.s 3), none⟩,
 ⟨some 61, MOp.load none (Opd.s 60), none⟩,
 ⟨some 62, MOp.fa 8 (Opd.s 3), none⟩,
 ⟨some 63, MOp.load none (Opd.s 62), none⟩,
 ⟨some 64, MOp.call 29 [(0, Opd.s 59), (0, Opd.s 61), (0, Opd.s 63)], none⟩,
 ⟨some 56, MOp.mv (Opd.s 64), none⟩,
 ⟨some 65, MOp.ext 0 (Opd.s 56), none⟩,
 ⟨some 66, MOp.ext 1 (Opd.s 56), none⟩,
 ⟨some 6, MOp.mv (Opd.s 65), none⟩,
 ⟨some 7, MOp.mv (Opd.s 66), none⟩]
 [0, 1, 3, 0, 8, 0, 32, 127, 255, 511, 511, 1023, 4095])
 MC.skip)).seq
 ((MC.reg
 [⟨some 67, MOp.mv (Opd.s 0), none⟩,
 ⟨some 68, MOp.mv (Opd.s 0), none⟩,
 ⟨some 69, MOp.nchk (Opd.s 68), none⟩,
 ⟨some 70, MOp.fa 2 (Opd.s 69), none⟩,
 ⟨some 71, MOp.load none (Opd.s 70), none⟩,
 ⟨some 72, MOp.mv (Opd.s 71), none⟩,
 ⟨some 73, MOp.fa 7 (Opd.s 3), some (72, false)⟩,
 ⟨some 74, MOp.load none (Opd.s 73), some (72, false)⟩,
 ⟨some 75, MOp.pick (Opd.s 72) (Opd.c (AV.bool true)) (Opd.s 74), none⟩,
 ⟨some 76, MOp.nchk (Opd.s 67), none⟩,
 ⟨some 77, MOp.fa 2 (Opd.s 76), none⟩,
 ⟨none, MOp.store 1 (Opd.s 77) (Opd.s 75), none⟩]).seq
 ((MC.reg
 [⟨some 78, MOp.mv (Opd.s 6), none⟩,
 ⟨some 79, MOp.mv (Opd.s 7), none⟩,
 ⟨some 4, MOp.mv (Opd.s 78), none⟩,
 ⟨some 5, MOp.mv (Opd.s 79), none⟩]).seq
 MC.ret)))))) ⟩
def M56 : MFun :=
 ⟨17, [MRes.tmp 0 2], (MC.reg
 [⟨some 2, MOp.mv (Opd.c (AV.bool false)), none⟩]).seq
 (((MC.reg
 [⟨some 3, MOp.mv (Opd.s 0), none⟩,
 ⟨some 4, MOp.nchk (Opd.s 3), none⟩,
 ⟨some 5, MOp.fa 0 (Opd.s 4), none⟩,
 ⟨some 6, MOp.load none (Opd.s 5), none⟩,
 ⟨some 7, MOp.bin .neq (Opd.s 6) (Opd.c (AV.int .i64 1)), none⟩,
 ⟨some 8, MOp.mv (Opd.s 7), none⟩,
 ⟨some 9, MOp.mv (Opd.s 0), some (8, false)⟩,
 ⟨some 10, MOp.nchk (Opd.s 9), some (8, false)⟩,
 ⟨some 11, MOp.fa 2 (Opd.s 10), some (8, false)⟩,
 ⟨some 12, MOp.load none (Opd.s 11), some (8, false)⟩,
 ⟨some 13, MOp.pick (Opd.s 8) (Opd.c (AV.bool true)) (Opd.s 12), none⟩]).seq
 (MC.cond (Opd.s 13)
 ((MC.reg
 [⟨some 2, MOp.mv (Opd.c (AV.bool false)), none⟩]).seq
 MC.ret)
 MC.skip)).seq
 ((MC.reg
 [⟨some 14, MOp.mv (Opd.s 0), none⟩,
 ⟨some 15, MOp.nchk (Opd.s 14), none⟩,
 ⟨some 16, MOp.fa 2 (Opd.s 15), none⟩,
 ⟨none, MOp.store 1 (Opd.s 16) (Opd.c (AV.bool true)), none⟩]).seq
 ((MC.reg
 [⟨some 2, MOp.mv (Opd.c (AV.bool true)), none⟩]).seq
 MC.ret))) ⟩
def M58 : MFun :=
 ⟨19, [], (MC.reg
 [⟨some 2, MOp.mv (Opd.s 0), none⟩,
 ⟨some 3, MOp.nchk (Opd.s 2), none⟩,
 ⟨some 4, MOp.fa 0 (Opd.s 3), none⟩,
 ⟨some 5, MOp.load none (Opd.s 4), none⟩,
 ⟨some 6, MOp.bin .eql (Opd.s 5) (Opd.c (AV.int .i64 1)), none⟩]).seq
 (MC.cond (Opd.s 6)
 (MC.reg
 [⟨some 7, MOp.mv (Opd.s 0), none⟩,
 ⟨some 8, MOp.mv (Opd.s 0), none⟩,
 ⟨some 9, MOp.nchk (Opd.s 7), none⟩,
 ⟨some 10, MOp.fa 0 (Opd.s 9), none⟩,
 ⟨none, MOp.store 1 (Opd.s 10) (Opd.c (AV.int .i64 2)), none⟩,
 ⟨some 11, MOp.nchk (Opd.s 8), none⟩,
 ⟨some 12, MOp.fa 2 (Opd.s 11), none⟩,
 ⟨none, MOp.store 1 (Opd.s 12) (Opd.c (AV.bool false)), none⟩])
 (MC.reg
 [⟨some 13, MOp.mv (Opd.s 0), none⟩,
 ⟨some 14, MOp.mv (Opd.s 0), none⟩,
 ⟨some 15, MOp.nchk (Opd.s 13), none⟩,
 ⟨some 16, MOp.fa 0 (Opd.s 15), none⟩,
 ⟨none, MOp.store 1 (Opd.s 16) (Opd.c (AV.int .i64 1)), none⟩,
 ⟨some 17, MOp.nchk (Opd.s 14), none⟩,
 ⟨some 18, MOp.fa 2 (Opd.s 17), none⟩,
 ⟨none, MOp.store 1 (Opd.s 18) (Opd.c (AV.bool true)), none⟩])) ⟩
def M63 : MFun :=
 ⟨8, [MRes.tmp 0 2], (MC.reg [⟨some 2, MOp.mv (Opd.c AV.nilp), none⟩]).seq
 ((MC.reg
 [⟨some 3, MOp.mv (Opd.s 0), none⟩,
 ⟨some 4, MOp.mn [Opd.s 3, Opd.c (AV.int .i64 7)], none⟩,
 ⟨some 5, MOp.mx [Opd.c (AV.int .i64 1), Opd.s 4], none⟩,
 ⟨some 6, MOp.build
 [AV.int .i64 0, AV.int .i64 0, AV.nils,
 AV.int .i64 0]
 [(0, 1, Opd.s 5)], none⟩,
 ⟨some 7, MOp.box (Opd.s 6), none⟩,
 ⟨some 2, MOp.mv (Opd.s 7), none⟩]).seq
 MC.ret) ⟩
def M64 : MFun :=
 ⟨21, [MRes.tmp 0 4], (MC.reg
 [⟨some 4, MOp.mv (Opd.c (AV.int .i64 0)), none⟩]).seq
 (((MC.reg
 [⟨some 5, MOp.mv (Opd.s 0), none⟩,
 ⟨some 6, MOp.nchk (Opd.s 5), none⟩,
 ⟨some 7, MOp.fa 2 (Opd.s 6), none⟩,
 ⟨some 8, MOp.load none (Opd.s 7), none⟩,
 ⟨some 9, MOp.len (Opd.s 8), none⟩,
 ⟨some 10, MOp.bin .geq (Opd.s 9) (Opd.c (AV.int .i64 8)), none⟩]).seq
 (MC.cond (Opd.s 10)
 ((MC.reg
 [⟨some 4, MOp.mv (Opd.c (AV.int .i64 3)), none⟩]).seq
 MC.ret)
 MC.skip)).seq
 ((MC.reg
 [⟨some 11, MOp.mv (Opd.s 0), none⟩,
 ⟨some 12, MOp.mv (Opd.s 0), none⟩,
 ⟨some 13, MOp.nchk (Opd.s 12), none⟩,
 ⟨some 14, MOp.fa 2 (Opd.s 13), none⟩,
 ⟨some 15, MOp.load none (Opd.s 14), none⟩,
 ⟨some 16, MOp.mv (Opd.s 1), none⟩,
 ⟨some 17, MOp.bsl false 1 1 [AV.str []] [(0, 1, Opd.s 16)], none⟩,
 ⟨some 18, MOp.app false 1 16 (Opd.s 15) (Opd.s 17), none⟩,
 ⟨some 19, MOp.nchk (Opd.s 11), none⟩,
 ⟨some 20, MOp.fa 2 (Opd.s 19), none⟩,
 ⟨none, MOp.store 1 (Opd.s 20) (Opd.s 18), none⟩]).seq
 ((MC.reg
 [⟨some 4, MOp.mv (Opd.c (AV.int .i64 0)), none⟩]).seq
 MC.ret))) ⟩
def M65b0 : MC :=
 (((MC.reg
 [⟨some 7, MOp.mv (Opd.s 6), none⟩,
 ⟨some 8, MOp.mv (Opd.s 0), none⟩,
 ⟨some 9, MOp.nchk (Opd.s 8), none⟩,
 ⟨some 10, MOp.fa 2 (Opd.s 9), none⟩,
 ⟨some 11, MOp.load none (Opd.s 10), none⟩,
 ⟨some 12, MOp.len (Opd.s 11), none⟩,
 ⟨some 13, MOp.bin .lss (Opd.s 7) (Opd.s 12), none⟩,
 ⟨some 14, MOp.mv (Opd.s 13), none⟩,
 ⟨some 15, MOp.mv (Opd.s 6), some (14, true)⟩,
 ⟨some 16, MOp.mv (Opd.s 0), some (14, true)⟩,
 ⟨some 17, MOp.nchk (Opd.s 16), some (14, true)⟩,
 ⟨some 18, MOp.fa 0 (Opd.s 17), some (14, true)⟩,
 ⟨some 19, MOp.load none (Opd.s 18), some (14, true)⟩,
 ⟨some 20, MOp.bin .lss (Opd.s 15) (Opd.s 19), some (14, true)⟩,
 ⟨some 21, MOp.pick (Opd.s 14) (Opd.s 20)
 (Opd.c (AV.bool false)), none⟩]).seq
 (MC.cond (Opd.s 21) MC.skip (MC.exit 0))).seq
 ((MC.block 1
 (MC.draw
 [⟨some 24, MOp.mv (Opd.s 4), none⟩,
 ⟨some 25, MOp.mv (Opd.s 0), none⟩,
 ⟨some 26, MOp.nchk (Opd.s 25), none⟩,
 ⟨some 27, MOp.fa 1 (Opd.s 26), none⟩,
 ⟨some 28, MOp.load none (Opd.s 27), none⟩,
 ⟨some 29, MOp.mv (Opd.s 6), none⟩,
 ⟨some 30, MOp.bin .add (Opd.s 28) (Opd.s 29), none⟩,
 ⟨some 31, MOp.call 23 [(0, Opd.s 30)], none⟩,
 ⟨some 32, MOp.bsi 1 1 [AV.int .i64 0] [(0, 1, Opd.s 31)], none⟩,
 ⟨some 33, MOp.app false 1 8 (Opd.s 24) (Opd.s 32), none⟩,
 ⟨some 34, MOp.mv (Opd.s 5), none⟩,
 ⟨some 35, MOp.mv (Opd.s 0), none⟩,
 ⟨some 36, MOp.nchk (Opd.s 35), none⟩,
 ⟨some 37, MOp.fa 2 (Opd.s 36), none⟩,
 ⟨some 38, MOp.load none (Opd.s 37), none⟩,
 ⟨some 39, MOp.mv (Opd.s 6), none⟩,
 ⟨some 40, MOp.ixa 1 (Opd.s 38) (Opd.s 39), none⟩,
 ⟨some 41, MOp.load none (Opd.s 40), none⟩,
 ⟨some 42, MOp.bsi 1 1 [AV.str []] [(0, 1, Opd.s 41)], none⟩,
 ⟨some 43, MOp.app false 1 16 (Opd.s 34) (Opd.s 42), none⟩,
 ⟨some 4, MOp.mv (Opd.s 33), none⟩,
 ⟨some 5, MOp.mv (Opd.s 43), none⟩]
 [0, 0, 2, 6, 14, 0, 62, 126, 254, 511, 0, 0, 2048, 6144, 14336, 0, 63488, 129024, 260096,
 524287, 1048575, 2097151])).seq
 (MC.reg
 [⟨some 22, MOp.mv (Opd.s 6), none⟩,
 ⟨some 23, MOp.bin .add (Opd.s 22)
 (Opd.c (AV.int .i64 1)), none⟩,
 ⟨some 6, MOp.mv (Opd.s 23), none⟩])))
def M65b0l : List Bool := [true, false, false, false, true, true, true, false, false, false, false, false, false, false, false, false, false, false, false, false, false, false, false, false, false, false, false, false, false, false, false, false, false, false, false, false, false, false, false, false, false, false, false, false, false, false, false, false, false, false, false, false, false, false, false, false]
def M65r0 : MC :=
 ((MC.reg
 [⟨some 44, MOp.mv (Opd.s 0), none⟩,
 ⟨some 45, MOp.mv (Opd.s 0), none⟩,
 ⟨some 46, MOp.nchk (Opd.s 45), none⟩,
 ⟨some 47, MOp.fa 3 (Opd.s 46), none⟩,
 ⟨some 48, MOp.load none (Opd.s 47), none⟩,
 ⟨some 49, MOp.mv (Opd.s 4), none⟩,
 ⟨some 50, MOp.len (Opd.s 49), none⟩,
 ⟨some 51, MOp.mx [Opd.s 48, Opd.s 50], none⟩,
 ⟨some 52, MOp.nchk (Opd.s 44), none⟩,
 ⟨some 53, MOp.fa 3 (Opd.s 52), none⟩,
 ⟨none, MOp.store 1 (Opd.s 53) (Opd.s 51), none⟩]).seq
 ((MC.reg
 [⟨some 54, MOp.mv (Opd.s 4), none⟩,
 ⟨some 55, MOp.mv (Opd.s 5), none⟩,
 ⟨some 2, MOp.mv (Opd.s 54), none⟩,
 ⟨some 3, MOp.mv (Opd.s 55), none⟩]).seq
 MC.ret))
def M65 : MFun :=
 ⟨56, [MRes.tmp 1 2, MRes.tmp 1 3], (MC.reg
 [⟨some 2, MOp.mv (Opd.c AV.nils), none⟩,
 ⟨some 3, MOp.mv (Opd.c AV.nils), none⟩]).seq
 ((MC.reg [⟨some 4, MOp.mv (Opd.c AV.nils), none⟩]).seq
 ((MC.reg [⟨some 5, MOp.mv (Opd.c AV.nils), none⟩]).seq
 (((MC.reg
 [⟨some 6, MOp.mv (Opd.c (AV.int .i64 0)), none⟩]).seq
 (MC.block 0
 (MC.loop M65b0l M65b0))).seq
 M65r0))) ⟩
def M66b0 : MC :=
 (((MC.reg
 [⟨some 7, MOp.mv (Opd.s 6), none⟩,
 ⟨some 8, MOp.mv (Opd.s 0), none⟩,
 ⟨some 9, MOp.nchk (Opd.s 8), none⟩,
 ⟨some 10, MOp.fa 3 (Opd.s 9), none⟩,
 ⟨some 11, MOp.load none (Opd.s 10), none⟩,
 ⟨some 12, MOp.bin .leq (Opd.s 7) (Opd.s 11), none⟩]).seq
 (MC.cond (Opd.s 12) MC.skip (MC.exit 0))).seq
 ((MC.block 1
 ((MC.reg
 [⟨some 15, MOp.mv (Opd.s 1), none⟩,
 ⟨some 16, MOp.bin .geq (Opd.s 15)
 (Opd.c (AV.int .i64 0)), none⟩,
 ⟨some 17, MOp.mv (Opd.s 16), none⟩,
 ⟨some 18, MOp.mv (Opd.s 1), some (17, true)⟩,
 ⟨some 19, MOp.bin .leq (Opd.s 18)
 (Opd.c (AV.int .i64 7)), some (17, true)⟩,
 ⟨some 20, MOp.pick (Opd.s 17) (Opd.s 19)
 (Opd.c (AV.bool false)), none⟩,
 ⟨some 21, MOp.mv (Opd.s 20), none⟩,
 ⟨some 22, MOp.mv (Opd.s 0), some (21, true)⟩,
 ⟨some 23, MOp.nchk (Opd.s 22), some (21, true)⟩,
 ⟨some 24, MOp.fa 1 (Opd.s 23), some (21, true)⟩,
 ⟨some 25, MOp.load none (Opd.s 24), some (21, true)⟩,
 ⟨some 26, MOp.mv (Opd.s 6), some (21, true)⟩,
 ⟨some 27, MOp.bin .add (Opd.s 25) (Opd.s 26), some (21, true)⟩,
 ⟨some 28, MOp.call 23 [(0, Opd.s 27)], some (21, true)⟩,
 ⟨some 29, MOp.mv (Opd.s 1), some (21, true)⟩,
 ⟨some 30, MOp.bin .eql (Opd.s 28) (Opd.s 29), some (21, true)⟩,
 ⟨some 31, MOp.pick (Opd.s 21) (Opd.s 30)
 (Opd.c (AV.bool false)), none⟩]).seq
 (MC.cond (Opd.s 31)
 ((MC.reg
 [⟨some 32, MOp.mv (Opd.s 0), none⟩,
 ⟨some 33, MOp.mv (Opd.s 0), none⟩,
 ⟨some 34, MOp.nchk (Opd.s 33), none⟩,
 ⟨some 35, MOp.fa 2 (Opd.s 34), none⟩,
 ⟨some 36, MOp.load none (Opd.s 35), none⟩,
 ⟨some 37, MOp.mv (Opd.s 6), none⟩,
 ⟨some 38, MOp.slc 1 (Opd.s 36) (some (Opd.s 37)) none, none⟩,
 ⟨some 39, MOp.app false 1 16 (Opd.c AV.nils) (Opd.s 38), none⟩,
 ⟨some 40, MOp.nchk (Opd.s 32), none⟩,
 ⟨some 41, MOp.fa 2 (Opd.s 40), none⟩,
 ⟨none, MOp.store 1 (Opd.s 41) (Opd.s 39), none⟩]).seq
 ((MC.reg
 [⟨some 42, MOp.mv (Opd.s 0), none⟩,
 ⟨some 43, MOp.mv (Opd.s 0), none⟩,
 ⟨some 44, MOp.mv (Opd.s 1), none⟩,
 ⟨some 45, MOp.mv (Opd.s 0), none⟩,
 ⟨some 46, MOp.nchk (Opd.s 45), none⟩,
 ⟨some 47, MOp.fa 3 (Opd.s 46), none⟩,
 ⟨some 48, MOp.load none (Opd.s 47), none⟩,
 ⟨some 49, MOp.mv (Opd.s 6), none⟩,
 ⟨some 50, MOp.bin .sub (Opd.s 48) (Opd.s 49), none⟩,
 ⟨some 51, MOp.nchk (Opd.s 42), none⟩,
 ⟨some 52, MOp.fa 1 (Opd.s 51), none⟩,
 ⟨none, MOp.store 1 (Opd.s 52) (Opd.s 44), none⟩,
 ⟨some 53, MOp.nchk (Opd.s 43), none⟩,
 ⟨some 54, MOp.fa 3 (Opd.s 53), none⟩,
 ⟨none, MOp.store 1 (Opd.s 54) (Opd.s 50), none⟩]).seq
 ((MC.reg
 [⟨some 55, MOp.mv (Opd.s 6), none⟩,
 ⟨some 4, MOp.mv (Opd.s 55), none⟩,
 ⟨some 5, MOp.mv (Opd.c (AV.bool true)), none⟩]).seq
 MC.ret)))
 MC.skip))).seq
 (MC.reg
 [⟨some 13, MOp.mv (Opd.s 6), none⟩,
 ⟨some 14, MOp.bin .add (Opd.s 13)
 (Opd.c (AV.int .i64 1)), none⟩,
 ⟨some 6, MOp.mv (Opd.s 14), none⟩])))
def M66b0l : List Bool := [true, true, false, false, false, false, true, false, false, false, false, false, false, false, false, false, false, false, false, false, false, false, false, false, false, false, false, false, false, false, false, false, false, false, false, false, false, false, false, false, false, false, false, false, false, false, false, false, false, false, false, false, false, false, false, false]
def M66r0 : MC :=
 ((MC.reg
 [⟨some 4, MOp.mv (Opd.c (AV.int .i64 0)), none⟩,
 ⟨some 5, MOp.mv (Opd.c (AV.bool false)), none⟩]).seq
 MC.ret)
def M66 : MFun :=
 ⟨56, [MRes.tmp 0 4, MRes.tmp 0 5], (MC.reg
 [⟨some 4, MOp.mv (Opd.c (AV.int .i64 0)), none⟩,
 ⟨some 5, MOp.mv (Opd.c (AV.bool false)), none⟩]).seq
 (((MC.reg
 [⟨some 6, MOp.mv (Opd.c (AV.int .i64 0)), none⟩]).seq
 (MC.block 0
 (MC.loop M66b0l M66b0))).seq
 M66r0) ⟩
theorem tab14 : tableOf Tryd.prog 14 = some M14 := by kernel_rfl
theorem tab48 : tableOf Tryd.prog 48 = some M48 := by kernel_rfl
theorem tab18 : tableOf Tryd.prog 18 = some M18 := by kernel_rfl
theorem tab29 : tableOf Tryd.prog 29 = some M29 := by kernel_rfl
theorem tab41 : tableOf Tryd.prog 41 = some M41 := by kernel_rfl
theorem tab50 : tableOf Tryd.prog 50 = some M50 := by kernel_rfl
theorem tab51 : tableOf Tryd.prog 51 = some M51 := by kernel_rfl
theorem tab52 : tableOf Tryd.prog 52 = some M52 := by kernel_rfl
theorem tab53 : tableOf Tryd.prog 53 = some M53 := by kernel_rfl
theorem tab54 : tableOf Tryd.prog 54 = some M54 := by kernel_rfl
theorem tab55 : tableOf Tryd.prog 55 = some M55 := by kernel_rfl
theorem tab56 : tableOf Tryd.prog 56 = some M56 := by kernel_rfl
theorem tab58 : tableOf Tryd.prog 58 = some M58 := by kernel_rfl
theorem tab63 : tableOf Tryd.prog 63 = some M63 := by kernel_rfl
theorem tab64 : tableOf Tryd.prog 64 = some M64 := by kernel_rfl
theorem tab65 : tableOf Tryd.prog 65 = some M65 := by kernel_rfl
theorem tab66 : tableOf Tryd.prog 66 = some M66 := by kernel_rfl
end Go.Proofs.YtochnineebgbgaaDoor
