/- Functions of the program in the evaluator's form, written out by a program. No conditions. -/
import Derived.Test.YtochnineebgbgaaDoorM12
set_option linter.unusedVariables false
namespace Go.Proofs.YtochnineebgbgaaDoor
open Go Go.Ab
def M14b0 : MC :=
 (((MC.reg
 [⟨some 101, MOp.mv (Opd.s 13), none⟩,
 ⟨some 102, MOp.bin .lss (Opd.s 101)
 (Opd.c (AV.int .i64 20)), none⟩]).seq
 (MC.cond (Opd.s 102) MC.skip (MC.exit 3))).seq
 ((MC.block 4
 ((MC.reg
 [⟨some 105, MOp.ixp 2 1 (Opd.s 8)
 (Opd.c (AV.int .i64 0)), none⟩,
 ⟨some 106, MOp.load none (Opd.s 105), none⟩,
 ⟨some 107, MOp.call 44 [(0, Opd.s 106)], none⟩]).seq
 ((MC.draw
 [⟨some 108, MOp.ixp 2 1 (Opd.s 10)
 (Opd.c (AV.int .i64 1)), none⟩,
 ⟨some 109, MOp.load none (Opd.s 108), none⟩,
 ⟨some 110, MOp.ixp 2 1 (Opd.s 8)
 (Opd.c (AV.int .i64 0)), none⟩,
 ⟨some 111, MOp.load none (Opd.s 110), none⟩,
 ⟨some 112, MOp.ixp 2 1 (Opd.s 8)
 (Opd.c (AV.int .i64 1)), none⟩,
 ⟨some 113, MOp.load none (Opd.s 112), none⟩,
 ⟨some 114, MOp.call 48
 [(0, Opd.s 111), (0, Opd.s 113),
 (0, Opd.c (AV.int .i64 0))], none⟩,
 ⟨some 115, MOp.bin .add (Opd.s 109) (Opd.s 114), none⟩,
 ⟨some 116, MOp.ixp 2 1 (Opd.s 10)
 (Opd.c (AV.int .i64 1)), none⟩,
 ⟨none, MOp.store 1 (Opd.s 116) (Opd.s 115), none⟩]
 [0, 1, 0, 4, 0, 16, 60, 127, 255, 511]).seq
 (MC.draw
 [⟨some 117, MOp.ixp 2 1 (Opd.s 10)
 (Opd.c (AV.int .i64 0)), none⟩,
 ⟨some 118, MOp.load none (Opd.s 117), none⟩,
 ⟨some 119, MOp.ixp 2 1 (Opd.s 8)
 (Opd.c (AV.int .i64 1)), none⟩,
 ⟨some 120, MOp.load none (Opd.s 119), none⟩,
 ⟨some 121, MOp.ixp 2 1 (Opd.s 8)
 (Opd.c (AV.int .i64 0)), none⟩,
 ⟨some 122, MOp.load none (Opd.s 121), none⟩,
 ⟨some 123, MOp.call 48
 [(0, Opd.s 120), (0, Opd.s 122),
 (0, Opd.c (AV.int .i64 0))], none⟩,
 ⟨some 124, MOp.bin .add (Opd.s 118) (Opd.s 123), none⟩,
 ⟨some 125, MOp.ixp 2 1 (Opd.s 10)
 (Opd.c (AV.int .i64 0)), none⟩,
 ⟨none, MOp.store 1 (Opd.s 125) (Opd.s 124), none⟩]
 [0, 1, 0, 4, 0, 16, 60, 127, 255, 511])))).seq
 (MC.reg
 [⟨some 103, MOp.mv (Opd.s 13), none⟩,
 ⟨some 104, MOp.bin .add (Opd.s 103)
 (Opd.c (AV.int .i64 1)), none⟩,
 ⟨some 13, MOp.mv (Opd.s 104), none⟩])))
def M14b0l : List Bool := [false, false, false, false, false, false, false, false, true, true, true, false, false, true, false, false, false, false, false, false, false, false, false, false, false, false, false, false, false, false, false, false, false, false, false, false, false, false, false, false, false, false, false, false, false, false, false, false, false, false, false, false, false, false, false, false, false, false, false, false, false, false, false, false, false, false, false, false, false, false, false, false, false, false, false, false, false, false, false, false, false, false, false, false, false, false, false, false, false, false, false, false, false, false, false, false, false, false, false, false, false, false, false, false, false, false, false, false, false, false, false, false, false, false, false, false, false, false, false, false, false, false, false, false, false, false, false, false, false, false, false, false, false, false, false, false, false, false, false, false, false, false, false, false, false, false, false, false, false, false]
def M14b1 : MC :=
 (((MC.reg
 [⟨some 32, MOp.mv (Opd.s 11), none⟩,
 ⟨some 33, MOp.mv (Opd.s 2), none⟩,
 ⟨some 34, MOp.len (Opd.s 33), none⟩,
 ⟨some 35, MOp.bin .lss (Opd.s 32) (Opd.s 34), none⟩,
 ⟨some 36, MOp.mv (Opd.s 35), none⟩,
 ⟨some 37, MOp.mv (Opd.s 11), some (36, true)⟩,
 ⟨some 38, MOp.bin .lss (Opd.s 37)
 (Opd.c (AV.int .i64 60)), some (36, true)⟩,
 ⟨some 39, MOp.pick (Opd.s 36) (Opd.s 38)
 (Opd.c (AV.bool false)), none⟩]).seq
 (MC.cond (Opd.s 39) MC.skip (MC.exit 0))).seq
 ((MC.block 1
 ((MC.reg
 [⟨some 42, MOp.mv (Opd.s 2), none⟩,
 ⟨some 43, MOp.mv (Opd.s 11), none⟩,
 ⟨some 44, MOp.ixa 4 (Opd.s 42) (Opd.s 43), none⟩,
 ⟨some 45, MOp.load (some 4) (Opd.s 44), none⟩,
 ⟨some 12, MOp.alloc
 [AV.int .i64 0,
 AV.int .i64 0,
 AV.int .i64 0, AV.str []], none⟩,
 ⟨none, MOp.store 4 (Opd.s 12) (Opd.s 45), none⟩]).seq
 ((MC.reg
 [⟨some 46, MOp.fa 0 (Opd.s 12), none⟩,
 ⟨some 47, MOp.load none (Opd.s 46), none⟩]).seq
 (MC.block 2
 ((MC.reg
 [⟨some 62, MOp.bin .eql (Opd.s 47)
 (Opd.c (AV.int .i64 0)), none⟩,
 ⟨some 61, MOp.mv (Opd.s 62), none⟩]).seq
 (MC.cond (Opd.s 61)
 ((MC.reg
 [⟨some 63, MOp.fa 1 (Opd.s 12), none⟩,
 ⟨some 64, MOp.load none (Opd.s 63), none⟩,
 ⟨some 65, MOp.bin .and (Opd.s 64)
 (Opd.c (AV.int .i64 1)), none⟩,
 ⟨some 66, MOp.ixp 2 1 (Opd.s 8) (Opd.s 65), none⟩,
 ⟨some 67, MOp.load none (Opd.s 66), none⟩,
 ⟨some 68, MOp.call 40
 [(0, Opd.s 67),
 (0,
 Opd.c
 (AV.str [(120 : UInt8)]))], none⟩,
 ⟨some 69, MOp.bin .eql (Opd.s 68)
 (Opd.c (AV.int .i64 0)), none⟩]).seq
 (MC.cond (Opd.s 69)
 (MC.reg
 [⟨some 70, MOp.fa 1 (Opd.s 12), none⟩,
 ⟨some 71, MOp.load none (Opd.s 70), none⟩,
 ⟨some 72, MOp.bin .and (Opd.s 71)
 (Opd.c (AV.int .i64 1)), none⟩,
 ⟨some 73, MOp.ixp 2 1 (Opd.s 9) (Opd.s 72), none⟩,
 ⟨some 74, MOp.load none (Opd.s 73), none⟩,
 ⟨some 75, MOp.bin .add (Opd.s 74)
 (Opd.c (AV.int .i64 1)), none⟩,
 ⟨some 76, MOp.ixp 2 1 (Opd.s 9) (Opd.s 72), none⟩,
 ⟨none, MOp.store 1 (Opd.s 76) (Opd.s 75), none⟩])
 MC.skip))
 ((MC.reg
 [⟨some 78, MOp.bin .eql (Opd.s 47)
 (Opd.c (AV.int .i64 1)), none⟩,
 ⟨some 77, MOp.mv (Opd.s 78), none⟩]).seq
 (MC.cond (Opd.s 77)
 (MC.draw
 [⟨some 79, MOp.fa 1 (Opd.s 12), none⟩,
 ⟨some 80, MOp.load none (Opd.s 79), none⟩,
 ⟨some 81, MOp.bin .and (Opd.s 80)
 (Opd.c (AV.int .i64 1)), none⟩,
 ⟨some 82, MOp.bin .sub
 (Opd.c (AV.int .i64 1))
 (Opd.s 81), none⟩,
 ⟨some 83, MOp.ixp 2 1 (Opd.s 10) (Opd.s 82), none⟩,
 ⟨some 84, MOp.load none (Opd.s 83), none⟩,
 ⟨some 85, MOp.fa 1 (Opd.s 12), none⟩,
 ⟨some 86, MOp.load none (Opd.s 85), none⟩,
 ⟨some 87, MOp.bin .and (Opd.s 86)
 (Opd.c (AV.int .i64 1)), none⟩,
 ⟨some 88, MOp.ixp 2 1 (Opd.s 8) (Opd.s 87), none⟩,
 ⟨some 89, MOp.load none (Opd.s 88), none⟩,
 ⟨some 90, MOp.fa 1 (Opd.s 12), none⟩,
 ⟨some 91, MOp.load none (Opd.s 90), none⟩,
 ⟨some 92, MOp.bin .and (Opd.s 91)
 (Opd.c (AV.int .i64 1)), none⟩,
 ⟨some 93, MOp.bin .sub
 (Opd.c (AV.int .i64 1))
 (Opd.s 92), none⟩,
 ⟨some 94, MOp.ixp 2 1 (Opd.s 8) (Opd.s 93), none⟩,
 ⟨some 95, MOp.load none (Opd.s 94), none⟩,
 ⟨some 96, MOp.fa 2 (Opd.s 12), none⟩,
 ⟨some 97, MOp.load none (Opd.s 96), none⟩,
 ⟨some 98, MOp.call 48
 [(0, Opd.s 89), (0, Opd.s 95), (0, Opd.s 97)], none⟩,
 ⟨some 99, MOp.bin .add (Opd.s 84) (Opd.s 98), none⟩,
 ⟨some 100, MOp.ixp 2 1 (Opd.s 10) (Opd.s 82), none⟩,
 ⟨none, MOp.store 1 (Opd.s 100) (Opd.s 99), none⟩]
 [0, 1, 3, 7, 15, 31, 0, 64, 192, 448, 960, 0, 2048, 6144, 14336, 30720,
 63488, 0, 131072, 524224, 1048575, 2097151, 4194303])
 ((MC.reg
 [⟨some 48, MOp.ixp 2 1 (Opd.s 8)
 (Opd.c (AV.int .i64 0)), none⟩,
 ⟨some 49, MOp.load none (Opd.s 48), none⟩,
 ⟨some 50, MOp.call 43 [(0, Opd.s 49)], none⟩,
 ⟨some 51, MOp.un .not (Opd.s 50), none⟩,
 ⟨some 52, MOp.mv (Opd.s 51), none⟩,
 ⟨some 53, MOp.ixp 2 1 (Opd.s 8)
 (Opd.c (AV.int .i64 1)), some (52, true)⟩,
 ⟨some 54, MOp.load none (Opd.s 53), some (52, true)⟩,
 ⟨some 55, MOp.call 43 [(0, Opd.s 54)], some (52, true)⟩,
 ⟨some 56, MOp.un .not (Opd.s 55), some (52, true)⟩,
 ⟨some 57, MOp.pick (Opd.s 52) (Opd.s 56)
 (Opd.c (AV.bool false)), none⟩]).seq
 (MC.cond (Opd.s 57)
 (MC.reg
 [⟨some 58, MOp.ixp 2 1 (Opd.s 8)
 (Opd.c (AV.int .i64 0)), none⟩,
 ⟨some 59, MOp.load none (Opd.s 58), none⟩,
 ⟨some 60, MOp.call 44 [(0, Opd.s 59)], none⟩])
 MC.skip)))))))))).seq
 (MC.reg
 [⟨some 40, MOp.mv (Opd.s 11), none⟩,
 ⟨some 41, MOp.bin .add (Opd.s 40)
 (Opd.c (AV.int .i64 1)), none⟩,
 ⟨some 11, MOp.mv (Opd.s 41), none⟩])))
def M14b1l : List Bool := [false, false, true, false, false, false, false, false, true, true, true, true, false, false, false, false, false, false, false, false, false, false, false, false, false, false, false, false, false, false, false, false, false, false, false, false, false, false, false, false, false, false, false, false, false, false, false, false, false, false, false, false, false, false, false, false, false, false, false, false, false, false, false, false, false, false, false, false, false, false, false, false, false, false, false, false, false, false, false, false, false, false, false, false, false, false, false, false, false, false, false, false, false, false, false, false, false, false, false, false, false, false, false, false, false, false, false, false, false, false, false, false, false, false, false, false, false, false, false, false, false, false, false, false, false, false, false, false, false, false, false, false, false, false, false, false, false, false, false, false, false, false, false, false, false, false, false, false, false, false]
def M14r0 : MC :=
 ((MC.reg
 [⟨some 126, MOp.ixp 2 1 (Opd.s 10)
 (Opd.c (AV.int .i64 1)), none⟩,
 ⟨some 127, MOp.load none (Opd.s 126), none⟩,
 ⟨some 128, MOp.ixp 2 1 (Opd.s 9)
 (Opd.c (AV.int .i64 0)), none⟩,
 ⟨some 129, MOp.load none (Opd.s 128), none⟩,
 ⟨some 130, MOp.bin .eql (Opd.s 127) (Opd.s 129), none⟩,
 ⟨some 131, MOp.mv (Opd.s 130), none⟩,
 ⟨some 132, MOp.ixp 2 1 (Opd.s 10)
 (Opd.c (AV.int .i64 0)), some (131, true)⟩,
 ⟨some 133, MOp.load none (Opd.s 132), some (131, true)⟩,
 ⟨some 134, MOp.ixp 2 1 (Opd.s 9)
 (Opd.c (AV.int .i64 1)), some (131, true)⟩,
 ⟨some 135, MOp.load none (Opd.s 134), some (131, true)⟩,
 ⟨some 136, MOp.bin .eql (Opd.s 133) (Opd.s 135), some (131, true)⟩,
 ⟨some 137, MOp.pick (Opd.s 131) (Opd.s 136)
 (Opd.c (AV.bool false)), none⟩,
 ⟨some 138, MOp.mv (Opd.s 137), none⟩,
 ⟨some 139, MOp.ixp 2 1 (Opd.s 8)
 (Opd.c (AV.int .i64 0)), some (138, true)⟩,
 ⟨some 140, MOp.load none (Opd.s 139), some (138, true)⟩,
 ⟨some 141, MOp.call 46 [(0, Opd.s 140)], some (138, true)⟩,
 ⟨some 142, MOp.bin .eql (Opd.s 141)
 (Opd.c (AV.int .i64 0)), some (138, true)⟩,
 ⟨some 143, MOp.pick (Opd.s 138) (Opd.s 142)
 (Opd.c (AV.bool false)), none⟩,
 ⟨some 144, MOp.mv (Opd.s 143), none⟩,
 ⟨some 145, MOp.ixp 2 1 (Opd.s 8)
 (Opd.c (AV.int .i64 1)), some (144, true)⟩,
 ⟨some 146, MOp.load none (Opd.s 145), some (144, true)⟩,
 ⟨some 147, MOp.call 46 [(0, Opd.s 146)], some (144, true)⟩,
 ⟨some 148, MOp.bin .eql (Opd.s 147)
 (Opd.c (AV.int .i64 0)), some (144, true)⟩,
 ⟨some 149, MOp.pick (Opd.s 144) (Opd.s 148)
 (Opd.c (AV.bool false)), none⟩,
 ⟨some 6, MOp.mv (Opd.s 149), none⟩]).seq
 MC.ret)
def M14r1 : MC :=
 (((MC.reg
 [⟨some 13, MOp.mv (Opd.c (AV.int .i64 0)), none⟩]).seq
 (MC.block 3
 (MC.loop M14b0l M14b0))).seq
 M14r0)
def M14 : MFun :=
 ⟨150, [MRes.tmp 0 6], (MC.reg
 [⟨some 3, MOp.box (Opd.s 0), none⟩,
 ⟨some 4, MOp.box (Opd.s 1), none⟩,
 ⟨some 6, MOp.mv (Opd.c (AV.bool false)), none⟩]).seq
 ((MC.reg
 [⟨some 14, MOp.call 21 [], none⟩,
 ⟨some 7, MOp.mv (Opd.s 14), none⟩]).seq
 (((MC.reg
 [⟨some 15, MOp.mv (Opd.s 7), none⟩,
 ⟨some 16, MOp.un .not (Opd.s 15), none⟩]).seq
 (MC.cond (Opd.s 16)
 ((MC.reg
 [⟨some 6, MOp.mv (Opd.c (AV.bool false)), none⟩]).seq
 MC.ret)
 MC.skip)).seq
 ((MC.reg
 [⟨some 17, MOp.fa 3 (Opd.s 3), none⟩,
 ⟨none, MOp.store 1 (Opd.s 17) (Opd.c (AV.int .i64 40)), none⟩,
 ⟨some 18, MOp.fa 3 (Opd.s 4), none⟩,
 ⟨none, MOp.store 1 (Opd.s 18) (Opd.c (AV.int .i64 40)), none⟩]).seq
 ((MC.draw
 [⟨some 19, MOp.load (some 5) (Opd.s 3), none⟩,
 ⟨some 20, MOp.call 39
 [(0, Opd.c (AV.int .i64 1)), (0, Opd.s 19)], none⟩,
 ⟨some 21, MOp.load (some 5) (Opd.s 4), none⟩,
 ⟨some 22, MOp.call 39
 [(0, Opd.c (AV.int .i64 2)), (0, Opd.s 21)], none⟩,
 ⟨some 23, MOp.build [AV.nilp, AV.nilp] [(0, 1, Opd.s 20), (1, 1, Opd.s 22)], none⟩,
 ⟨some 8, MOp.alloc [AV.nilp, AV.nilp], none⟩,
 ⟨none, MOp.store 2 (Opd.s 8) (Opd.s 23), none⟩]
 [0, 1, 0, 7, 15, 0, 63]).seq
 (((MC.reg
 [⟨some 24, MOp.ixp 2 1 (Opd.s 8) (Opd.c (AV.int .i64 0)), none⟩,
 ⟨some 25, MOp.load none (Opd.s 24), none⟩,
 ⟨some 26, MOp.eqv false EqK.ptr (Opd.s 25) (Opd.c AV.nilp), none⟩,
 ⟨some 27, MOp.mv (Opd.s 26), none⟩,
 ⟨some 28, MOp.ixp 2 1 (Opd.s 8) (Opd.c (AV.int .i64 1)), some (27, false)⟩,
 ⟨some 29, MOp.load none (Opd.s 28), some (27, false)⟩,
 ⟨some 30, MOp.eqv false EqK.ptr (Opd.s 29) (Opd.c AV.nilp), some (27, false)⟩,
 ⟨some 31, MOp.pick (Opd.s 27) (Opd.c (AV.bool true)) (Opd.s 30), none⟩]).seq
 (MC.cond (Opd.s 31)
 ((MC.reg
 [⟨some 6, MOp.mv (Opd.c (AV.bool false)), none⟩]).seq
 MC.ret)
 MC.skip)).seq
 ((MC.reg
 [⟨some 9, MOp.alloc
 [AV.int .i64 0, AV.int .i64 0], none⟩,
 ⟨some 10, MOp.alloc
 [AV.int .i64 0, AV.int .i64 0], none⟩]).seq
 (((MC.reg
 [⟨some 11, MOp.mv (Opd.c (AV.int .i64 0)), none⟩]).seq
 (MC.block 0
 (MC.loop M14b1l M14b1))).seq
 M14r1))))))) ⟩
def M48b0 : MC :=
 ((MC.reg
 [⟨some 16, MOp.bin .lss (Opd.s 15) (Opd.s 14), none⟩]).seq
 ((MC.cond (Opd.s 16) MC.skip (MC.exit 0)).seq
 ((MC.block 1
 ((MC.reg
 [⟨some 17, MOp.mv (Opd.s 15), none⟩,
 ⟨some 18, MOp.ixa 9 (Opd.s 13) (Opd.s 15), none⟩,
 ⟨some 19, MOp.load (some 9) (Opd.s 18), none⟩,
 ⟨some 9, MOp.alloc
 [AV.int .i64 0,
 AV.int .i64 0, AV.bool false,
 AV.int .i64 0,
 AV.int .i64 0,
 AV.int .i64 0,
 AV.int .i64 0, AV.bool false,
 AV.str []], none⟩,
 ⟨some 8, MOp.mv (Opd.s 17), none⟩,
 ⟨none, MOp.store 9 (Opd.s 9) (Opd.s 19), none⟩]).seq
 (((MC.reg
 [⟨some 20, MOp.mv (Opd.s 2), none⟩,
 ⟨some 21, MOp.mv (Opd.s 8), none⟩,
 ⟨some 22, MOp.bin .and (Opd.s 21)
 (Opd.c (AV.int .i64 7)), none⟩,
 ⟨some 23, MOp.bin .shr (Opd.s 20) (Opd.s 22), none⟩,
 ⟨some 24, MOp.bin .and (Opd.s 23)
 (Opd.c (AV.int .i64 1)), none⟩,
 ⟨some 25, MOp.bin .eql (Opd.s 24)
 (Opd.c (AV.int .i64 1)), none⟩]).seq
 (MC.cond (Opd.s 25) (MC.exit 1) MC.skip)).seq
 ((MC.reg
 [⟨some 27, MOp.mv (Opd.s 1), none⟩,
 ⟨some 28, MOp.load (some 9) (Opd.s 9), none⟩,
 ⟨some 29, MOp.call 49 [(0, Opd.s 27), (0, Opd.s 28)], none⟩,
 ⟨some 26, MOp.mv (Opd.s 29), none⟩,
 ⟨some 30, MOp.ext 0 (Opd.s 26), none⟩,
 ⟨some 31, MOp.ext 1 (Opd.s 26), none⟩,
 ⟨some 10, MOp.mv (Opd.s 30), none⟩,
 ⟨some 11, MOp.mv (Opd.s 31), none⟩]).seq
 ((MC.reg
 [⟨some 32, MOp.mv (Opd.s 11), none⟩]).seq
 (MC.cond (Opd.s 32)
 (MC.reg
 [⟨some 33, MOp.mv (Opd.s 7), none⟩,
 ⟨some 34, MOp.bin .add (Opd.s 33)
 (Opd.c (AV.int .i64 1)), none⟩,
 ⟨some 7, MOp.mv (Opd.s 34), none⟩])
 MC.skip)))))).seq
 (MC.reg
 [⟨some 35, MOp.bin .add (Opd.s 15)
 (Opd.c (AV.int .i64 1)), none⟩,
 ⟨some 15, MOp.mv (Opd.s 35), none⟩]))))
def M48b0l : List Bool := [false, true, true, false, false, false, false, true, false, false, false, false, false, true, true, true, false, false, false, false, false, false, false, false, false, false, false, false, false, false, false, false, false, false, false, false, false]
def M48r0 : MC :=
 ((MC.reg
 [⟨some 36, MOp.mv (Opd.s 7), none⟩,
 ⟨some 6, MOp.mv (Opd.s 36), none⟩]).seq
 MC.ret)
def M48 : MFun :=
 ⟨37, [MRes.tmp 0 6], (MC.reg
 [⟨some 6, MOp.mv (Opd.c (AV.int .i64 0)), none⟩]).seq
 ((MC.reg
 [⟨some 7, MOp.mv (Opd.c (AV.int .i64 0)), none⟩]).seq
 (((MC.reg
 [⟨some 12, MOp.mv (Opd.s 0), none⟩,
 ⟨some 13, MOp.call 42 [(0, Opd.s 12)], none⟩,
 ⟨some 14, MOp.len (Opd.s 13), none⟩,
 ⟨some 15, MOp.mv (Opd.c (AV.int .i64 0)), none⟩]).seq
 (MC.block 0
 (MC.loop M48b0l M48b0))).seq
 M48r0)) ⟩
theorem tab14 : tableOf Tryd.prog 14 = some M14 := by kernel_rfl
theorem tab48 : tableOf Tryd.prog 48 = some M48 := by kernel_rfl
end Go.Proofs.YtochnineebgbgaaDoor
