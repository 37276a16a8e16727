/- Functions of the program in the evaluator's form, written out by a program. No conditions. -/
import Derived.Test.YtochnineebgbgaaDoorM12
set_option linter.unusedVariables false
namespace Go.Proofs.YtochnineebgbgaaDoor
open Go Go.Ab
def M19b0 : MC :=
 ((MC.reg
 [⟨some 80, MOp.bin .lss (Opd.s 79)
 (Opd.s 78), none⟩]).seq
 ((MC.cond (Opd.s 80) MC.skip
 (MC.exit 6)).seq
 ((MC.block 7
 ((MC.reg
 [⟨some 81, MOp.ixa 9 (Opd.s 77)
 (Opd.s 79), none⟩,
 ⟨some 82, MOp.load (some 9)
 (Opd.s 81), none⟩,
 ⟨some 17, MOp.alloc
 [AV.int .i64 0,
 AV.int .i64 0,
 AV.bool false,
 AV.int .i64 0,
 AV.int .i64 0,
 AV.int .i64 0,
 AV.int .i64 0,
 AV.bool false,
 AV.str []], none⟩,
 ⟨none, MOp.store 9 (Opd.s 17)
 (Opd.s 82), none⟩]).seq
 ((MC.reg
 [⟨some 84, MOp.mv (Opd.s 6), none⟩,
 ⟨some 85, MOp.load (some 9)
 (Opd.s 17), none⟩,
 ⟨some 86, MOp.call 49
 [(0, Opd.s 84),
 (0, Opd.s 85)], none⟩,
 ⟨some 83, MOp.mv (Opd.s 86), none⟩,
 ⟨some 87, MOp.ext 0 (Opd.s 83), none⟩,
 ⟨some 88, MOp.ext 1 (Opd.s 83), none⟩,
 ⟨some 18, MOp.mv (Opd.s 87), none⟩,
 ⟨some 19, MOp.mv (Opd.s 88), none⟩]).seq
 ((MC.reg
 [⟨some 89, MOp.mv (Opd.s 19), none⟩]).seq
 (MC.cond (Opd.s 89)
 (((MC.reg
 [⟨some 90, MOp.mv (Opd.s 18), none⟩,
 ⟨some 91, MOp.ixp 2 1 (Opd.s 9)
 (Opd.c
 (AV.int .i64
 0)), none⟩,
 ⟨some 92, MOp.load none
 (Opd.s 91), none⟩,
 ⟨some 93, MOp.bin .add
 (Opd.s 92)
 (Opd.c
 (AV.int .i64
 10)), none⟩,
 ⟨some 94, MOp.call 34
 [(0, Opd.s 93)], none⟩,
 ⟨some 95, MOp.bin .neq
 (Opd.s 90)
 (Opd.s 94), none⟩]).seq
 (MC.cond (Opd.s 95)
 ((MC.reg
 [⟨some 4, MOp.mv
 (Opd.c
 (AV.bool
 false)), none⟩]).seq
 MC.ret)
 MC.skip)).seq
 (MC.reg
 [⟨some 96, MOp.ixp 2 1 (Opd.s 9)
 (Opd.c
 (AV.int .i64
 0)), none⟩,
 ⟨some 97, MOp.load none
 (Opd.s 96), none⟩,
 ⟨some 98, MOp.bin .add
 (Opd.s 97)
 (Opd.c
 (AV.int .i64
 1)), none⟩,
 ⟨some 99, MOp.ixp 2 1 (Opd.s 9)
 (Opd.c
 (AV.int .i64
 0)), none⟩,
 ⟨none, MOp.store 1 (Opd.s 99)
 (Opd.s 98), none⟩]))
 MC.skip))))).seq
 (MC.reg
 [⟨some 100, MOp.bin .add (Opd.s 79)
 (Opd.c
 (AV.int .i64 1)), none⟩,
 ⟨some 79, MOp.mv (Opd.s 100), none⟩]))))
def M19b0l : List Bool := [false, false, false, false, false, false, true, true, false, true, true, true, false, false, false, false, false, false, false, false, false, false, false, false, false, false, false, false, false, false, false, false, false, false, false, false, false, false, false, false, false, false, false, false, false, false, false, false, false, false, false, false, false, false, false, false, false, false, false, false, false, false, false, false, false, false, false, false, false, false, false, false, false, false, false, false, false, true, true, true, false, false, false, false, false, false, false, false, false, false, false, false, false, false, false, false, false, false, false, false, false, false, false, false, false, false, false, false, false, false, false, false, false, false, false, false, false, false, false, false, false, false, false, false, false, false, false, false, false, false, false, false, false, false, false, false, false, false, false, false, false, false, false, false, false, false, false, false, false, false, false, false, false, false, false, false, false, false, false]
def M19b1 : MC :=
 ((MC.reg
 [⟨some 56, MOp.bin .lss (Opd.s 55)
 (Opd.s 54), none⟩]).seq
 ((MC.cond (Opd.s 56) MC.skip
 (MC.exit 4)).seq
 ((MC.block 5
 ((MC.reg
 [⟨some 57, MOp.ixa 9 (Opd.s 53)
 (Opd.s 55), none⟩,
 ⟨some 58, MOp.load (some 9) (Opd.s 57), none⟩,
 ⟨some 13, MOp.alloc
 [AV.int .i64 0,
 AV.int .i64 0,
 AV.bool false,
 AV.int .i64 0,
 AV.int .i64 0,
 AV.int .i64 0,
 AV.int .i64 0,
 AV.bool false, AV.str []], none⟩,
 ⟨none, MOp.store 9 (Opd.s 13)
 (Opd.s 58), none⟩]).seq
 ((MC.reg
 [⟨some 60, MOp.mv (Opd.s 7), none⟩,
 ⟨some 61, MOp.load (some 9)
 (Opd.s 13), none⟩,
 ⟨some 62, MOp.call 49
 [(0, Opd.s 60), (0, Opd.s 61)], none⟩,
 ⟨some 59, MOp.mv (Opd.s 62), none⟩,
 ⟨some 63, MOp.ext 0 (Opd.s 59), none⟩,
 ⟨some 64, MOp.ext 1 (Opd.s 59), none⟩,
 ⟨some 14, MOp.mv (Opd.s 63), none⟩,
 ⟨some 15, MOp.mv (Opd.s 64), none⟩]).seq
 ((MC.reg
 [⟨some 65, MOp.mv (Opd.s 15), none⟩]).seq
 (MC.cond (Opd.s 65)
 (((MC.reg
 [⟨some 66, MOp.mv (Opd.s 14), none⟩,
 ⟨some 67, MOp.ixp 2 1 (Opd.s 9)
 (Opd.c
 (AV.int .i64
 1)), none⟩,
 ⟨some 68, MOp.load none
 (Opd.s 67), none⟩,
 ⟨some 69, MOp.call 34
 [(0, Opd.s 68)], none⟩,
 ⟨some 70, MOp.bin .neq
 (Opd.s 66) (Opd.s 69), none⟩]).seq
 (MC.cond (Opd.s 70)
 ((MC.reg
 [⟨some 4, MOp.mv
 (Opd.c
 (AV.bool false)), none⟩]).seq
 MC.ret)
 MC.skip)).seq
 (MC.reg
 [⟨some 71, MOp.ixp 2 1 (Opd.s 9)
 (Opd.c
 (AV.int .i64
 1)), none⟩,
 ⟨some 72, MOp.load none
 (Opd.s 71), none⟩,
 ⟨some 73, MOp.bin .add
 (Opd.s 72)
 (Opd.c
 (AV.int .i64
 1)), none⟩,
 ⟨some 74, MOp.ixp 2 1 (Opd.s 9)
 (Opd.c
 (AV.int .i64
 1)), none⟩,
 ⟨none, MOp.store 1 (Opd.s 74)
 (Opd.s 73), none⟩]))
 MC.skip))))).seq
 (MC.reg
 [⟨some 75, MOp.bin .add (Opd.s 55)
 (Opd.c
 (AV.int .i64 1)), none⟩,
 ⟨some 55, MOp.mv (Opd.s 75), none⟩]))))
def M19b1l : List Bool := [false, false, false, false, false, false, true, true, false, true, true, true, false, false, false, false, false, false, false, false, false, false, false, false, false, false, false, false, false, false, false, false, false, false, false, false, false, false, false, false, false, false, false, false, false, false, false, false, false, false, false, false, false, true, true, true, false, false, false, false, false, false, false, false, false, false, false, false, false, false, false, false, false, false, false, false, false, false, false, false, false, false, false, false, false, false, false, false, false, false, false, false, false, false, false, false, false, false, false, false, false, false, false, false, false, false, false, false, false, false, false, false, false, false, false, false, false, false, false, false, false, false, false, false, false, false, false, false, false, false, false, false, false, false, false, false, false, false, false, false, false, false, false, false, false, false, false, false, false, false, false, false, false, false, false, false, false, false, false]
def M19b2 : MC :=
 (((MC.reg
 [⟨some 48, MOp.mv (Opd.s 11), none⟩,
 ⟨some 49, MOp.bin .lss (Opd.s 48)
 (Opd.c (AV.int .i64 30)), none⟩]).seq
 (MC.cond (Opd.s 49) MC.skip (MC.exit 2))).seq
 ((MC.block 3
 (((MC.reg
 [⟨some 52, MOp.mv (Opd.s 6), none⟩,
 ⟨some 53, MOp.call 42 [(0, Opd.s 52)], none⟩,
 ⟨some 54, MOp.len (Opd.s 53), none⟩,
 ⟨some 55, MOp.mv
 (Opd.c (AV.int .i64 0)), none⟩]).seq
 (MC.block 4
 (MC.loop M19b1l M19b1))).seq
 (((MC.reg
 [⟨some 76, MOp.mv (Opd.s 7), none⟩,
 ⟨some 77, MOp.call 42 [(0, Opd.s 76)], none⟩,
 ⟨some 78, MOp.len (Opd.s 77), none⟩,
 ⟨some 79, MOp.mv
 (Opd.c (AV.int .i64 0)), none⟩]).seq
 (MC.block 6
 (MC.loop M19b0l M19b0))).seq
 (((MC.reg
 [⟨some 101, MOp.mv (Opd.s 11), none⟩,
 ⟨some 102, MOp.bin .rem (Opd.s 101)
 (Opd.c (AV.int .i64 3)), none⟩,
 ⟨some 103, MOp.bin .eql (Opd.s 102)
 (Opd.c (AV.int .i64 0)), none⟩,
 ⟨some 104, MOp.mv (Opd.s 103), none⟩,
 ⟨some 105, MOp.mv (Opd.s 6), some (104, true)⟩,
 ⟨some 106, MOp.call 59 [(0, Opd.s 105)], some (104, true)⟩,
 ⟨some 107, MOp.bin .eql (Opd.s 106)
 (Opd.c (AV.int .i64 1)), some (104, true)⟩,
 ⟨some 108, MOp.mv (Opd.s 107), some (104, true)⟩,
 ⟨some 109, MOp.mv (Opd.s 6), some (108, true)⟩,
 ⟨some 110, MOp.call 43 [(0, Opd.s 109)], some (108, true)⟩,
 ⟨some 111, MOp.pick (Opd.s 108) (Opd.s 110)
 (Opd.c (AV.bool false)), some (104, true)⟩,
 ⟨some 112, MOp.mv (Opd.s 111), some (104, true)⟩,
 ⟨some 113, MOp.mv (Opd.s 7), some (112, false)⟩,
 ⟨some 114, MOp.call 59 [(0, Opd.s 113)], some (112, false)⟩,
 ⟨some 115, MOp.bin .eql (Opd.s 114)
 (Opd.c (AV.int .i64 1)), some (112, false)⟩,
 ⟨some 116, MOp.mv (Opd.s 115), some (112, false)⟩,
 ⟨some 117, MOp.mv (Opd.s 7), some (116, true)⟩,
 ⟨some 118, MOp.call 43 [(0, Opd.s 117)], some (116, true)⟩,
 ⟨some 119, MOp.pick (Opd.s 116) (Opd.s 118)
 (Opd.c (AV.bool false)), some (112, false)⟩,
 ⟨some 120, MOp.pick (Opd.s 112)
 (Opd.c (AV.bool true)) (Opd.s 119), some (104, true)⟩,
 ⟨some 121, MOp.pick (Opd.s 104) (Opd.s 120)
 (Opd.c (AV.bool false)), none⟩]).seq
 (MC.cond (Opd.s 121)
 ((MC.reg
 [⟨some 122, MOp.mv (Opd.s 6), none⟩,
 ⟨some 123, MOp.call 57 [(0, Opd.s 122)], none⟩]).seq
 (MC.reg
 [⟨some 124, MOp.mv (Opd.s 7), none⟩,
 ⟨some 125, MOp.call 57 [(0, Opd.s 124)], none⟩]))
 MC.skip)).seq
 ((MC.reg
 [⟨some 126, MOp.mv (Opd.s 6), none⟩,
 ⟨some 127, MOp.call 59 [(0, Opd.s 126)], none⟩,
 ⟨some 128, MOp.mv (Opd.s 7), none⟩,
 ⟨some 129, MOp.call 59 [(0, Opd.s 128)], none⟩,
 ⟨some 130, MOp.bin .eql (Opd.s 127)
 (Opd.s 129), none⟩,
 ⟨some 131, MOp.mv (Opd.s 130), none⟩,
 ⟨some 132, MOp.mv (Opd.s 6), some (131, false)⟩,
 ⟨some 133, MOp.call 43 [(0, Opd.s 132)], some (131, false)⟩,
 ⟨some 134, MOp.mv (Opd.s 133), some (131, false)⟩,
 ⟨some 135, MOp.mv (Opd.s 7), some (134, true)⟩,
 ⟨some 136, MOp.call 43 [(0, Opd.s 135)], some (134, true)⟩,
 ⟨some 137, MOp.pick (Opd.s 134) (Opd.s 136)
 (Opd.c (AV.bool false)), some (131, false)⟩,
 ⟨some 138, MOp.pick (Opd.s 131)
 (Opd.c (AV.bool true)) (Opd.s 137), none⟩]).seq
 (MC.cond (Opd.s 138)
 ((MC.reg
 [⟨some 4, MOp.mv (Opd.c (AV.bool false)), none⟩]).seq
 MC.ret)
 MC.skip)))))).seq
 (MC.reg
 [⟨some 50, MOp.mv (Opd.s 11), none⟩,
 ⟨some 51, MOp.bin .add (Opd.s 50)
 (Opd.c (AV.int .i64 1)), none⟩,
 ⟨some 11, MOp.mv (Opd.s 51), none⟩])))
def M19b2l : List Bool := [false, false, false, false, false, false, true, true, false, true, true, true, false, false, false, false, false, false, false, false, false, false, false, false, false, false, false, false, false, false, false, false, false, false, false, false, false, false, false, false, false, false, false, false, false, false, false, false, false, false, false, false, false, false, false, false, false, false, false, false, false, false, false, false, false, false, false, false, false, false, false, false, false, false, false, false, false, false, false, false, false, false, false, false, false, false, false, false, false, false, false, false, false, false, false, false, false, false, false, false, false, false, false, false, false, false, false, false, false, false, false, false, false, false, false, false, false, false, false, false, false, false, false, false, false, false, false, false, false, false, false, false, false, false, false, false, false, false, false, false, false, false, false, false, false, false, false, false, false, false, false, false, false, false, false, false, false, false, false]
def M19b3 : MC :=
 (((MC.reg
 [⟨some 32, MOp.mv (Opd.s 8), none⟩,
 ⟨some 33, MOp.mv (Opd.s 1), none⟩,
 ⟨some 34, MOp.bin .lss (Opd.s 32) (Opd.s 33), none⟩]).seq
 (MC.cond (Opd.s 34) MC.skip (MC.exit 0))).seq
 ((MC.block 1
 ((MC.reg
 [⟨some 37, MOp.mv (Opd.s 6), none⟩,
 ⟨some 38, MOp.mv (Opd.s 8), none⟩,
 ⟨some 39, MOp.call 34 [(0, Opd.s 38)], none⟩,
 ⟨some 40, MOp.call 40 [(0, Opd.s 37), (0, Opd.s 39)], none⟩]).seq
 (MC.reg
 [⟨some 41, MOp.mv (Opd.s 7), none⟩,
 ⟨some 42, MOp.mv (Opd.s 8), none⟩,
 ⟨some 43, MOp.bin .add (Opd.s 42)
 (Opd.c (AV.int .i64 10)), none⟩,
 ⟨some 44, MOp.call 34 [(0, Opd.s 43)], none⟩,
 ⟨some 45, MOp.call 40 [(0, Opd.s 41), (0, Opd.s 44)], none⟩]))).seq
 (MC.reg
 [⟨some 35, MOp.mv (Opd.s 8), none⟩,
 ⟨some 36, MOp.bin .add (Opd.s 35)
 (Opd.c (AV.int .i64 1)), none⟩,
 ⟨some 8, MOp.mv (Opd.s 36), none⟩])))
def M19b3l : List Bool := [false, true, false, false, false, false, true, true, true, false, false, false, false, false, false, false, false, false, false, false, false, false, false, false, false, false, false, false, false, false, false, false, false, false, false, false, false, false, false, false, false, false, false, false, false, false, false, false, false, false, false, false, false, false, false, false, false, false, false, false, false, false, false, false, false, false, false, false, false, false, false, false, false, false, false, false, false, false, false, false, false, false, false, false, false, false, false, false, false, false, false, false, false, false, false, false, false, false, false, false, false, false, false, false, false, false, false, false, false, false, false, false, false, false, false, false, false, false, false, false, false, false, false, false, false, false, false, false, false, false, false, false, false, false, false, false, false, false, false, false, false, false, false, false, false, false, false, false, false, false, false, false, false, false, false, false, false, false, false]
def M19 : MFun :=
 ⟨159, [MRes.tmp 0 4], (MC.reg
 [⟨some 2, MOp.box (Opd.s 0), none⟩,
 ⟨some 4, MOp.mv (Opd.c (AV.bool false)), none⟩]).seq
 ((MC.reg
 [⟨some 20, MOp.call 21 [], none⟩,
 ⟨some 5, MOp.mv (Opd.s 20), none⟩]).seq
 (((MC.reg
 [⟨some 21, MOp.mv (Opd.s 5), none⟩,
 ⟨some 22, MOp.un .not (Opd.s 21), none⟩]).seq
 (MC.cond (Opd.s 22)
 ((MC.reg
 [⟨some 4, MOp.mv (Opd.c (AV.bool false)), none⟩]).seq
 MC.ret)
 MC.skip)).seq
 ((MC.reg
 [⟨some 23, MOp.fa 3 (Opd.s 2), none⟩,
 ⟨none, MOp.store 1 (Opd.s 23) (Opd.c (AV.int .i64 10)), none⟩]).seq
 ((MC.reg
 [⟨some 24, MOp.mv (Opd.s 1), none⟩,
 ⟨some 25, MOp.bin .rem (Opd.s 24)
 (Opd.c (AV.int .i64 8)), none⟩,
 ⟨some 26, MOp.bin .add (Opd.s 25)
 (Opd.c (AV.int .i64 8)), none⟩,
 ⟨some 27, MOp.bin .rem (Opd.s 26)
 (Opd.c (AV.int .i64 8)), none⟩,
 ⟨some 1, MOp.mv (Opd.s 27), none⟩]).seq
 ((MC.draw
 [⟨some 28, MOp.load (some 5) (Opd.s 2), none⟩,
 ⟨some 29, MOp.call 39
 [(0, Opd.c (AV.int .i64 1)), (0, Opd.s 28)], none⟩,
 ⟨some 30, MOp.load (some 5) (Opd.s 2), none⟩,
 ⟨some 31, MOp.call 39
 [(0, Opd.c (AV.int .i64 2)), (0, Opd.s 30)], none⟩,
 ⟨some 6, MOp.mv (Opd.s 29), none⟩,
 ⟨some 7, MOp.mv (Opd.s 31), none⟩]
 [0, 1, 0, 7, 15, 31]).seq
 (((MC.reg
 [⟨some 8, MOp.mv (Opd.c (AV.int .i64 0)), none⟩]).seq
 (MC.block 0
 (MC.loop M19b3l M19b3))).seq
 ((MC.reg
 [⟨some 46, MOp.build
 [AV.int .i64 0, AV.int .i64 0]
 [], none⟩,
 ⟨some 47, MOp.mv (Opd.s 1), none⟩,
 ⟨some 9, MOp.alloc
 [AV.int .i64 0,
 AV.int .i64 0], none⟩,
 ⟨none, MOp.store 2 (Opd.s 9) (Opd.s 46), none⟩,
 ⟨some 10, MOp.mv (Opd.s 47), none⟩]).seq
 (((MC.reg
 [⟨some 11, MOp.mv (Opd.c (AV.int .i64 0)), none⟩]).seq
 (MC.block 2
 (MC.loop M19b2l M19b2))).seq
 ((MC.reg
 [⟨some 139, MOp.ixp 2 1 (Opd.s 9)
 (Opd.c (AV.int .i64 0)), none⟩,
 ⟨some 140, MOp.load none (Opd.s 139), none⟩,
 ⟨some 141, MOp.mv (Opd.s 10), none⟩,
 ⟨some 142, MOp.bin .eql (Opd.s 140) (Opd.s 141), none⟩,
 ⟨some 143, MOp.mv (Opd.s 142), none⟩,
 ⟨some 144, MOp.ixp 2 1 (Opd.s 9)
 (Opd.c (AV.int .i64 1)), some (143, true)⟩,
 ⟨some 145, MOp.load none (Opd.s 144), some (143, true)⟩,
 ⟨some 146, MOp.mv (Opd.s 10), some (143, true)⟩,
 ⟨some 147, MOp.bin .eql (Opd.s 145) (Opd.s 146), some (143, true)⟩,
 ⟨some 148, MOp.pick (Opd.s 143) (Opd.s 147)
 (Opd.c (AV.bool false)), none⟩,
 ⟨some 149, MOp.mv (Opd.s 148), none⟩,
 ⟨some 150, MOp.mv (Opd.s 6), some (149, true)⟩,
 ⟨some 151, MOp.call 46 [(0, Opd.s 150)], some (149, true)⟩,
 ⟨some 152, MOp.bin .eql (Opd.s 151)
 (Opd.c (AV.int .i64 0)), some (149, true)⟩,
 ⟨some 153, MOp.pick (Opd.s 149) (Opd.s 152)
 (Opd.c (AV.bool false)), none⟩,
 ⟨some 154, MOp.mv (Opd.s 153), none⟩,
 ⟨some 155, MOp.mv (Opd.s 7), some (154, true)⟩,
 ⟨some 156, MOp.call 46 [(0, Opd.s 155)], some (154, true)⟩,
 ⟨some 157, MOp.bin .eql (Opd.s 156)
 (Opd.c (AV.int .i64 0)), some (154, true)⟩,
 ⟨some 158, MOp.pick (Opd.s 154) (Opd.s 157)
 (Opd.c (AV.bool false)), none⟩,
 ⟨some 4, MOp.mv (Opd.s 158), none⟩]).seq
 MC.ret))))))))) ⟩
theorem tab19 : tableOf Tryd.prog 19 = some M19 := by kernel_rfl
end Go.Proofs.YtochnineebgbgaaDoor
