/- Functions of the program in the evaluator's form, written out by a program. No conditions. -/
import Derived.Test.YtochnineebgbgaaDoorM12
set_option linter.unusedVariables false
namespace Go.Proofs.YtochnineebgbgaaDoor
open Go Go.Ab
def M7b0 : MC :=
 (((MC.reg
 [⟨some 24, MOp.mv (Opd.s 7), none⟩,
 ⟨some 25, MOp.mv (Opd.s 1), none⟩,
 ⟨some 26, MOp.bin .lss (Opd.s 24) (Opd.s 25), none⟩]).seq
 (MC.cond (Opd.s 26) MC.skip (MC.exit 0))).seq
 ((MC.block 1
 ((MC.reg
 [⟨some 29, MOp.mv (Opd.s 6), none⟩,
 ⟨some 30, MOp.call 33
 [(0, Opd.s 29),
 (0,
 Opd.c
 (AV.str [(120 : UInt8)]))], none⟩,
 ⟨some 31, MOp.bin .eql (Opd.s 30)
 (Opd.c (AV.int .i64 0)), none⟩,
 ⟨some 32, MOp.mv (Opd.s 7), none⟩,
 ⟨some 33, MOp.bin .lss (Opd.s 32)
 (Opd.c (AV.int .i64 8)), none⟩,
 ⟨some 34, MOp.eqv true (EqK.flat (EqF.one SK.b))
 (Opd.s 31) (Opd.s 33), none⟩]).seq
 (MC.cond (Opd.s 34)
 ((MC.reg
 [⟨some 4, MOp.mv (Opd.c (AV.bool false)), none⟩]).seq
 MC.ret)
 MC.skip))).seq
 (MC.reg
 [⟨some 27, MOp.mv (Opd.s 7), none⟩,
 ⟨some 28, MOp.bin .add (Opd.s 27)
 (Opd.c (AV.int .i64 1)), none⟩,
 ⟨some 7, MOp.mv (Opd.s 28), none⟩])))
def M7b0l : List Bool := [false, true, false, false, false, false, true, true, false, false, false, false, false, false, false, false, false, false, false, false, false, false, false, false, false, false, false, false, false, false, false, false, false, false, false, false, false, false, false, false, false, false, false, false, false, false, false, false, false, false, false, false, false, false, false, false, false, false, false, false]
def M7 : MFun :=
 ⟨60, [MRes.tmp 0 4], (MC.reg
 [⟨some 4, MOp.mv (Opd.c (AV.bool false)), none⟩]).seq
 ((MC.reg
 [⟨some 10, MOp.call 21 [], none⟩,
 ⟨some 5, MOp.mv (Opd.s 10), none⟩]).seq
 (((MC.reg
 [⟨some 11, MOp.mv (Opd.s 5), none⟩,
 ⟨some 12, MOp.un .not (Opd.s 11), none⟩]).seq
 (MC.cond (Opd.s 12)
 ((MC.reg
 [⟨some 4, MOp.mv (Opd.c (AV.bool false)), none⟩]).seq
 MC.ret)
 MC.skip)).seq
 ((MC.reg
 [⟨some 13, MOp.mv (Opd.s 0), none⟩,
 ⟨some 14, MOp.bin .rem (Opd.s 13)
 (Opd.c (AV.int .i64 7)), none⟩,
 ⟨some 15, MOp.bin .add (Opd.s 14)
 (Opd.c (AV.int .i64 7)), none⟩,
 ⟨some 16, MOp.bin .rem (Opd.s 15)
 (Opd.c (AV.int .i64 7)), none⟩,
 ⟨some 17, MOp.bin .add (Opd.c (AV.int .i64 1))
 (Opd.s 16), none⟩,
 ⟨some 18, MOp.mv (Opd.s 1), none⟩,
 ⟨some 19, MOp.bin .rem (Opd.s 18)
 (Opd.c (AV.int .i64 14)), none⟩,
 ⟨some 20, MOp.bin .add (Opd.s 19)
 (Opd.c (AV.int .i64 14)), none⟩,
 ⟨some 21, MOp.bin .rem (Opd.s 20)
 (Opd.c (AV.int .i64 14)), none⟩,
 ⟨some 0, MOp.mv (Opd.s 17), none⟩,
 ⟨some 1, MOp.mv (Opd.s 21), none⟩]).seq
 ((MC.reg
 [⟨some 22, MOp.mv (Opd.s 0), none⟩,
 ⟨some 23, MOp.call 32 [(0, Opd.s 22)], none⟩,
 ⟨some 6, MOp.mv (Opd.s 23), none⟩]).seq
 (((MC.reg
 [⟨some 7, MOp.mv (Opd.c (AV.int .i64 0)), none⟩]).seq
 (MC.block 0
 (MC.loop M7b0l M7b0))).seq
 (((MC.reg
 [⟨some 35, MOp.mv (Opd.s 1), none⟩,
 ⟨some 36, MOp.bin .eql (Opd.s 35)
 (Opd.c (AV.int .i64 0)), none⟩]).seq
 (MC.cond (Opd.s 36)
 ((MC.reg
 [⟨some 37, MOp.mv (Opd.s 6), none⟩,
 ⟨some 38, MOp.call 37 [(0, Opd.s 37)], none⟩,
 ⟨some 39, MOp.bin .eql (Opd.s 38)
 (Opd.c (AV.int .i64 0)), none⟩,
 ⟨some 4, MOp.mv (Opd.s 39), none⟩]).seq
 MC.ret)
 MC.skip)).seq
 ((MC.reg
 [⟨some 40, MOp.mv (Opd.s 6), none⟩,
 ⟨some 41, MOp.call 35 [(0, Opd.s 40)], none⟩]).seq
 (((MC.reg
 [⟨some 43, MOp.mv (Opd.s 6), none⟩,
 ⟨some 44, MOp.call 36
 [(0, Opd.s 43),
 (0, Opd.c (AV.int .i64 1))], none⟩,
 ⟨some 42, MOp.mv (Opd.s 44), none⟩,
 ⟨some 45, MOp.ext 0 (Opd.s 42), none⟩,
 ⟨some 46, MOp.ext 1 (Opd.s 42), none⟩,
 ⟨some 8, MOp.mv (Opd.s 45), none⟩,
 ⟨some 9, MOp.mv (Opd.s 46), none⟩]).seq
 ((MC.reg
 [⟨some 47, MOp.mv (Opd.s 9), none⟩,
 ⟨some 48, MOp.un .not (Opd.s 47), none⟩]).seq
 (MC.cond (Opd.s 48)
 ((MC.reg
 [⟨some 4, MOp.mv (Opd.c (AV.bool false)), none⟩]).seq
 MC.ret)
 MC.skip))).seq
 ((MC.reg
 [⟨some 49, MOp.mv (Opd.s 6), none⟩,
 ⟨some 50, MOp.call 37 [(0, Opd.s 49)], none⟩,
 ⟨some 51, MOp.mv (Opd.s 1), none⟩,
 ⟨some 52, MOp.mn
 [Opd.s 51, Opd.c (AV.int .i64 8)], none⟩,
 ⟨some 53, MOp.bin .sub (Opd.s 52)
 (Opd.c (AV.int .i64 1)), none⟩,
 ⟨some 54, MOp.bin .eql (Opd.s 50) (Opd.s 53), none⟩,
 ⟨some 55, MOp.mv (Opd.s 54), none⟩,
 ⟨some 56, MOp.mv (Opd.s 6), some (55, true)⟩,
 ⟨some 57, MOp.call 33
 [(0, Opd.s 56),
 (0, Opd.c (AV.str [(121 : UInt8)]))], some (55, true)⟩,
 ⟨some 58, MOp.bin .eql (Opd.s 57)
 (Opd.c (AV.int .i64 0)), some (55, true)⟩,
 ⟨some 59, MOp.pick (Opd.s 55) (Opd.s 58)
 (Opd.c (AV.bool false)), none⟩,
 ⟨some 4, MOp.mv (Opd.s 59), none⟩]).seq
 MC.ret))))))))) ⟩
def M13b0 : MC :=
 ((MC.reg
 [⟨some 82, MOp.bin .lss (Opd.s 81) (Opd.s 80), none⟩]).seq
 ((MC.cond (Opd.s 82) MC.skip (MC.exit 4)).seq
 ((MC.block 5
 ((MC.reg
 [⟨some 83, MOp.mv (Opd.s 81), none⟩,
 ⟨some 15, MOp.mv (Opd.s 83), none⟩]).seq
 ((MC.draw
 [⟨some 84, MOp.mv (Opd.s 10), none⟩,
 ⟨some 85, MOp.mv (Opd.s 15), none⟩,
 ⟨some 86, MOp.ixa 1 (Opd.s 84) (Opd.s 85), none⟩,
 ⟨some 87, MOp.load none (Opd.s 86), none⟩,
 ⟨some 88, MOp.mv (Opd.s 13), none⟩,
 ⟨some 89, MOp.mv (Opd.s 15), none⟩,
 ⟨some 90, MOp.ixa 1 (Opd.s 88) (Opd.s 89), none⟩,
 ⟨some 91, MOp.load none (Opd.s 90), none⟩,
 ⟨some 92, MOp.bin .neq (Opd.s 87)
 (Opd.s 91), none⟩,
 ⟨some 93, MOp.mv (Opd.s 92), none⟩,
 ⟨some 94, MOp.mv (Opd.s 11), some (93, false)⟩,
 ⟨some 95, MOp.mv (Opd.s 15), some (93, false)⟩,
 ⟨some 96, MOp.ixa 1 (Opd.s 94) (Opd.s 95), some (93, false)⟩,
 ⟨some 97, MOp.load none (Opd.s 96), some (93, false)⟩,
 ⟨some 98, MOp.mv (Opd.s 14), some (93, false)⟩,
 ⟨some 99, MOp.mv (Opd.s 15), some (93, false)⟩,
 ⟨some 100, MOp.ixa 1 (Opd.s 98) (Opd.s 99), some (93, false)⟩,
 ⟨some 101, MOp.load none (Opd.s 100), some (93, false)⟩,
 ⟨some 102, MOp.bin .neq (Opd.s 97)
 (Opd.s 101), some (93, false)⟩,
 ⟨some 103, MOp.pick (Opd.s 93)
 (Opd.c (AV.bool true)) (Opd.s 102), none⟩]
 [0, 0, 3, 7, 0, 0, 48, 112, 255, 511, 1023, 1023, 4095, 8191,
 1023, 1023, 50175, 115711, 262143, 524287]).seq
 (MC.cond (Opd.s 103)
 ((MC.reg
 [⟨some 6, MOp.mv (Opd.c (AV.bool false)), none⟩]).seq
 MC.ret)
 MC.skip)))).seq
 (MC.reg
 [⟨some 104, MOp.bin .add (Opd.s 81)
 (Opd.c (AV.int .i64 1)), none⟩,
 ⟨some 81, MOp.mv (Opd.s 104), none⟩]))))
def M13b0l : List Bool := [true, false, false, false, false, false, false, false, true, false, true, true, false, true, true, false, false, false, false, false, false, false, false, false, false, false, false, false, false, false, false, false, false, false, false, false, false, false, false, false, false, false, false, false, false, false, false, false, false, false, false, false, false, false, false, false, false, false, false, false, false, false, false, false, false, false, false, false, false, false, false, false, false, false, false, false, false, false, false, false, true, true, false, false, false, false, false, false, false, false, false, false, false, false, false, false, false, false, false, false, false, false, false, false, false, false, false, false, false, false, false, false, false, false]
def M13b1 : MC :=
 (((MC.reg
 [⟨some 48, MOp.mv (Opd.s 12), none⟩,
 ⟨some 49, MOp.mv (Opd.s 2), none⟩,
 ⟨some 50, MOp.bin .lss (Opd.s 48) (Opd.s 49), none⟩]).seq
 (MC.cond (Opd.s 50) MC.skip (MC.exit 2))).seq
 ((MC.block 3
 (MC.reg
 [⟨some 53, MOp.mv (Opd.s 8), none⟩,
 ⟨some 54, MOp.mv (Opd.s 1), none⟩,
 ⟨some 55, MOp.mv (Opd.s 12), none⟩,
 ⟨some 56, MOp.bin .add (Opd.s 54) (Opd.s 55), none⟩,
 ⟨some 57, MOp.call 34 [(0, Opd.s 56)], none⟩,
 ⟨some 58, MOp.call 33 [(0, Opd.s 53), (0, Opd.s 57)], none⟩])).seq
 (MC.reg
 [⟨some 51, MOp.mv (Opd.s 12), none⟩,
 ⟨some 52, MOp.bin .add (Opd.s 51)
 (Opd.c (AV.int .i64 1)), none⟩,
 ⟨some 12, MOp.mv (Opd.s 52), none⟩])))
def M13b1l : List Bool := [true, true, true, false, false, false, false, false, true, false, true, true, true, false, false, false, false, false, false, false, false, false, false, false, false, false, false, false, false, false, false, false, false, false, false, false, false, false, false, false, false, false, false, false, false, false, false, false, false, false, false, false, false, false, false, false, false, false, false, false, false, false, false, false, false, false, false, false, false, false, false, false, false, false, false, false, false, false, false, false, false, false, false, false, false, false, false, false, false, false, false, false, false, false, false, false, false, false, false, false, false, false, false, false, false, false, false, false, false, false, false, false, false, false]
def M13b2 : MC :=
 (((MC.reg
 [⟨some 34, MOp.mv (Opd.s 9), none⟩,
 ⟨some 35, MOp.mv (Opd.s 1), none⟩,
 ⟨some 36, MOp.bin .lss (Opd.s 34) (Opd.s 35), none⟩]).seq
 (MC.cond (Opd.s 36) MC.skip (MC.exit 0))).seq
 ((MC.block 1
 (MC.reg
 [⟨some 39, MOp.mv (Opd.s 8), none⟩,
 ⟨some 40, MOp.mv (Opd.s 9), none⟩,
 ⟨some 41, MOp.call 34 [(0, Opd.s 40)], none⟩,
 ⟨some 42, MOp.call 33 [(0, Opd.s 39), (0, Opd.s 41)], none⟩])).seq
 (MC.reg
 [⟨some 37, MOp.mv (Opd.s 9), none⟩,
 ⟨some 38, MOp.bin .add (Opd.s 37)
 (Opd.c (AV.int .i64 1)), none⟩,
 ⟨some 9, MOp.mv (Opd.s 38), none⟩])))
def M13b2l : List Bool := [true, true, true, false, false, false, false, false, true, true, false, false, false, false, false, false, false, false, false, false, false, false, false, false, false, false, false, false, false, false, false, false, false, false, false, false, false, false, false, false, false, false, false, false, false, false, false, false, false, false, false, false, false, false, false, false, false, false, false, false, false, false, false, false, false, false, false, false, false, false, false, false, false, false, false, false, false, false, false, false, false, false, false, false, false, false, false, false, false, false, false, false, false, false, false, false, false, false, false, false, false, false, false, false, false, false, false, false, false, false, false, false, false, false]
def M13 : MFun :=
 ⟨114, [MRes.tmp 0 6], (MC.reg
 [⟨some 6, MOp.mv (Opd.c (AV.bool false)), none⟩]).seq
 ((MC.reg
 [⟨some 16, MOp.call 21 [], none⟩,
 ⟨some 7, MOp.mv (Opd.s 16), none⟩]).seq
 (((MC.reg
 [⟨some 17, MOp.mv (Opd.s 7), none⟩,
 ⟨some 18, MOp.un .not (Opd.s 17), none⟩]).seq
 (MC.cond (Opd.s 18)
 ((MC.reg
 [⟨some 6, MOp.mv (Opd.c (AV.bool false)), none⟩]).seq
 MC.ret)
 MC.skip)).seq
 ((MC.reg
 [⟨some 19, MOp.mv (Opd.s 0), none⟩,
 ⟨some 20, MOp.bin .rem (Opd.s 19)
 (Opd.c (AV.int .i64 7)), none⟩,
 ⟨some 21, MOp.bin .add (Opd.s 20)
 (Opd.c (AV.int .i64 7)), none⟩,
 ⟨some 22, MOp.bin .rem (Opd.s 21)
 (Opd.c (AV.int .i64 7)), none⟩,
 ⟨some 23, MOp.bin .add (Opd.c (AV.int .i64 1))
 (Opd.s 22), none⟩,
 ⟨some 24, MOp.mv (Opd.s 1), none⟩,
 ⟨some 25, MOp.bin .rem (Opd.s 24)
 (Opd.c (AV.int .i64 6)), none⟩,
 ⟨some 26, MOp.bin .add (Opd.s 25)
 (Opd.c (AV.int .i64 6)), none⟩,
 ⟨some 27, MOp.bin .rem (Opd.s 26)
 (Opd.c (AV.int .i64 6)), none⟩,
 ⟨some 28, MOp.mv (Opd.s 2), none⟩,
 ⟨some 29, MOp.bin .rem (Opd.s 28)
 (Opd.c (AV.int .i64 3)), none⟩,
 ⟨some 30, MOp.bin .add (Opd.s 29)
 (Opd.c (AV.int .i64 3)), none⟩,
 ⟨some 31, MOp.bin .rem (Opd.s 30)
 (Opd.c (AV.int .i64 3)), none⟩,
 ⟨some 0, MOp.mv (Opd.s 23), none⟩,
 ⟨some 1, MOp.mv (Opd.s 27), none⟩,
 ⟨some 2, MOp.mv (Opd.s 31), none⟩]).seq
 ((MC.reg
 [⟨some 32, MOp.mv (Opd.s 0), none⟩,
 ⟨some 33, MOp.call 32 [(0, Opd.s 32)], none⟩,
 ⟨some 8, MOp.mv (Opd.s 33), none⟩]).seq
 (((MC.reg
 [⟨some 9, MOp.mv (Opd.c (AV.int .i64 0)), none⟩]).seq
 (MC.block 0
 (MC.loop M13b2l M13b2))).seq
 ((MC.reg
 [⟨some 44, MOp.mv (Opd.s 8), none⟩,
 ⟨some 45, MOp.call 35 [(0, Opd.s 44)], none⟩,
 ⟨some 43, MOp.mv (Opd.s 45), none⟩,
 ⟨some 46, MOp.ext 0 (Opd.s 43), none⟩,
 ⟨some 47, MOp.ext 1 (Opd.s 43), none⟩,
 ⟨some 10, MOp.mv (Opd.s 46), none⟩,
 ⟨some 11, MOp.mv (Opd.s 47), none⟩]).seq
 (((MC.reg
 [⟨some 12, MOp.mv (Opd.c (AV.int .i64 0)), none⟩]).seq
 (MC.block 2
 (MC.loop M13b1l M13b1))).seq
 ((MC.reg
 [⟨some 60, MOp.mv (Opd.s 8), none⟩,
 ⟨some 61, MOp.call 35 [(0, Opd.s 60)], none⟩,
 ⟨some 59, MOp.mv (Opd.s 61), none⟩,
 ⟨some 62, MOp.ext 0 (Opd.s 59), none⟩,
 ⟨some 63, MOp.ext 1 (Opd.s 59), none⟩,
 ⟨some 13, MOp.mv (Opd.s 62), none⟩,
 ⟨some 14, MOp.mv (Opd.s 63), none⟩]).seq
 (((MC.reg
 [⟨some 64, MOp.mv (Opd.s 13), none⟩,
 ⟨some 65, MOp.len (Opd.s 64), none⟩,
 ⟨some 66, MOp.mv (Opd.s 0), none⟩,
 ⟨some 67, MOp.mv (Opd.s 1), none⟩,
 ⟨some 68, MOp.mv (Opd.s 2), none⟩,
 ⟨some 69, MOp.bin .add (Opd.s 67) (Opd.s 68), none⟩,
 ⟨some 70, MOp.mn [Opd.s 66, Opd.s 69], none⟩,
 ⟨some 71, MOp.bin .neq (Opd.s 65) (Opd.s 70), none⟩,
 ⟨some 72, MOp.mv (Opd.s 71), none⟩,
 ⟨some 73, MOp.mv (Opd.s 13), some (72, false)⟩,
 ⟨some 74, MOp.len (Opd.s 73), some (72, false)⟩,
 ⟨some 75, MOp.mv (Opd.s 10), some (72, false)⟩,
 ⟨some 76, MOp.len (Opd.s 75), some (72, false)⟩,
 ⟨some 77, MOp.bin .lss (Opd.s 74) (Opd.s 76), some (72, false)⟩,
 ⟨some 78, MOp.pick (Opd.s 72) (Opd.c (AV.bool true))
 (Opd.s 77), none⟩]).seq
 (MC.cond (Opd.s 78)
 ((MC.reg
 [⟨some 6, MOp.mv (Opd.c (AV.bool false)), none⟩]).seq
 MC.ret)
 MC.skip)).seq
 (((MC.reg
 [⟨some 79, MOp.mv (Opd.s 10), none⟩,
 ⟨some 80, MOp.len (Opd.s 79), none⟩,
 ⟨some 81, MOp.mv (Opd.c (AV.int .i64 0)), none⟩]).seq
 (MC.block 4
 (MC.loop M13b0l M13b0))).seq
 ((MC.reg
 [⟨some 105, MOp.mv (Opd.s 8), none⟩,
 ⟨some 106, MOp.call 38 [(0, Opd.s 105)], none⟩,
 ⟨some 107, MOp.bin .eql (Opd.s 106)
 (Opd.c (AV.int .i64 0)), none⟩,
 ⟨some 108, MOp.mv (Opd.s 107), none⟩,
 ⟨some 109, MOp.mv (Opd.s 8), some (108, true)⟩,
 ⟨some 110, MOp.call 47 [(0, Opd.s 109)], some (108, true)⟩,
 ⟨some 111, MOp.mv (Opd.s 0), some (108, true)⟩,
 ⟨some 112, MOp.bin .eql (Opd.s 110) (Opd.s 111), some (108, true)⟩,
 ⟨some 113, MOp.pick (Opd.s 108) (Opd.s 112)
 (Opd.c (AV.bool false)), none⟩,
 ⟨some 6, MOp.mv (Opd.s 113), none⟩]).seq
 MC.ret))))))))))) ⟩
theorem tab7 : tableOf Tryd.prog 7 = some M7 := by kernel_rfl
theorem tab13 : tableOf Tryd.prog 13 = some M13 := by kernel_rfl
end Go.Proofs.YtochnineebgbgaaDoor
