/- Functions of the program in the evaluator's form, written out by a program. No conditions. -/
import Derived.Test.YthcblggiojpmcaaDoorM4
set_option linter.unusedVariables false
namespace Go.Proofs.YthcblggiojpmcaaDoor
open Go Go.Ab
def M16 : MFun :=
 ⟨46, [MRes.tmp 0 4], (MC.reg
 [⟨some 4, MOp.mv (Opd.c (AV.bool false)), none⟩]).seq
 ((MC.reg
 [⟨some 9, MOp.call 20 [], none⟩,
 ⟨some 5, MOp.mv (Opd.s 9), none⟩]).seq
 (((MC.reg
 [⟨some 10, MOp.mv (Opd.s 5), none⟩,
 ⟨some 11, MOp.un .not (Opd.s 10), none⟩]).seq
 (MC.cond (Opd.s 11)
 ((MC.reg
 [⟨some 4, MOp.mv (Opd.c (AV.bool false)), none⟩]).seq
 MC.ret)
 MC.skip)).seq
 ((MC.reg
 [⟨some 12, MOp.mv (Opd.s 0), none⟩,
 ⟨some 13, MOp.bin .rem (Opd.s 12)
 (Opd.c (AV.int .i64 70)), none⟩,
 ⟨some 14, MOp.bin .add (Opd.s 13)
 (Opd.c (AV.int .i64 70)), none⟩,
 ⟨some 15, MOp.bin .rem (Opd.s 14)
 (Opd.c (AV.int .i64 70)), none⟩,
 ⟨some 16, MOp.mv (Opd.s 1), none⟩,
 ⟨some 17, MOp.bin .rem (Opd.s 16)
 (Opd.c (AV.int .i64 3)), none⟩,
 ⟨some 18, MOp.bin .add (Opd.s 17)
 (Opd.c (AV.int .i64 3)), none⟩,
 ⟨some 19, MOp.bin .rem (Opd.s 18)
 (Opd.c (AV.int .i64 3)), none⟩,
 ⟨some 20, MOp.bin .add (Opd.c (AV.int .i64 1))
 (Opd.s 19), none⟩,
 ⟨some 0, MOp.mv (Opd.s 15), none⟩,
 ⟨some 1, MOp.mv (Opd.s 20), none⟩]).seq
 ((MC.reg
 [⟨some 21, MOp.mv (Opd.s 1), none⟩,
 ⟨some 22, MOp.mv (Opd.s 0), none⟩,
 ⟨some 23, MOp.mks 1 1 [AV.int .u8 0] (Opd.s 22)
 (Opd.s 22), none⟩,
 ⟨some 24, MOp.conv Cv.b2s (Opd.s 23), none⟩,
 ⟨some 25, MOp.build
 [AV.int .i64 0, AV.int .i64 0,
 AV.bool false, AV.int .i64 0,
 AV.int .i64 0, AV.int .i64 0,
 AV.int .i64 0, AV.bool false, AV.str []]
 [(3, 1, Opd.s 21), (8, 1, Opd.s 24)], none⟩,
 ⟨some 6, MOp.alloc
 [AV.int .i64 0, AV.int .i64 0,
 AV.bool false, AV.int .i64 0,
 AV.int .i64 0, AV.int .i64 0,
 AV.int .i64 0, AV.bool false, AV.str []], none⟩,
 ⟨none, MOp.store 9 (Opd.s 6) (Opd.s 25), none⟩]).seq
 (((MC.reg
 [⟨some 26, MOp.mv (Opd.s 1), none⟩,
 ⟨some 27, MOp.bin .eql (Opd.s 26)
 (Opd.c (AV.int .i64 3)), none⟩]).seq
 (MC.cond (Opd.s 27)
 (MC.reg
 [⟨some 28, MOp.fa 4 (Opd.s 6), none⟩,
 ⟨none, MOp.store 1 (Opd.s 28)
 (Opd.c (AV.int .i64 1)), none⟩])
 MC.skip)).seq
 ((MC.reg
 [⟨some 30, MOp.load (some 9) (Opd.s 6), none⟩,
 ⟨some 31, MOp.call 40 [(0, Opd.s 30)], none⟩,
 ⟨some 29, MOp.mv (Opd.s 31), none⟩,
 ⟨some 32, MOp.ext 0 (Opd.s 29), none⟩,
 ⟨some 33, MOp.ext 1 (Opd.s 29), none⟩,
 ⟨some 7, MOp.alloc
 [AV.int .i64 0, AV.int .i64 0,
 AV.bool false, AV.nili, AV.str []], none⟩,
 ⟨none, MOp.store 5 (Opd.s 7) (Opd.s 32), none⟩,
 ⟨some 8, MOp.mv (Opd.s 33), none⟩]).seq
 ((MC.reg
 [⟨some 34, MOp.mv (Opd.s 8), none⟩,
 ⟨some 35, MOp.mv (Opd.s 0), none⟩,
 ⟨some 36, MOp.bin .leq (Opd.s 35)
 (Opd.c (AV.int .i64 64)), none⟩,
 ⟨some 37, MOp.mv (Opd.s 36), none⟩,
 ⟨some 38, MOp.mv (Opd.s 1), some (37, true)⟩,
 ⟨some 39, MOp.bin .neq (Opd.s 38)
 (Opd.c (AV.int .i64 2)), some (37, true)⟩,
 ⟨some 40, MOp.mv (Opd.s 39), some (37, true)⟩,
 ⟨some 41, MOp.mv (Opd.s 0), some (40, false)⟩,
 ⟨some 42, MOp.bin .eql (Opd.s 41)
 (Opd.c (AV.int .i64 0)), some (40, false)⟩,
 ⟨some 43, MOp.pick (Opd.s 40) (Opd.c (AV.bool true))
 (Opd.s 42), some (37, true)⟩,
 ⟨some 44, MOp.pick (Opd.s 37) (Opd.s 43)
 (Opd.c (AV.bool false)), none⟩,
 ⟨some 45, MOp.eqv false (EqK.flat (EqF.one SK.b)) (Opd.s 34)
 (Opd.s 44), none⟩,
 ⟨some 4, MOp.mv (Opd.s 45), none⟩]).seq
 MC.ret))))))) ⟩
def M40 : MFun :=
 ⟨56, [MRes.cell 2 (some 5), MRes.tmp 0 3], (MC.reg
 [⟨some 1, MOp.box (Opd.s 0), none⟩,
 ⟨some 2, MOp.alloc
 [AV.int .i64 0, AV.int .i64 0,
 AV.bool false, AV.nili, AV.str []], none⟩,
 ⟨some 3, MOp.mv (Opd.c (AV.bool false)), none⟩]).seq
 ((MC.reg
 [⟨some 5, MOp.fa 0 (Opd.s 1), none⟩,
 ⟨some 6, MOp.load (some 2) (Opd.s 5), none⟩,
 ⟨some 7, MOp.fa 2 (Opd.s 1), none⟩,
 ⟨some 8, MOp.load none (Opd.s 7), none⟩,
 ⟨some 9, MOp.fa 8 (Opd.s 1), none⟩,
 ⟨some 10, MOp.load none (Opd.s 9), none⟩,
 ⟨some 11, MOp.build
 [AV.int .i64 0, AV.int .i64 0,
 AV.bool false, AV.nili, AV.str []]
 [(0, 2, Opd.s 6), (2, 1, Opd.s 8), (4, 1, Opd.s 10)], none⟩,
 ⟨some 4, MOp.alloc
 [AV.int .i64 0, AV.int .i64 0,
 AV.bool false, AV.nili, AV.str []], none⟩,
 ⟨none, MOp.store 5 (Opd.s 4) (Opd.s 11), none⟩]).seq
 (((MC.reg
 [⟨some 12, MOp.fa 3 (Opd.s 1), none⟩,
 ⟨some 13, MOp.load none (Opd.s 12), none⟩]).seq
 (MC.block 0
 ((MC.reg
 [⟨some 15, MOp.bin .eql (Opd.s 13)
 (Opd.c (AV.int .i64 1)), none⟩,
 ⟨some 14, MOp.mv (Opd.s 15), none⟩]).seq
 (MC.cond (Opd.s 14)
 (MC.reg
 [⟨some 16, MOp.fa 5 (Opd.s 1), none⟩,
 ⟨some 17, MOp.load none (Opd.s 16), none⟩,
 ⟨some 18, MOp.fa 6 (Opd.s 1), none⟩,
 ⟨some 19, MOp.load none (Opd.s 18), none⟩,
 ⟨some 20, MOp.fa 7 (Opd.s 1), none⟩,
 ⟨some 21, MOp.load none (Opd.s 20), none⟩,
 ⟨some 22, MOp.build
 [AV.int .i64 0, AV.int .i64 0,
 AV.bool false]
 [(0, 1, Opd.s 17), (1, 1, Opd.s 19), (2, 1, Opd.s 21)], none⟩,
 ⟨some 23, MOp.mki 64 (Opd.s 22), none⟩,
 ⟨some 24, MOp.fa 3 (Opd.s 4), none⟩,
 ⟨none, MOp.store 1 (Opd.s 24) (Opd.s 23), none⟩])
 ((MC.reg
 [⟨some 26, MOp.bin .eql (Opd.s 13)
 (Opd.c (AV.int .i64 2)), none⟩,
 ⟨some 25, MOp.mv (Opd.s 26), none⟩]).seq
 (MC.cond (Opd.s 25)
 (MC.reg
 [⟨some 27, MOp.fa 4 (Opd.s 1), none⟩,
 ⟨some 28, MOp.load none (Opd.s 27), none⟩,
 ⟨some 29, MOp.fa 5 (Opd.s 1), none⟩,
 ⟨some 30, MOp.load none (Opd.s 29), none⟩,
 ⟨some 31, MOp.fa 7 (Opd.s 1), none⟩,
 ⟨some 32, MOp.load none (Opd.s 31), none⟩,
 ⟨some 33, MOp.build
 [AV.int .i64 0,
 AV.int .i64 0, AV.bool false]
 [(0, 1, Opd.s 28), (1, 1, Opd.s 30), (2, 1, Opd.s 32)], none⟩,
 ⟨some 34, MOp.mki 84 (Opd.s 33), none⟩,
 ⟨some 35, MOp.fa 3 (Opd.s 4), none⟩,
 ⟨none, MOp.store 1 (Opd.s 35) (Opd.s 34), none⟩])
 ((MC.reg
 [⟨some 37, MOp.bin .eql (Opd.s 13)
 (Opd.c (AV.int .i64 3)), none⟩,
 ⟨some 36, MOp.mv (Opd.s 37), none⟩]).seq
 (MC.cond (Opd.s 36)
 (MC.reg
 [⟨some 38, MOp.fa 4 (Opd.s 1), none⟩,
 ⟨some 39, MOp.load none (Opd.s 38), none⟩,
 ⟨some 40, MOp.fa 7 (Opd.s 1), none⟩,
 ⟨some 41, MOp.load none (Opd.s 40), none⟩,
 ⟨some 42, MOp.build
 [AV.int .i64 0, AV.bool false]
 [(0, 1, Opd.s 39), (1, 1, Opd.s 41)], none⟩,
 ⟨some 43, MOp.mki 86 (Opd.s 42), none⟩,
 ⟨some 44, MOp.fa 3 (Opd.s 4), none⟩,
 ⟨none, MOp.store 1 (Opd.s 44) (Opd.s 43), none⟩])
 MC.skip)))))))).seq
 (((MC.draw
 [⟨some 45, MOp.load (some 5) (Opd.s 4), none⟩,
 ⟨some 46, MOp.call 47 [(0, Opd.s 45)], none⟩,
 ⟨some 47, MOp.un .not (Opd.s 46), none⟩,
 ⟨some 48, MOp.mv (Opd.s 47), none⟩,
 ⟨some 49, MOp.load (some 5) (Opd.s 4), some (48, false)⟩,
 ⟨some 50, MOp.call 46 [(0, Opd.s 49)], some (48, false)⟩,
 ⟨some 51, MOp.load (some 9) (Opd.s 1), some (48, false)⟩,
 ⟨some 52, MOp.eqv true
 (EqK.flat
 (EqF.many
 [SK.i, SK.i, SK.b, SK.i, SK.i, SK.i, SK.i,
 SK.b, SK.s]))
 (Opd.s 50) (Opd.s 51), some (48, false)⟩,
 ⟨some 53, MOp.pick (Opd.s 48) (Opd.c (AV.bool true)) (Opd.s 52), none⟩]
 [0, 1, 3, 7, 15, 31, 15, 127, 255]).seq
 (MC.cond (Opd.s 53)
 ((MC.reg
 [⟨some 54, MOp.build
 [AV.int .i64 0, AV.int .i64 0,
 AV.bool false, AV.nili, AV.str []]
 [], none⟩,
 ⟨none, MOp.store 5 (Opd.s 2) (Opd.s 54), none⟩,
 ⟨some 3, MOp.mv (Opd.c (AV.bool false)), none⟩]).seq
 MC.ret)
 MC.skip)).seq
 ((MC.reg
 [⟨some 55, MOp.load (some 5) (Opd.s 4), none⟩,
 ⟨none, MOp.store 5 (Opd.s 2) (Opd.s 55), none⟩,
 ⟨some 3, MOp.mv (Opd.c (AV.bool true)), none⟩]).seq
 MC.ret)))) ⟩
def M46 : MFun :=
 ⟨51, [MRes.cell 2 (some 9)], (MC.reg
 [⟨some 1, MOp.box (Opd.s 0), none⟩,
 ⟨some 2, MOp.alloc
 [AV.int .i64 0, AV.int .i64 0,
 AV.bool false, AV.int .i64 0,
 AV.int .i64 0, AV.int .i64 0,
 AV.int .i64 0, AV.bool false, AV.str []], none⟩]).seq
 (((MC.reg
 [⟨some 7, MOp.load (some 5) (Opd.s 1), none⟩,
 ⟨some 8, MOp.call 47 [(0, Opd.s 7)], none⟩,
 ⟨some 9, MOp.un .not (Opd.s 8), none⟩]).seq
 (MC.cond (Opd.s 9)
 ((MC.reg
 [⟨some 10, MOp.build
 [AV.int .i64 0, AV.int .i64 0,
 AV.bool false, AV.int .i64 0,
 AV.int .i64 0, AV.int .i64 0,
 AV.int .i64 0, AV.bool false, AV.str []]
 [], none⟩,
 ⟨none, MOp.store 9 (Opd.s 2) (Opd.s 10), none⟩]).seq
 MC.ret)
 MC.skip)).seq
 ((MC.draw
 [⟨some 11, MOp.fa 0 (Opd.s 1), none⟩,
 ⟨some 12, MOp.load (some 2) (Opd.s 11), none⟩,
 ⟨some 13, MOp.fa 2 (Opd.s 1), none⟩,
 ⟨some 14, MOp.load none (Opd.s 13), none⟩,
 ⟨some 15, MOp.fa 4 (Opd.s 1), none⟩,
 ⟨some 16, MOp.load none (Opd.s 15), none⟩,
 ⟨some 17, MOp.fa 3 (Opd.s 1), none⟩,
 ⟨some 18, MOp.load none (Opd.s 17), none⟩,
 ⟨some 19, MOp.call 38 [(0, Opd.s 18)], none⟩,
 ⟨some 20, MOp.build
 [AV.int .i64 0, AV.int .i64 0,
 AV.bool false, AV.int .i64 0,
 AV.int .i64 0, AV.int .i64 0,
 AV.int .i64 0, AV.bool false, AV.str []]
 [(0, 2, Opd.s 12), (2, 1, Opd.s 14), (8, 1, Opd.s 16),
 (7, 1, Opd.s 19)], none⟩,
 ⟨some 3, MOp.alloc
 [AV.int .i64 0, AV.int .i64 0,
 AV.bool false, AV.int .i64 0,
 AV.int .i64 0, AV.int .i64 0,
 AV.int .i64 0, AV.bool false, AV.str []], none⟩,
 ⟨none, MOp.store 9 (Opd.s 3) (Opd.s 20), none⟩]
 [0, 1, 0, 4, 0, 16, 0, 64, 192, 511, 0, 2047]).seq
 (((MC.reg
 [⟨some 21, MOp.fa 3 (Opd.s 1), none⟩,
 ⟨some 22, MOp.load none (Opd.s 21), none⟩]).seq
 (MC.block 0
 ((MC.reg
 [⟨some 23, MOp.tas 64
 (AV.agg
 [AV.int .i64 0,
 AV.int .i64 0, AV.bool false])
 true (Opd.s 22), none⟩,
 ⟨some 24, MOp.ext 1 (Opd.s 23), none⟩,
 ⟨some 25, MOp.ext 0 (Opd.s 23), none⟩]).seq
 (MC.cond (Opd.s 24)
 ((MC.reg
 [⟨some 4, MOp.alloc
 [AV.int .i64 0,
 AV.int .i64 0, AV.bool false], none⟩,
 ⟨none, MOp.store 3 (Opd.s 4) (Opd.s 25), none⟩]).seq
 (MC.draw
 [⟨some 26, MOp.fa 0 (Opd.s 4), none⟩,
 ⟨some 27, MOp.load none (Opd.s 26), none⟩,
 ⟨some 28, MOp.fa 1 (Opd.s 4), none⟩,
 ⟨some 29, MOp.load none (Opd.s 28), none⟩,
 ⟨some 30, MOp.fa 3 (Opd.s 3), none⟩,
 ⟨none, MOp.store 1 (Opd.s 30)
 (Opd.c (AV.int .i64 1)), none⟩,
 ⟨some 31, MOp.fa 5 (Opd.s 3), none⟩,
 ⟨none, MOp.store 1 (Opd.s 31) (Opd.s 27), none⟩,
 ⟨some 32, MOp.fa 6 (Opd.s 3), none⟩,
 ⟨none, MOp.store 1 (Opd.s 32) (Opd.s 29), none⟩]
 [0, 1, 0, 4, 0, 16, 51, 115, 255, 511]))
 ((MC.reg
 [⟨some 33, MOp.tas 84
 (AV.agg
 [AV.int .i64 0,
 AV.int .i64 0, AV.bool false])
 true (Opd.s 22), none⟩,
 ⟨some 34, MOp.ext 1 (Opd.s 33), none⟩,
 ⟨some 35, MOp.ext 0 (Opd.s 33), none⟩]).seq
 (MC.cond (Opd.s 34)
 ((MC.reg
 [⟨some 5, MOp.alloc
 [AV.int .i64 0,
 AV.int .i64 0, AV.bool false], none⟩,
 ⟨none, MOp.store 3 (Opd.s 5) (Opd.s 35), none⟩]).seq
 (MC.draw
 [⟨some 36, MOp.fa 0 (Opd.s 5), none⟩,
 ⟨some 37, MOp.load none (Opd.s 36), none⟩,
 ⟨some 38, MOp.fa 1 (Opd.s 5), none⟩,
 ⟨some 39, MOp.load none (Opd.s 38), none⟩,
 ⟨some 40, MOp.fa 3 (Opd.s 3), none⟩,
 ⟨none, MOp.store 1 (Opd.s 40)
 (Opd.c (AV.int .i64 2)), none⟩,
 ⟨some 41, MOp.fa 4 (Opd.s 3), none⟩,
 ⟨none, MOp.store 1 (Opd.s 41) (Opd.s 37), none⟩,
 ⟨some 42, MOp.fa 5 (Opd.s 3), none⟩,
 ⟨none, MOp.store 1 (Opd.s 42) (Opd.s 39), none⟩]
 [0, 1, 0, 4, 0, 16, 51, 115, 255, 511]))
 ((MC.reg
 [⟨some 43, MOp.tas 86
 (AV.agg
 [AV.int .i64 0, AV.bool false])
 true (Opd.s 22), none⟩,
 ⟨some 44, MOp.ext 1 (Opd.s 43), none⟩,
 ⟨some 45, MOp.ext 0 (Opd.s 43), none⟩]).seq
 (MC.cond (Opd.s 44)
 ((MC.reg
 [⟨some 6, MOp.alloc
 [AV.int .i64 0, AV.bool false], none⟩,
 ⟨none, MOp.store 2 (Opd.s 6) (Opd.s 45), none⟩]).seq
 (MC.draw
 [⟨some 46, MOp.fa 0 (Opd.s 6), none⟩,
 ⟨some 47, MOp.load none (Opd.s 46), none⟩,
 ⟨some 48, MOp.fa 3 (Opd.s 3), none⟩,
 ⟨none, MOp.store 1 (Opd.s 48)
 (Opd.c (AV.int .i64 3)), none⟩,
 ⟨some 49, MOp.fa 4 (Opd.s 3), none⟩,
 ⟨none, MOp.store 1 (Opd.s 49) (Opd.s 47), none⟩]
 [0, 1, 0, 4, 15, 31]))
 MC.skip)))))))).seq
 ((MC.reg
 [⟨some 50, MOp.load (some 9) (Opd.s 3), none⟩,
 ⟨none, MOp.store 9 (Opd.s 2) (Opd.s 50), none⟩]).seq
 MC.ret)))) ⟩
def M47 : MFun :=
 ⟨50, [MRes.tmp 0 2], (MC.reg
 [⟨some 1, MOp.box (Opd.s 0), none⟩,
 ⟨some 2, MOp.mv (Opd.c (AV.bool false)), none⟩]).seq
 ((MC.reg
 [⟨some 7, MOp.fa 3 (Opd.s 1), none⟩,
 ⟨some 8, MOp.load none (Opd.s 7), none⟩,
 ⟨some 9, MOp.tas 84
 (AV.agg
 [AV.int .i64 0, AV.int .i64 0,
 AV.bool false])
 true (Opd.s 8), none⟩,
 ⟨some 6, MOp.mv (Opd.s 9), none⟩,
 ⟨some 10, MOp.ext 0 (Opd.s 6), none⟩,
 ⟨some 11, MOp.ext 1 (Opd.s 6), none⟩,
 ⟨some 3, MOp.alloc
 [AV.int .i64 0, AV.int .i64 0,
 AV.bool false], none⟩,
 ⟨none, MOp.store 3 (Opd.s 3) (Opd.s 10), none⟩,
 ⟨some 4, MOp.mv (Opd.s 11), none⟩]).seq
 ((MC.reg
 [⟨some 12, MOp.fa 0 (Opd.s 1), none⟩,
 ⟨some 13, MOp.load (some 2) (Opd.s 12), none⟩,
 ⟨some 5, MOp.alloc
 [AV.int .i64 0, AV.int .i64 0], none⟩,
 ⟨none, MOp.store 2 (Opd.s 5) (Opd.s 13), none⟩]).seq
 (((MC.reg
 [⟨some 14, MOp.fa 0 (Opd.s 5), none⟩,
 ⟨some 15, MOp.load none (Opd.s 14), none⟩,
 ⟨some 16, MOp.bin .lss (Opd.s 15)
 (Opd.c (AV.int .i64 0)), none⟩,
 ⟨some 17, MOp.mv (Opd.s 16), none⟩,
 ⟨some 18, MOp.fa 0 (Opd.s 5), some (17, false)⟩,
 ⟨some 19, MOp.load none (Opd.s 18), some (17, false)⟩,
 ⟨some 20, MOp.bin .gtr (Opd.s 19)
 (Opd.c (AV.int .i64 127)), some (17, false)⟩,
 ⟨some 21, MOp.pick (Opd.s 17) (Opd.c (AV.bool true)) (Opd.s 20), none⟩,
 ⟨some 22, MOp.mv (Opd.s 21), none⟩,
 ⟨some 23, MOp.fa 1 (Opd.s 5), some (22, false)⟩,
 ⟨some 24, MOp.load none (Opd.s 23), some (22, false)⟩,
 ⟨some 25, MOp.bin .lss (Opd.s 24)
 (Opd.c (AV.int .i64 0)), some (22, false)⟩,
 ⟨some 26, MOp.pick (Opd.s 22) (Opd.c (AV.bool true)) (Opd.s 25), none⟩,
 ⟨some 27, MOp.mv (Opd.s 26), none⟩,
 ⟨some 28, MOp.fa 1 (Opd.s 5), some (27, false)⟩,
 ⟨some 29, MOp.load none (Opd.s 28), some (27, false)⟩,
 ⟨some 30, MOp.bin .gtr (Opd.s 29)
 (Opd.c (AV.int .i64 255)), some (27, false)⟩,
 ⟨some 31, MOp.pick (Opd.s 27) (Opd.c (AV.bool true)) (Opd.s 30), none⟩]).seq
 (MC.cond (Opd.s 31)
 ((MC.reg
 [⟨some 2, MOp.mv (Opd.c (AV.bool false)), none⟩]).seq
 MC.ret)
 MC.skip)).seq
 ((MC.reg
 [⟨some 32, MOp.fa 3 (Opd.s 1), none⟩,
 ⟨some 33, MOp.load none (Opd.s 32), none⟩,
 ⟨some 34, MOp.call 36 [(0, Opd.s 33)], none⟩,
 ⟨some 35, MOp.mv (Opd.s 34), none⟩,
 ⟨some 36, MOp.fa 4 (Opd.s 1), some (35, true)⟩,
 ⟨some 37, MOp.load none (Opd.s 36), some (35, true)⟩,
 ⟨some 38, MOp.lens (Opd.s 37), some (35, true)⟩,
 ⟨some 39, MOp.bin .leq (Opd.s 38)
 (Opd.c (AV.int .i64 64)), some (35, true)⟩,
 ⟨some 40, MOp.pick (Opd.s 35) (Opd.s 39) (Opd.c (AV.bool false)), none⟩,
 ⟨some 41, MOp.mv (Opd.s 40), none⟩,
 ⟨some 42, MOp.mv (Opd.s 4), some (41, true)⟩,
 ⟨some 43, MOp.un .not (Opd.s 42), some (41, true)⟩,
 ⟨some 44, MOp.mv (Opd.s 43), some (41, true)⟩,
 ⟨some 45, MOp.fa 4 (Opd.s 1), some (44, false)⟩,
 ⟨some 46, MOp.load none (Opd.s 45), some (44, false)⟩,
 ⟨some 47, MOp.bin .eql (Opd.s 46) (Opd.c (AV.str [])), some (44, false)⟩,
 ⟨some 48, MOp.pick (Opd.s 44) (Opd.c (AV.bool true)) (Opd.s 47), some (41, true)⟩,
 ⟨some 49, MOp.pick (Opd.s 41) (Opd.s 48) (Opd.c (AV.bool false)), none⟩,
 ⟨some 2, MOp.mv (Opd.s 49), none⟩]).seq
 MC.ret)))) ⟩
theorem tab16 : tableOf Tryd.prog 16 = some M16 := by kernel_rfl
theorem tab40 : tableOf Tryd.prog 40 = some M40 := by kernel_rfl
theorem tab46 : tableOf Tryd.prog 46 = some M46 := by kernel_rfl
theorem tab47 : tableOf Tryd.prog 47 = some M47 := by kernel_rfl
end Go.Proofs.YthcblggiojpmcaaDoor
