/- Functions of the program in the evaluator's form, written out by a program. No conditions. -/
import Derived.Test.YthcblggiojpmcaaDoorTabs
set_option linter.unusedVariables false
namespace Go.Proofs.YthcblggiojpmcaaDoor
open Go Go.Ab
def oks : List (Nat × EqF) :=
 [(2, EqF.one SK.i), (3, EqF.one SK.i), (4, EqF.one SK.b), (5, EqF.one SK.i), (6, EqF.one SK.i), (7, EqF.many [SK.i, SK.i, SK.b, SK.i]), (8, EqF.many [SK.i, SK.i, SK.b, SK.i]), (9, EqF.one SK.s), (10, EqF.one SK.s), (11, EqF.one SK.s), (12, EqF.one SK.i), (21, EqF.one SK.i), (31, EqF.many [SK.i, SK.i]), (32, EqF.many [SK.i, SK.i]), (33, EqF.many [SK.i, SK.i, SK.b, SK.i, SK.i, SK.i, SK.i, SK.b, SK.s]), (34, EqF.many [SK.i, SK.i, SK.b, SK.i, SK.i, SK.i, SK.i, SK.b, SK.s]), (63, EqF.many [SK.i, SK.i, SK.b]), (64, EqF.many [SK.i, SK.i, SK.b]), (75, EqF.many [SK.i, SK.s]), (76, EqF.many [SK.i, SK.s]), (83, EqF.many [SK.i, SK.i, SK.b]), (84, EqF.many [SK.i, SK.i, SK.b]), (85, EqF.many [SK.i, SK.b]), (86, EqF.many [SK.i, SK.b]), (104, EqF.one SK.i), (114, EqF.one SK.i), (117, EqF.one SK.i), (122, EqF.many [SK.i, SK.i]), (123, EqF.many [SK.i, SK.i]), (133, EqF.one SK.i), (136, EqF.one SK.i), (146, EqF.one SK.i), (147, EqF.one SK.i), (150, EqF.one SK.i), (151, EqF.one SK.i)]
def M13 : MFun :=
 ⟨44, [MRes.tmp 0 4], (MC.reg
 [⟨some 2, MOp.box (Opd.s 0), none⟩,
 ⟨some 3, MOp.box (Opd.s 1), none⟩,
 ⟨some 4, MOp.mv (Opd.c (AV.bool false)), none⟩]).seq
 ((MC.reg
 [⟨some 12, MOp.call 20 [], none⟩,
 ⟨some 5, MOp.mv (Opd.s 12), none⟩]).seq
 (((MC.reg
 [⟨some 13, MOp.mv (Opd.s 5), none⟩,
 ⟨some 14, MOp.un .not (Opd.s 13), none⟩]).seq
 (MC.cond (Opd.s 14)
 ((MC.reg
 [⟨some 4, MOp.mv (Opd.c (AV.bool false)), none⟩]).seq
 MC.ret)
 MC.skip)).seq
 ((MC.draw
 [⟨some 15, MOp.load (some 9) (Opd.s 2), none⟩,
 ⟨some 16, MOp.call 33 [(0, Opd.s 15)], none⟩,
 ⟨some 17, MOp.load (some 9) (Opd.s 3), none⟩,
 ⟨some 18, MOp.call 33 [(0, Opd.s 17)], none⟩,
 ⟨some 6, MOp.mv (Opd.s 16), none⟩,
 ⟨some 7, MOp.mv (Opd.s 18), none⟩]
 [0, 1, 0, 7, 15, 31]).seq
 ((MC.reg
 [⟨some 20, MOp.mv (Opd.s 6), none⟩,
 ⟨some 21, MOp.call 35 [(0, Opd.s 20)], none⟩,
 ⟨some 19, MOp.mv (Opd.s 21), none⟩,
 ⟨some 22, MOp.ext 0 (Opd.s 19), none⟩,
 ⟨some 23, MOp.ext 1 (Opd.s 19), none⟩,
 ⟨some 8, MOp.mv (Opd.s 22), none⟩,
 ⟨some 9, MOp.mv (Opd.s 23), none⟩]).seq
 ((MC.reg
 [⟨some 25, MOp.mv (Opd.s 7), none⟩,
 ⟨some 26, MOp.call 35 [(0, Opd.s 25)], none⟩,
 ⟨some 24, MOp.mv (Opd.s 26), none⟩,
 ⟨some 27, MOp.ext 0 (Opd.s 24), none⟩,
 ⟨some 28, MOp.ext 1 (Opd.s 24), none⟩,
 ⟨some 10, MOp.mv (Opd.s 27), none⟩,
 ⟨some 11, MOp.mv (Opd.s 28), none⟩]).seq
 ((MC.reg
 [⟨some 29, MOp.mv (Opd.s 9), none⟩,
 ⟨some 30, MOp.un .not (Opd.s 29), none⟩,
 ⟨some 31, MOp.mv (Opd.s 30), none⟩,
 ⟨some 32, MOp.mv (Opd.s 11), some (31, false)⟩,
 ⟨some 33, MOp.un .not (Opd.s 32), some (31, false)⟩,
 ⟨some 34, MOp.pick (Opd.s 31) (Opd.c (AV.bool true)) (Opd.s 33), none⟩,
 ⟨some 35, MOp.mv (Opd.s 34), none⟩,
 ⟨some 36, MOp.mv (Opd.s 8), some (35, false)⟩,
 ⟨some 37, MOp.mv (Opd.s 10), some (35, false)⟩,
 ⟨some 38, MOp.bin .eql (Opd.s 36) (Opd.s 37), some (35, false)⟩,
 ⟨some 39, MOp.mv (Opd.s 6), some (35, false)⟩,
 ⟨some 40, MOp.mv (Opd.s 7), some (35, false)⟩,
 ⟨some 41, MOp.eqv false
 (EqK.ifc oks)
 (Opd.s 39) (Opd.s 40), some (35, false)⟩,
 ⟨some 42, MOp.eqv false (EqK.flat (EqF.one SK.b)) (Opd.s 38)
 (Opd.s 41), some (35, false)⟩,
 ⟨some 43, MOp.pick (Opd.s 35) (Opd.c (AV.bool true)) (Opd.s 42), none⟩,
 ⟨some 4, MOp.mv (Opd.s 43), none⟩]).seq
 MC.ret)))))) ⟩
def M33 : MFun :=
 ⟨33, [MRes.tmp 0 2], (MC.reg
 [⟨some 1, MOp.box (Opd.s 0), none⟩,
 ⟨some 2, MOp.mv (Opd.c AV.nili), none⟩]).seq
 (((MC.reg
 [⟨some 3, MOp.fa 3 (Opd.s 1), none⟩,
 ⟨some 4, MOp.load none (Opd.s 3), none⟩]).seq
 (MC.block 0
 ((MC.reg
 [⟨some 6, MOp.bin .eql (Opd.s 4)
 (Opd.c (AV.int .i64 1)), none⟩,
 ⟨some 5, MOp.mv (Opd.s 6), none⟩]).seq
 (MC.cond (Opd.s 5)
 ((MC.reg
 [⟨some 7, MOp.fa 5 (Opd.s 1), none⟩,
 ⟨some 8, MOp.load none (Opd.s 7), none⟩,
 ⟨some 9, MOp.fa 6 (Opd.s 1), none⟩,
 ⟨some 10, MOp.load none (Opd.s 9), none⟩,
 ⟨some 11, MOp.fa 7 (Opd.s 1), none⟩,
 ⟨some 12, MOp.load none (Opd.s 11), none⟩,
 ⟨some 13, MOp.build
 [AV.int .i64 0, AV.int .i64 0,
 AV.bool false]
 [(0, 1, Opd.s 8), (1, 1, Opd.s 10), (2, 1, Opd.s 12)], none⟩,
 ⟨some 14, MOp.mki 64 (Opd.s 13), none⟩,
 ⟨some 2, MOp.mv (Opd.s 14), none⟩]).seq
 MC.ret)
 ((MC.reg
 [⟨some 16, MOp.bin .eql (Opd.s 4)
 (Opd.c (AV.int .i64 2)), none⟩,
 ⟨some 15, MOp.mv (Opd.s 16), none⟩]).seq
 (MC.cond (Opd.s 15)
 ((MC.reg
 [⟨some 17, MOp.fa 4 (Opd.s 1), none⟩,
 ⟨some 18, MOp.load none (Opd.s 17), none⟩,
 ⟨some 19, MOp.fa 5 (Opd.s 1), none⟩,
 ⟨some 20, MOp.load none (Opd.s 19), none⟩,
 ⟨some 21, MOp.fa 7 (Opd.s 1), none⟩,
 ⟨some 22, MOp.load none (Opd.s 21), none⟩,
 ⟨some 23, MOp.build
 [AV.int .i64 0,
 AV.int .i64 0, AV.bool false]
 [(0, 1, Opd.s 18), (1, 1, Opd.s 20), (2, 1, Opd.s 22)], none⟩,
 ⟨some 24, MOp.mki 84 (Opd.s 23), none⟩,
 ⟨some 2, MOp.mv (Opd.s 24), none⟩]).seq
 MC.ret)
 ((MC.reg
 [⟨some 26, MOp.bin .eql (Opd.s 4)
 (Opd.c (AV.int .i64 3)), none⟩,
 ⟨some 25, MOp.mv (Opd.s 26), none⟩]).seq
 (MC.cond (Opd.s 25)
 ((MC.reg
 [⟨some 27, MOp.fa 4 (Opd.s 1), none⟩,
 ⟨some 28, MOp.load none (Opd.s 27), none⟩,
 ⟨some 29, MOp.fa 7 (Opd.s 1), none⟩,
 ⟨some 30, MOp.load none (Opd.s 29), none⟩,
 ⟨some 31, MOp.build
 [AV.int .i64 0, AV.bool false]
 [(0, 1, Opd.s 28), (1, 1, Opd.s 30)], none⟩,
 ⟨some 32, MOp.mki 86 (Opd.s 31), none⟩,
 ⟨some 2, MOp.mv (Opd.s 32), none⟩]).seq
 MC.ret)
 MC.skip)))))))).seq
 ((MC.reg
 [⟨some 2, MOp.mv (Opd.c AV.nili), none⟩]).seq
 MC.ret)) ⟩
def M35 : MFun :=
 ⟨48, [MRes.tmp 0 2, MRes.tmp 0 3], (MC.reg
 [⟨some 2, MOp.mv (Opd.c (AV.int .u8 0)), none⟩,
 ⟨some 3, MOp.mv (Opd.c (AV.bool false)), none⟩]).seq
 (((MC.reg
 [⟨some 8, MOp.mv (Opd.s 0), none⟩,
 ⟨some 9, MOp.call 36 [(0, Opd.s 8)], none⟩,
 ⟨some 10, MOp.un .not (Opd.s 9), none⟩]).seq
 (MC.cond (Opd.s 10)
 ((MC.reg
 [⟨some 2, MOp.mv (Opd.c (AV.int .u8 0)), none⟩,
 ⟨some 3, MOp.mv (Opd.c (AV.bool false)), none⟩]).seq
 MC.ret)
 MC.skip)).seq
 ((MC.reg
 [⟨some 4, MOp.mv (Opd.c (AV.int .i64 0)), none⟩]).seq
 (((MC.reg [⟨some 11, MOp.mv (Opd.s 0), none⟩]).seq
 (MC.block 0
 ((MC.reg
 [⟨some 12, MOp.tas 64
 (AV.agg
 [AV.int .i64 0,
 AV.int .i64 0, AV.bool false])
 true (Opd.s 11), none⟩,
 ⟨some 13, MOp.ext 1 (Opd.s 12), none⟩,
 ⟨some 14, MOp.ext 0 (Opd.s 12), none⟩]).seq
 (MC.cond (Opd.s 13)
 ((MC.reg
 [⟨some 5, MOp.alloc
 [AV.int .i64 0,
 AV.int .i64 0, AV.bool false], none⟩,
 ⟨none, MOp.store 3 (Opd.s 5) (Opd.s 14), none⟩]).seq
 (MC.reg
 [⟨some 15, MOp.fa 0 (Opd.s 5), none⟩,
 ⟨some 16, MOp.load none (Opd.s 15), none⟩,
 ⟨some 17, MOp.bin .mul (Opd.s 16)
 (Opd.c (AV.int .i64 32)), none⟩,
 ⟨some 18, MOp.fa 1 (Opd.s 5), none⟩,
 ⟨some 19, MOp.load none (Opd.s 18), none⟩,
 ⟨some 20, MOp.bin .mul (Opd.s 19)
 (Opd.c (AV.int .i64 2)), none⟩,
 ⟨some 21, MOp.bin .add (Opd.s 17) (Opd.s 20), none⟩,
 ⟨some 4, MOp.mv (Opd.s 21), none⟩]))
 ((MC.reg
 [⟨some 22, MOp.tas 84
 (AV.agg
 [AV.int .i64 0,
 AV.int .i64 0, AV.bool false])
 true (Opd.s 11), none⟩,
 ⟨some 23, MOp.ext 1 (Opd.s 22), none⟩,
 ⟨some 24, MOp.ext 0 (Opd.s 22), none⟩]).seq
 (MC.cond (Opd.s 23)
 ((MC.reg
 [⟨some 6, MOp.alloc
 [AV.int .i64 0,
 AV.int .i64 0, AV.bool false], none⟩,
 ⟨none, MOp.store 3 (Opd.s 6) (Opd.s 24), none⟩]).seq
 (MC.reg
 [⟨some 25, MOp.fa 1 (Opd.s 6), none⟩,
 ⟨some 26, MOp.load none (Opd.s 25), none⟩,
 ⟨some 27, MOp.bin .mul (Opd.s 26)
 (Opd.c (AV.int .i64 32)), none⟩,
 ⟨some 28, MOp.fa 0 (Opd.s 6), none⟩,
 ⟨some 29, MOp.load none (Opd.s 28), none⟩,
 ⟨some 30, MOp.bin .mul (Opd.s 29)
 (Opd.c (AV.int .i64 4)), none⟩,
 ⟨some 31, MOp.bin .add (Opd.s 27) (Opd.s 30), none⟩,
 ⟨some 32, MOp.bin .add (Opd.s 31)
 (Opd.c (AV.int .i64 1)), none⟩,
 ⟨some 4, MOp.mv (Opd.s 32), none⟩]))
 ((MC.reg
 [⟨some 33, MOp.tas 86
 (AV.agg
 [AV.int .i64 0, AV.bool false])
 true (Opd.s 11), none⟩,
 ⟨some 34, MOp.ext 1 (Opd.s 33), none⟩,
 ⟨some 35, MOp.ext 0 (Opd.s 33), none⟩]).seq
 (MC.cond (Opd.s 34)
 ((MC.reg
 [⟨some 7, MOp.alloc
 [AV.int .i64 0, AV.bool false], none⟩,
 ⟨none, MOp.store 2 (Opd.s 7) (Opd.s 35), none⟩]).seq
 (MC.draw
 [⟨some 36, MOp.call 68 [], none⟩,
 ⟨some 37, MOp.fa 0 (Opd.s 7), none⟩,
 ⟨some 38, MOp.load none (Opd.s 37), none⟩,
 ⟨some 39, MOp.ixa 1 (Opd.s 36) (Opd.s 38), none⟩,
 ⟨some 40, MOp.load none (Opd.s 39), none⟩,
 ⟨some 41, MOp.conv (Cv.toInt .i64) (Opd.s 40), none⟩,
 ⟨some 4, MOp.mv (Opd.s 41), none⟩]
 [0, 0, 2, 7, 15, 31, 63]))
 MC.skip)))))))).seq
 (((MC.reg
 [⟨some 42, MOp.mv (Opd.s 0), none⟩,
 ⟨some 43, MOp.call 38 [(0, Opd.s 42)], none⟩]).seq
 (MC.cond (Opd.s 43)
 (MC.reg
 [⟨some 44, MOp.mv (Opd.s 4), none⟩,
 ⟨some 45, MOp.bin .add (Opd.s 44)
 (Opd.c (AV.int .i64 16)), none⟩,
 ⟨some 4, MOp.mv (Opd.s 45), none⟩])
 MC.skip)).seq
 ((MC.reg
 [⟨some 46, MOp.mv (Opd.s 4), none⟩,
 ⟨some 47, MOp.conv (Cv.toInt .u8) (Opd.s 46), none⟩,
 ⟨some 2, MOp.mv (Opd.s 47), none⟩,
 ⟨some 3, MOp.mv (Opd.c (AV.bool true)), none⟩]).seq
 MC.ret))))) ⟩
def M36 : MFun :=
 ⟨40, [MRes.tmp 0 2], (MC.reg
 [⟨some 2, MOp.mv (Opd.c (AV.bool false)), none⟩]).seq
 (((MC.reg [⟨some 6, MOp.mv (Opd.s 0), none⟩]).seq
 (MC.block 0
 ((MC.reg
 [⟨some 7, MOp.tas 64
 (AV.agg
 [AV.int .i64 0, AV.int .i64 0,
 AV.bool false])
 true (Opd.s 6), none⟩,
 ⟨some 8, MOp.ext 1 (Opd.s 7), none⟩,
 ⟨some 9, MOp.ext 0 (Opd.s 7), none⟩]).seq
 (MC.cond (Opd.s 8)
 ((MC.reg
 [⟨some 3, MOp.alloc
 [AV.int .i64 0, AV.int .i64 0,
 AV.bool false], none⟩,
 ⟨none, MOp.store 3 (Opd.s 3) (Opd.s 9), none⟩]).seq
 ((MC.reg
 [⟨some 10, MOp.fa 0 (Opd.s 3), none⟩,
 ⟨some 11, MOp.load none (Opd.s 10), none⟩,
 ⟨some 12, MOp.call 69
 [(0, Opd.s 11), (0, Opd.c (AV.int .i64 8))], none⟩,
 ⟨some 13, MOp.mv (Opd.s 12), none⟩,
 ⟨some 14, MOp.fa 1 (Opd.s 3), some (13, true)⟩,
 ⟨some 15, MOp.load none (Opd.s 14), some (13, true)⟩,
 ⟨some 16, MOp.call 69
 [(0, Opd.s 15), (0, Opd.c (AV.int .i64 8))], some (13, true)⟩,
 ⟨some 17, MOp.pick (Opd.s 13) (Opd.s 16)
 (Opd.c (AV.bool false)), none⟩,
 ⟨some 2, MOp.mv (Opd.s 17), none⟩]).seq
 MC.ret))
 ((MC.reg
 [⟨some 18, MOp.tas 84
 (AV.agg
 [AV.int .i64 0,
 AV.int .i64 0, AV.bool false])
 true (Opd.s 6), none⟩,
 ⟨some 19, MOp.ext 1 (Opd.s 18), none⟩,
 ⟨some 20, MOp.ext 0 (Opd.s 18), none⟩]).seq
 (MC.cond (Opd.s 19)
 ((MC.reg
 [⟨some 4, MOp.alloc
 [AV.int .i64 0,
 AV.int .i64 0, AV.bool false], none⟩,
 ⟨none, MOp.store 3 (Opd.s 4) (Opd.s 20), none⟩]).seq
 ((MC.reg
 [⟨some 21, MOp.fa 0 (Opd.s 4), none⟩,
 ⟨some 22, MOp.load none (Opd.s 21), none⟩,
 ⟨some 23, MOp.call 69
 [(0, Opd.s 22),
 (0, Opd.c (AV.int .i64 3))], none⟩,
 ⟨some 24, MOp.mv (Opd.s 23), none⟩,
 ⟨some 25, MOp.fa 1 (Opd.s 4), some (24, true)⟩,
 ⟨some 26, MOp.load none (Opd.s 25), some (24, true)⟩,
 ⟨some 27, MOp.call 69
 [(0, Opd.s 26),
 (0, Opd.c (AV.int .i64 8))], some (24, true)⟩,
 ⟨some 28, MOp.pick (Opd.s 24) (Opd.s 27)
 (Opd.c (AV.bool false)), none⟩,
 ⟨some 2, MOp.mv (Opd.s 28), none⟩]).seq
 MC.ret))
 ((MC.reg
 [⟨some 29, MOp.tas 86
 (AV.agg
 [AV.int .i64 0, AV.bool false])
 true (Opd.s 6), none⟩,
 ⟨some 30, MOp.ext 1 (Opd.s 29), none⟩,
 ⟨some 31, MOp.ext 0 (Opd.s 29), none⟩]).seq
 (MC.cond (Opd.s 30)
 ((MC.reg
 [⟨some 5, MOp.alloc
 [AV.int .i64 0, AV.bool false], none⟩,
 ⟨none, MOp.store 2 (Opd.s 5) (Opd.s 31), none⟩]).seq
 ((MC.reg
 [⟨some 32, MOp.fa 0 (Opd.s 5), none⟩,
 ⟨some 33, MOp.load none (Opd.s 32), none⟩,
 ⟨some 34, MOp.bin .geq (Opd.s 33)
 (Opd.c (AV.int .i64 1)), none⟩,
 ⟨some 35, MOp.mv (Opd.s 34), none⟩,
 ⟨some 36, MOp.fa 0 (Opd.s 5), some (35, true)⟩,
 ⟨some 37, MOp.load none (Opd.s 36), some (35, true)⟩,
 ⟨some 38, MOp.bin .leq (Opd.s 37)
 (Opd.c (AV.int .i64 7)), some (35, true)⟩,
 ⟨some 39, MOp.pick (Opd.s 35) (Opd.s 38)
 (Opd.c (AV.bool false)), none⟩,
 ⟨some 2, MOp.mv (Opd.s 39), none⟩]).seq
 MC.ret))
 MC.skip)))))))).seq
 ((MC.reg
 [⟨some 2, MOp.mv (Opd.c (AV.bool false)), none⟩]).seq
 MC.ret)) ⟩
def M38 : MFun :=
 ⟨22, [MRes.tmp 0 2], (MC.reg
 [⟨some 2, MOp.mv (Opd.c (AV.bool false)), none⟩]).seq
 (((MC.reg [⟨some 6, MOp.mv (Opd.s 0), none⟩]).seq
 (MC.block 0
 ((MC.reg
 [⟨some 7, MOp.tas 64
 (AV.agg
 [AV.int .i64 0, AV.int .i64 0,
 AV.bool false])
 true (Opd.s 6), none⟩,
 ⟨some 8, MOp.ext 1 (Opd.s 7), none⟩,
 ⟨some 9, MOp.ext 0 (Opd.s 7), none⟩]).seq
 (MC.cond (Opd.s 8)
 ((MC.reg
 [⟨some 3, MOp.alloc
 [AV.int .i64 0, AV.int .i64 0,
 AV.bool false], none⟩,
 ⟨none, MOp.store 3 (Opd.s 3) (Opd.s 9), none⟩]).seq
 ((MC.reg
 [⟨some 10, MOp.fa 2 (Opd.s 3), none⟩,
 ⟨some 11, MOp.load none (Opd.s 10), none⟩,
 ⟨some 2, MOp.mv (Opd.s 11), none⟩]).seq
 MC.ret))
 ((MC.reg
 [⟨some 12, MOp.tas 84
 (AV.agg
 [AV.int .i64 0,
 AV.int .i64 0, AV.bool false])
 true (Opd.s 6), none⟩,
 ⟨some 13, MOp.ext 1 (Opd.s 12), none⟩,
 ⟨some 14, MOp.ext 0 (Opd.s 12), none⟩]).seq
 (MC.cond (Opd.s 13)
 ((MC.reg
 [⟨some 4, MOp.alloc
 [AV.int .i64 0,
 AV.int .i64 0, AV.bool false], none⟩,
 ⟨none, MOp.store 3 (Opd.s 4) (Opd.s 14), none⟩]).seq
 ((MC.reg
 [⟨some 15, MOp.fa 2 (Opd.s 4), none⟩,
 ⟨some 16, MOp.load none (Opd.s 15), none⟩,
 ⟨some 2, MOp.mv (Opd.s 16), none⟩]).seq
 MC.ret))
 ((MC.reg
 [⟨some 17, MOp.tas 86
 (AV.agg
 [AV.int .i64 0, AV.bool false])
 true (Opd.s 6), none⟩,
 ⟨some 18, MOp.ext 1 (Opd.s 17), none⟩,
 ⟨some 19, MOp.ext 0 (Opd.s 17), none⟩]).seq
 (MC.cond (Opd.s 18)
 ((MC.reg
 [⟨some 5, MOp.alloc
 [AV.int .i64 0, AV.bool false], none⟩,
 ⟨none, MOp.store 2 (Opd.s 5) (Opd.s 19), none⟩]).seq
 ((MC.reg
 [⟨some 20, MOp.fa 1 (Opd.s 5), none⟩,
 ⟨some 21, MOp.load none (Opd.s 20), none⟩,
 ⟨some 2, MOp.mv (Opd.s 21), none⟩]).seq
 MC.ret))
 MC.skip)))))))).seq
 ((MC.reg
 [⟨some 2, MOp.mv (Opd.c (AV.bool false)), none⟩]).seq
 MC.ret)) ⟩
def M68 : MFun :=
 ⟨2, [MRes.tmp 1 0], (MC.reg
 [⟨some 0, MOp.mv (Opd.c AV.nils), none⟩]).seq
 ((MC.reg
 [⟨some 1, MOp.bsl false 1 8
 [AV.int .u8 0, AV.int .u8 0,
 AV.int .u8 0, AV.int .u8 0,
 AV.int .u8 0, AV.int .u8 0,
 AV.int .u8 0, AV.int .u8 0]
 [(0, 1, Opd.c (AV.int .u8 0)),
 (1, 1, Opd.c (AV.int .u8 47)),
 (2, 1, Opd.c (AV.int .u8 131)),
 (3, 1, Opd.c (AV.int .u8 99)),
 (4, 1, Opd.c (AV.int .u8 15)),
 (5, 1, Opd.c (AV.int .u8 67)),
 (6, 1, Opd.c (AV.int .u8 139)),
 (7, 1, Opd.c (AV.int .u8 143))], none⟩,
 ⟨some 0, MOp.mv (Opd.s 1), none⟩]).seq
 MC.ret) ⟩
def M69 : MFun :=
 ⟨12, [MRes.tmp 0 4], (MC.reg
 [⟨some 4, MOp.mv (Opd.c (AV.bool false)), none⟩]).seq
 ((MC.reg
 [⟨some 5, MOp.mv (Opd.s 0), none⟩,
 ⟨some 6, MOp.bin .geq (Opd.s 5)
 (Opd.c (AV.int .i64 0)), none⟩,
 ⟨some 7, MOp.mv (Opd.s 6), none⟩,
 ⟨some 8, MOp.mv (Opd.s 0), some (7, true)⟩,
 ⟨some 9, MOp.mv (Opd.s 1), some (7, true)⟩,
 ⟨some 10, MOp.bin .lss (Opd.s 8) (Opd.s 9), some (7, true)⟩,
 ⟨some 11, MOp.pick (Opd.s 7) (Opd.s 10) (Opd.c (AV.bool false)), none⟩,
 ⟨some 4, MOp.mv (Opd.s 11), none⟩]).seq
 MC.ret) ⟩
theorem tab13 : tableOf Tryd.prog 13 = some M13 := by kernel_rfl
theorem tab33 : tableOf Tryd.prog 33 = some M33 := by kernel_rfl
theorem tab35 : tableOf Tryd.prog 35 = some M35 := by kernel_rfl
theorem tab36 : tableOf Tryd.prog 36 = some M36 := by kernel_rfl
theorem tab38 : tableOf Tryd.prog 38 = some M38 := by kernel_rfl
theorem tab68 : tableOf Tryd.prog 68 = some M68 := by kernel_rfl
theorem tab69 : tableOf Tryd.prog 69 = some M69 := by kernel_rfl
theorem evT_in {k : Nat} {f : Nat} {m : MFun} (hx : ext f = none) (hF : tableOf Tryd.prog f = some m) (args : List AV) (s : St) :
    evT (k + 1) f args s = outR m.res (evC tabGl (evT k) k m.body (env0 m.ntmps args) s) := by
  simp only [evT, evF, hx, hF]
end Go.Proofs.YthcblggiojpmcaaDoor
