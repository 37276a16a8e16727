/- Functions of the program in the evaluator's form, written out by a program. No conditions. -/
import Derived.Test.YtbeimfhodgmjhaaDoorM8
set_option linter.unusedVariables false
namespace Go.Proofs.YtbeimfhodgmjhaaDoor
open Go Go.Ab
def M19 : MFun :=
 ⟨64, [MRes.tmp 0 2], (MC.reg
 [⟨some 1, MOp.box (Opd.s 0), none⟩,
 ⟨some 2, MOp.mv (Opd.c (AV.bool false)), none⟩]).seq
 ((MC.reg
 [⟨some 9, MOp.call 21 [], none⟩,
 ⟨some 3, MOp.mv (Opd.s 9), none⟩]).seq
 (((MC.reg
 [⟨some 10, MOp.mv (Opd.s 3), none⟩,
 ⟨some 11, MOp.un .not (Opd.s 10), none⟩]).seq
 (MC.cond (Opd.s 11)
 ((MC.reg
 [⟨some 2, MOp.mv (Opd.c (AV.bool false)), none⟩]).seq
 MC.ret)
 MC.skip)).seq
 ((MC.reg
 [⟨some 12, MOp.build
 [AV.int .i64 0, AV.int .i64 0,
 AV.int .i64 0, AV.int .i64 0,
 AV.int .i64 0]
 [(0, 1, Opd.c (AV.int .i64 1)),
 (1, 1, Opd.c (AV.int .i64 1)),
 (2, 1, Opd.c (AV.int .i64 1)),
 (3, 1, Opd.c (AV.int .i64 1)),
 (4, 1, Opd.c (AV.int .i64 1))], none⟩,
 ⟨some 4, MOp.alloc
 [AV.int .i64 0, AV.int .i64 0,
 AV.int .i64 0, AV.int .i64 0,
 AV.int .i64 0], none⟩,
 ⟨none, MOp.store 5 (Opd.s 4) (Opd.s 12), none⟩]).seq
 ((MC.reg
 [⟨some 14, MOp.load (some 5) (Opd.s 1), none⟩,
 ⟨some 15, MOp.load (some 5) (Opd.s 4), none⟩,
 ⟨some 16, MOp.call 42 [(0, Opd.s 14), (0, Opd.s 15)], none⟩,
 ⟨some 13, MOp.mv (Opd.s 16), none⟩,
 ⟨some 17, MOp.ext 0 (Opd.s 13), none⟩,
 ⟨some 18, MOp.ext 1 (Opd.s 13), none⟩,
 ⟨some 5, MOp.alloc
 [AV.int .i64 0, AV.int .i64 0,
 AV.int .i64 0, AV.int .i64 0,
 AV.int .i64 0], none⟩,
 ⟨none, MOp.store 5 (Opd.s 5) (Opd.s 17), none⟩,
 ⟨some 6, MOp.mv (Opd.s 18), none⟩]).seq
 ((MC.reg
 [⟨some 20, MOp.load (some 5) (Opd.s 4), none⟩,
 ⟨some 21, MOp.load (some 5) (Opd.s 1), none⟩,
 ⟨some 22, MOp.call 42 [(0, Opd.s 20), (0, Opd.s 21)], none⟩,
 ⟨some 19, MOp.mv (Opd.s 22), none⟩,
 ⟨some 23, MOp.ext 0 (Opd.s 19), none⟩,
 ⟨some 24, MOp.ext 1 (Opd.s 19), none⟩,
 ⟨some 7, MOp.alloc
 [AV.int .i64 0, AV.int .i64 0,
 AV.int .i64 0, AV.int .i64 0,
 AV.int .i64 0], none⟩,
 ⟨none, MOp.store 5 (Opd.s 7) (Opd.s 23), none⟩,
 ⟨some 8, MOp.mv (Opd.s 24), none⟩]).seq
 (((MC.reg
 [⟨some 25, MOp.mv (Opd.s 6), none⟩,
 ⟨some 26, MOp.un .not (Opd.s 25), none⟩,
 ⟨some 27, MOp.mv (Opd.s 26), none⟩,
 ⟨some 28, MOp.mv (Opd.s 8), some (27, false)⟩,
 ⟨some 29, MOp.un .not (Opd.s 28), some (27, false)⟩,
 ⟨some 30, MOp.pick (Opd.s 27) (Opd.c (AV.bool true))
 (Opd.s 29), none⟩]).seq
 (MC.cond (Opd.s 30)
 ((MC.reg
 [⟨some 31, MOp.load (some 5) (Opd.s 1), none⟩,
 ⟨some 32, MOp.call 58 [(0, Opd.s 31)], none⟩,
 ⟨some 33, MOp.un .not (Opd.s 32), none⟩,
 ⟨some 34, MOp.mv (Opd.s 33), none⟩,
 ⟨some 35, MOp.mv (Opd.s 6), some (34, true)⟩,
 ⟨some 36, MOp.un .not (Opd.s 35), some (34, true)⟩,
 ⟨some 37, MOp.pick (Opd.s 34) (Opd.s 36)
 (Opd.c (AV.bool false)), none⟩,
 ⟨some 38, MOp.mv (Opd.s 37), none⟩,
 ⟨some 39, MOp.mv (Opd.s 8), some (38, true)⟩,
 ⟨some 40, MOp.un .not (Opd.s 39), some (38, true)⟩,
 ⟨some 41, MOp.pick (Opd.s 38) (Opd.s 40)
 (Opd.c (AV.bool false)), none⟩,
 ⟨some 2, MOp.mv (Opd.s 41), none⟩]).seq
 MC.ret)
 MC.skip)).seq
 ((MC.draw
 [⟨some 42, MOp.load (some 5) (Opd.s 5), none⟩,
 ⟨some 43, MOp.build
 [AV.int .i64 0, AV.int .i64 0,
 AV.int .i64 0,
 AV.int .i64 0,
 AV.int .i64 0]
 [(0, 1, Opd.c (AV.int .i64 32)),
 (1, 1, Opd.c (AV.int .i64 200)),
 (2, 1, Opd.c (AV.int .i64 1)),
 (3, 1, Opd.c (AV.int .i64 8))], none⟩,
 ⟨some 44, MOp.eqv false
 (EqK.flat
 (EqF.many [SK.i, SK.i, SK.i, SK.i, SK.i]))
 (Opd.s 42) (Opd.s 43), none⟩,
 ⟨some 45, MOp.mv (Opd.s 44), none⟩,
 ⟨some 46, MOp.fa 0 (Opd.s 7), some (45, true)⟩,
 ⟨some 47, MOp.load none (Opd.s 46), some (45, true)⟩,
 ⟨some 48, MOp.bin .eql (Opd.s 47)
 (Opd.c (AV.int .i64 32)), some (45, true)⟩,
 ⟨some 49, MOp.pick (Opd.s 45) (Opd.s 48)
 (Opd.c (AV.bool false)), none⟩,
 ⟨some 50, MOp.mv (Opd.s 49), none⟩,
 ⟨some 51, MOp.fa 1 (Opd.s 7), some (50, true)⟩,
 ⟨some 52, MOp.load none (Opd.s 51), some (50, true)⟩,
 ⟨some 53, MOp.bin .eql (Opd.s 52)
 (Opd.c (AV.int .i64 200)), some (50, true)⟩,
 ⟨some 54, MOp.pick (Opd.s 50) (Opd.s 53)
 (Opd.c (AV.bool false)), none⟩,
 ⟨some 55, MOp.mv (Opd.s 54), none⟩,
 ⟨some 56, MOp.fa 3 (Opd.s 7), some (55, true)⟩,
 ⟨some 57, MOp.load none (Opd.s 56), some (55, true)⟩,
 ⟨some 58, MOp.fa 3 (Opd.s 1), some (55, true)⟩,
 ⟨some 59, MOp.load none (Opd.s 58), some (55, true)⟩,
 ⟨some 60, MOp.call 26 [(0, Opd.s 59)], some (55, true)⟩,
 ⟨some 61, MOp.call 34 [(0, Opd.s 60)], some (55, true)⟩,
 ⟨some 62, MOp.bin .eql (Opd.s 57) (Opd.s 61), some (55, true)⟩,
 ⟨some 63, MOp.pick (Opd.s 55) (Opd.s 62)
 (Opd.c (AV.bool false)), none⟩,
 ⟨some 2, MOp.mv (Opd.s 63), none⟩]
 [0, 0, 3, 7, 15, 31, 63, 127, 255, 511, 1023, 2047, 4095, 8191, 16383, 32767, 16383, 81919,
 212991, 475135, 1048575, 2097151, 4194303]).seq
 MC.ret))))))) ⟩
theorem tab19 : tableOf Tryd.prog 19 = some M19 := by kernel_rfl
end Go.Proofs.YtbeimfhodgmjhaaDoor
