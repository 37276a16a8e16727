/- Functions of the program in the evaluator's form, written out by a program. No conditions. -/
import Derived.Test.YtochnineebgbgaaDoorM12
set_option linter.unusedVariables false
namespace Go.Proofs.YtochnineebgbgaaDoor
open Go Go.Ab
def M68 : MFun :=
 ⟨40, [MRes.tmp 0 2], (MC.reg
 [⟨some 2, MOp.mv (Opd.c (AV.bool false)), none⟩]).seq
 (((MC.reg [⟨some 6, MOp.mv (Opd.s 0), none⟩]).seq
 (MC.block 0
 ((MC.reg
 [⟨some 7, MOp.tas 100
 (AV.agg
 [AV.int .i64 0, AV.int .i64 0,
 AV.bool false])
 true (Opd.s 6), none⟩,
 ⟨some 8, MOp.ext 1 (Opd.s 7), none⟩,
 ⟨some 9, MOp.ext 0 (Opd.s 7), none⟩]).seq
 (MC.cond (Opd.s 8)
 ((MC.reg
 [⟨some 3, MOp.alloc
 [AV.int .i64 0, AV.int .i64 0,
 AV.bool false], none⟩,
 ⟨none, MOp.store 3 (Opd.s 3) (Opd.s 9), none⟩]).seq
 ((MC.reg
 [⟨some 10, MOp.fa 0 (Opd.s 3), none⟩,
 ⟨some 11, MOp.load none (Opd.s 10), none⟩,
 ⟨some 12, MOp.call 86
 [(0, Opd.s 11), (0, Opd.c (AV.int .i64 8))], none⟩,
 ⟨some 13, MOp.mv (Opd.s 12), none⟩,
 ⟨some 14, MOp.fa 1 (Opd.s 3), some (13, true)⟩,
 ⟨some 15, MOp.load none (Opd.s 14), some (13, true)⟩,
 ⟨some 16, MOp.call 86
 [(0, Opd.s 15), (0, Opd.c (AV.int .i64 8))], some (13, true)⟩,
 ⟨some 17, MOp.pick (Opd.s 13) (Opd.s 16)
 (Opd.c (AV.bool false)), none⟩,
 ⟨some 2, MOp.mv (Opd.s 17), none⟩]).seq
 MC.ret))
 ((MC.reg
 [⟨some 18, MOp.tas 128
 (AV.agg
 [AV.int .i64 0,
 AV.int .i64 0, AV.bool false])
 true (Opd.s 6), none⟩,
 ⟨some 19, MOp.ext 1 (Opd.s 18), none⟩,
 ⟨some 20, MOp.ext 0 (Opd.s 18), none⟩]).seq
 (MC.cond (Opd.s 19)
 ((MC.reg
 [⟨some 4, MOp.alloc
 [AV.int .i64 0,
 AV.int .i64 0, AV.bool false], none⟩,
 ⟨none, MOp.store 3 (Opd.s 4) (Opd.s 20), none⟩]).seq
 ((MC.reg
 [⟨some 21, MOp.fa 0 (Opd.s 4), none⟩,
 ⟨some 22, MOp.load none (Opd.s 21), none⟩,
 ⟨some 23, MOp.call 86
 [(0, Opd.s 22),
 (0, Opd.c (AV.int .i64 3))], none⟩,
 ⟨some 24, MOp.mv (Opd.s 23), none⟩,
 ⟨some 25, MOp.fa 1 (Opd.s 4), some (24, true)⟩,
 ⟨some 26, MOp.load none (Opd.s 25), some (24, true)⟩,
 ⟨some 27, MOp.call 86
 [(0, Opd.s 26),
 (0, Opd.c (AV.int .i64 8))], some (24, true)⟩,
 ⟨some 28, MOp.pick (Opd.s 24) (Opd.s 27)
 (Opd.c (AV.bool false)), none⟩,
 ⟨some 2, MOp.mv (Opd.s 28), none⟩]).seq
 MC.ret))
 ((MC.reg
 [⟨some 29, MOp.tas 103
 (AV.agg
 [AV.int .i64 0, AV.bool false])
 true (Opd.s 6), none⟩,
 ⟨some 30, MOp.ext 1 (Opd.s 29), none⟩,
 ⟨some 31, MOp.ext 0 (Opd.s 29), none⟩]).seq
 (MC.cond (Opd.s 30)
 ((MC.reg
 [⟨some 5, MOp.alloc
 [AV.int .i64 0, AV.bool false], none⟩,
 ⟨none, MOp.store 2 (Opd.s 5) (Opd.s 31), none⟩]).seq
 ((MC.reg
 [⟨some 32, MOp.fa 0 (Opd.s 5), none⟩,
 ⟨some 33, MOp.load none (Opd.s 32), none⟩,
 ⟨some 34, MOp.bin .geq (Opd.s 33)
 (Opd.c (AV.int .i64 1)), none⟩,
 ⟨some 35, MOp.mv (Opd.s 34), none⟩,
 ⟨some 36, MOp.fa 0 (Opd.s 5), some (35, true)⟩,
 ⟨some 37, MOp.load none (Opd.s 36), some (35, true)⟩,
 ⟨some 38, MOp.bin .leq (Opd.s 37)
 (Opd.c (AV.int .i64 7)), some (35, true)⟩,
 ⟨some 39, MOp.pick (Opd.s 35) (Opd.s 38)
 (Opd.c (AV.bool false)), none⟩,
 ⟨some 2, MOp.mv (Opd.s 39), none⟩]).seq
 MC.ret))
 MC.skip)))))))).seq
 ((MC.reg
 [⟨some 2, MOp.mv (Opd.c (AV.bool false)), none⟩]).seq
 MC.ret)) ⟩
def M86 : MFun :=
 ⟨12, [MRes.tmp 0 4], (MC.reg
 [⟨some 4, MOp.mv (Opd.c (AV.bool false)), none⟩]).seq
 ((MC.reg
 [⟨some 5, MOp.mv (Opd.s 0), none⟩,
 ⟨some 6, MOp.bin .geq (Opd.s 5)
 (Opd.c (AV.int .i64 0)), none⟩,
 ⟨some 7, MOp.mv (Opd.s 6), none⟩,
 ⟨some 8, MOp.mv (Opd.s 0), some (7, true)⟩,
 ⟨some 9, MOp.mv (Opd.s 1), some (7, true)⟩,
 ⟨some 10, MOp.bin .lss (Opd.s 8) (Opd.s 9), some (7, true)⟩,
 ⟨some 11, MOp.pick (Opd.s 7) (Opd.s 10) (Opd.c (AV.bool false)), none⟩,
 ⟨some 4, MOp.mv (Opd.s 11), none⟩]).seq
 MC.ret) ⟩
theorem tab68 : tableOf Tryd.prog 68 = some M68 := by kernel_rfl
theorem tab86 : tableOf Tryd.prog 86 = some M86 := by kernel_rfl
end Go.Proofs.YtochnineebgbgaaDoor
/- Functions of the program in the evaluator's form, written out by a program. No conditions. -/
set_option linter.unusedVariables false
namespace Go.Proofs.YtochnineebgbgaaDoor
open Go Go.Ab
def M16b0 : MC :=
 ((MC.reg
 [⟨some 42, MOp.bin .lss (Opd.s 41) (Opd.s 40), none⟩]).seq
 ((MC.cond (Opd.s 42) MC.skip (MC.exit 2)).seq
 ((MC.block 3
 ((MC.reg
 [⟨some 43, MOp.ixa 9 (Opd.s 39) (Opd.s 41), none⟩,
 ⟨some 44, MOp.load (some 9) (Opd.s 43), none⟩,
 ⟨some 14, MOp.alloc
 [AV.int .i64 0,
 AV.int .i64 0,
 AV.bool false,
 AV.int .i64 0,
 AV.int .i64 0,
 AV.int .i64 0,
 AV.int .i64 0,
 AV.bool false, AV.str []], none⟩,
 ⟨none, MOp.store 9 (Opd.s 14) (Opd.s 44), none⟩]).seq
 ((MC.reg
 [⟨some 45, MOp.fa 3 (Opd.s 14), none⟩,
 ⟨some 46, MOp.load none (Opd.s 45), none⟩,
 ⟨some 47, MOp.bin .eql (Opd.s 46)
 (Opd.c (AV.int .i64 1)), none⟩]).seq
 (MC.cond (Opd.s 47)
 (MC.reg
 [⟨some 48, MOp.mv (Opd.s 12), none⟩,
 ⟨some 49, MOp.bin .add (Opd.s 48)
 (Opd.c (AV.int .i64 1)), none⟩,
 ⟨some 12, MOp.mv (Opd.s 49), none⟩])
 MC.skip)))).seq
 (MC.reg
 [⟨some 50, MOp.bin .add (Opd.s 41)
 (Opd.c (AV.int .i64 1)), none⟩,
 ⟨some 41, MOp.mv (Opd.s 50), none⟩]))))
def M16b0l : List Bool := [false, true, true, true, false, false, false, false, false, false, true, false, true, false, false, false, false, false, false, false, false, false, false, false, false, false, false, false, false, false, false, false, false, false, false, false, false, false, false, true, true, true, false, false, false, false, false, false, false, false, false, false, false, false, false, false, false, false, false, false, false, false, false, false, false, false, false, false, false, false, false, false, false, false, false, false, false, false, false, false, false, false, false, false, false, false, false, false, false, false, false, false, false, false, false]
def M16b1 : MC :=
 (((MC.reg
 [⟨some 29, MOp.mv (Opd.s 11), none⟩,
 ⟨some 30, MOp.mv (Opd.s 1), none⟩,
 ⟨some 31, MOp.bin .lss (Opd.s 29) (Opd.s 30), none⟩]).seq
 (MC.cond (Opd.s 31) MC.skip (MC.exit 0))).seq
 ((MC.block 1
 (MC.reg
 [⟨some 34, MOp.mv (Opd.s 10), none⟩,
 ⟨some 35, MOp.mv (Opd.s 11), none⟩,
 ⟨some 36, MOp.call 34 [(0, Opd.s 35)], none⟩,
 ⟨some 37, MOp.call 40 [(0, Opd.s 34), (0, Opd.s 36)], none⟩])).seq
 (MC.reg
 [⟨some 32, MOp.mv (Opd.s 11), none⟩,
 ⟨some 33, MOp.bin .add (Opd.s 32)
 (Opd.c (AV.int .i64 1)), none⟩,
 ⟨some 11, MOp.mv (Opd.s 33), none⟩])))
def M16b1l : List Bool := [false, true, true, true, false, false, false, false, false, false, true, true, false, false, false, false, false, false, false, false, false, false, false, false, false, false, false, false, false, false, false, false, false, false, false, false, false, false, false, false, false, false, false, false, false, false, false, false, false, false, false, false, false, false, false, false, false, false, false, false, false, false, false, false, false, false, false, false, false, false, false, false, false, false, false, false, false, false, false, false, false, false, false, false, false, false, false, false, false, false, false, false, false, false, false]
def M16 : MFun :=
 ⟨95, [MRes.tmp 0 8], (MC.reg
 [⟨some 4, MOp.box (Opd.s 0), none⟩,
 ⟨some 8, MOp.mv (Opd.c (AV.bool false)), none⟩]).seq
 ((MC.reg
 [⟨some 19, MOp.call 21 [], none⟩,
 ⟨some 9, MOp.mv (Opd.s 19), none⟩]).seq
 (((MC.reg
 [⟨some 20, MOp.mv (Opd.s 9), none⟩,
 ⟨some 21, MOp.un .not (Opd.s 20), none⟩]).seq
 (MC.cond (Opd.s 21)
 ((MC.reg
 [⟨some 8, MOp.mv (Opd.c (AV.bool false)), none⟩]).seq
 MC.ret)
 MC.skip)).seq
 ((MC.reg
 [⟨some 22, MOp.mv (Opd.s 1), none⟩,
 ⟨some 23, MOp.bin .rem (Opd.s 22)
 (Opd.c (AV.int .i64 9)), none⟩,
 ⟨some 24, MOp.bin .add (Opd.s 23)
 (Opd.c (AV.int .i64 9)), none⟩,
 ⟨some 25, MOp.bin .rem (Opd.s 24)
 (Opd.c (AV.int .i64 9)), none⟩,
 ⟨some 26, MOp.fa 3 (Opd.s 4), none⟩,
 ⟨none, MOp.store 1 (Opd.s 26) (Opd.c (AV.int .i64 8)), none⟩,
 ⟨some 1, MOp.mv (Opd.s 25), none⟩]).seq
 ((MC.reg
 [⟨some 27, MOp.load (some 5) (Opd.s 4), none⟩,
 ⟨some 28, MOp.call 39
 [(0, Opd.c (AV.int .i64 1)), (0, Opd.s 27)], none⟩,
 ⟨some 10, MOp.mv (Opd.s 28), none⟩]).seq
 (((MC.reg
 [⟨some 11, MOp.mv (Opd.c (AV.int .i64 0)), none⟩]).seq
 (MC.block 0
 (MC.loop M16b1l M16b1))).seq
 ((MC.reg
 [⟨some 12, MOp.mv (Opd.c (AV.int .i64 0)), none⟩]).seq
 (((MC.reg
 [⟨some 38, MOp.mv (Opd.s 10), none⟩,
 ⟨some 39, MOp.call 42 [(0, Opd.s 38)], none⟩,
 ⟨some 40, MOp.len (Opd.s 39), none⟩,
 ⟨some 41, MOp.mv (Opd.c (AV.int .i64 0)), none⟩]).seq
 (MC.block 2
 (MC.loop M16b0l M16b0))).seq
 ((MC.reg
 [⟨some 51, MOp.mv (Opd.s 2), none⟩,
 ⟨some 52, MOp.mv (Opd.s 12), none⟩,
 ⟨some 53, MOp.bin .add (Opd.s 52)
 (Opd.c (AV.int .i64 1)), none⟩,
 ⟨some 54, MOp.bin .rem (Opd.s 51) (Opd.s 53), none⟩,
 ⟨some 55, MOp.mv (Opd.s 12), none⟩,
 ⟨some 56, MOp.bin .add (Opd.s 54) (Opd.s 55), none⟩,
 ⟨some 57, MOp.bin .add (Opd.s 56)
 (Opd.c (AV.int .i64 1)), none⟩,
 ⟨some 58, MOp.mv (Opd.s 12), none⟩,
 ⟨some 59, MOp.bin .add (Opd.s 58)
 (Opd.c (AV.int .i64 1)), none⟩,
 ⟨some 60, MOp.bin .rem (Opd.s 57) (Opd.s 59), none⟩,
 ⟨some 15, MOp.mv (Opd.s 60), none⟩]).seq
 ((MC.reg
 [⟨some 61, MOp.mv (Opd.s 15), none⟩,
 ⟨some 62, MOp.build
 [AV.int .i64 0,
 AV.int .i64 0, AV.bool false,
 AV.int .i64 0,
 AV.int .i64 0,
 AV.int .i64 0,
 AV.int .i64 0, AV.bool false,
 AV.str []]
 [(3, 1, Opd.c (AV.int .i64 2)),
 (5, 1, Opd.s 61), (7, 1, Opd.c (AV.bool true))], none⟩,
 ⟨some 16, MOp.alloc
 [AV.int .i64 0,
 AV.int .i64 0, AV.bool false,
 AV.int .i64 0,
 AV.int .i64 0,
 AV.int .i64 0,
 AV.int .i64 0, AV.bool false,
 AV.str []], none⟩,
 ⟨none, MOp.store 9 (Opd.s 16) (Opd.s 62), none⟩]).seq
 (((MC.reg
 [⟨some 63, MOp.mv (Opd.s 3), none⟩]).seq
 (MC.cond (Opd.s 63)
 (MC.reg
 [⟨some 64, MOp.mv (Opd.s 15), none⟩,
 ⟨some 65, MOp.build
 [AV.int .i64 0,
 AV.int .i64 0, AV.bool false,
 AV.int .i64 0,
 AV.int .i64 0,
 AV.int .i64 0,
 AV.int .i64 0, AV.bool false,
 AV.str []]
 [(3, 1, Opd.c (AV.int .i64 1)),
 (5, 1, Opd.s 64), (7, 1, Opd.c (AV.bool true)),
 (8, 1,
 Opd.c (AV.str [(122 : UInt8)]))], none⟩,
 ⟨none, MOp.store 9 (Opd.s 16) (Opd.s 65), none⟩])
 MC.skip)).seq
 ((MC.reg
 [⟨some 67, MOp.mv (Opd.s 10), none⟩,
 ⟨some 68, MOp.load (some 9) (Opd.s 16), none⟩,
 ⟨some 69, MOp.call 49 [(0, Opd.s 67), (0, Opd.s 68)], none⟩,
 ⟨some 66, MOp.mv (Opd.s 69), none⟩,
 ⟨some 70, MOp.ext 0 (Opd.s 66), none⟩,
 ⟨some 71, MOp.ext 1 (Opd.s 66), none⟩,
 ⟨some 17, MOp.mv (Opd.s 70), none⟩,
 ⟨some 18, MOp.mv (Opd.s 71), none⟩]).seq
 ((MC.reg
 [⟨some 72, MOp.mv (Opd.s 18), none⟩,
 ⟨some 73, MOp.mv (Opd.s 3), none⟩,
 ⟨some 74, MOp.eqv false (EqK.flat (EqF.one SK.b))
 (Opd.s 72) (Opd.s 73), none⟩,
 ⟨some 75, MOp.mv (Opd.s 74), none⟩,
 ⟨some 76, MOp.mv (Opd.s 3), some (75, true)⟩,
 ⟨some 77, MOp.un .not (Opd.s 76), some (75, true)⟩,
 ⟨some 78, MOp.mv (Opd.s 77), some (75, true)⟩,
 ⟨some 79, MOp.mv (Opd.s 17), some (78, false)⟩,
 ⟨some 80, MOp.bin .eql (Opd.s 79)
 (Opd.c (AV.str [(122 : UInt8)])), some (78, false)⟩,
 ⟨some 81, MOp.pick (Opd.s 78) (Opd.c (AV.bool true))
 (Opd.s 80), some (75, true)⟩,
 ⟨some 82, MOp.pick (Opd.s 75) (Opd.s 81)
 (Opd.c (AV.bool false)), none⟩,
 ⟨some 83, MOp.mv (Opd.s 82), none⟩,
 ⟨some 84, MOp.mv (Opd.s 10), some (83, true)⟩,
 ⟨some 85, MOp.call 46 [(0, Opd.s 84)], some (83, true)⟩,
 ⟨some 86, MOp.mv (Opd.s 1), some (83, true)⟩,
 ⟨some 87, MOp.mv (Opd.s 15), some (83, true)⟩,
 ⟨some 88, MOp.bin .sub (Opd.s 86) (Opd.s 87), some (83, true)⟩,
 ⟨some 89, MOp.bin .eql (Opd.s 85) (Opd.s 88), some (83, true)⟩,
 ⟨some 90, MOp.pick (Opd.s 83) (Opd.s 89)
 (Opd.c (AV.bool false)), none⟩,
 ⟨some 91, MOp.mv (Opd.s 90), none⟩,
 ⟨some 92, MOp.mv (Opd.s 10), some (91, true)⟩,
 ⟨some 93, MOp.call 43 [(0, Opd.s 92)], some (91, true)⟩,
 ⟨some 94, MOp.pick (Opd.s 91) (Opd.s 93)
 (Opd.c (AV.bool false)), none⟩,
 ⟨some 8, MOp.mv (Opd.s 94), none⟩]).seq
 MC.ret)))))))))))) ⟩
theorem tab16 : tableOf Tryd.prog 16 = some M16 := by kernel_rfl
end Go.Proofs.YtochnineebgbgaaDoor
