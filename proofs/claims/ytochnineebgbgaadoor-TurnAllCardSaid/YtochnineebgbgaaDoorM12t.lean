/- Functions of the program in the evaluator's form, written out by a program. No conditions. -/
import Derived.Test.YtochnineebgbgaaDoorM12
set_option linter.unusedVariables false
namespace Go.Proofs.YtochnineebgbgaaDoor
open Go Go.Ab
def M11 : MFun :=
 ⟨50, [MRes.tmp 0 4], (MC.reg
 [⟨some 4, MOp.mv (Opd.c (AV.bool false)), none⟩]).seq
 ((MC.reg
 [⟨some 8, MOp.call 21 [], none⟩,
 ⟨some 5, MOp.mv (Opd.s 8), none⟩]).seq
 (((MC.reg
 [⟨some 9, MOp.mv (Opd.s 5), none⟩,
 ⟨some 10, MOp.un .not (Opd.s 9), none⟩]).seq
 (MC.cond (Opd.s 10)
 ((MC.reg
 [⟨some 4, MOp.mv (Opd.c (AV.bool false)), none⟩]).seq
 MC.ret)
 MC.skip)).seq
 ((MC.reg
 [⟨some 11, MOp.mv (Opd.s 0), none⟩,
 ⟨some 12, MOp.bin .rem (Opd.s 11)
 (Opd.c (AV.int .i64 70)), none⟩,
 ⟨some 13, MOp.bin .add (Opd.s 12)
 (Opd.c (AV.int .i64 70)), none⟩,
 ⟨some 14, MOp.bin .rem (Opd.s 13)
 (Opd.c (AV.int .i64 70)), none⟩,
 ⟨some 15, MOp.mv (Opd.s 1), none⟩,
 ⟨some 16, MOp.bin .rem (Opd.s 15)
 (Opd.c (AV.int .i64 75)), none⟩,
 ⟨some 17, MOp.bin .add (Opd.s 16)
 (Opd.c (AV.int .i64 75)), none⟩,
 ⟨some 18, MOp.bin .rem (Opd.s 17)
 (Opd.c (AV.int .i64 75)), none⟩,
 ⟨some 0, MOp.mv (Opd.s 14), none⟩,
 ⟨some 1, MOp.mv (Opd.s 18), none⟩]).seq
 ((MC.reg
 [⟨some 19, MOp.mv (Opd.s 0), none⟩,
 ⟨some 20, MOp.build
 [AV.int .i64 0, AV.int .i64 0,
 AV.int .i64 0, AV.int .i64 0,
 AV.int .i64 0]
 [(2, 1, Opd.c (AV.int .i64 3)), (3, 1, Opd.s 19)], none⟩,
 ⟨some 21, MOp.call 39
 [(0, Opd.c (AV.int .i64 1)), (0, Opd.s 20)], none⟩,
 ⟨some 6, MOp.mv (Opd.s 21), none⟩]).seq
 ((MC.reg
 [⟨some 22, MOp.mv (Opd.s 6), none⟩,
 ⟨some 23, MOp.mv (Opd.s 1), none⟩,
 ⟨some 24, MOp.mks 1 1 [AV.int .u8 0] (Opd.s 23)
 (Opd.s 23), none⟩,
 ⟨some 25, MOp.conv Cv.b2s (Opd.s 24), none⟩,
 ⟨some 26, MOp.call 40 [(0, Opd.s 22), (0, Opd.s 25)], none⟩,
 ⟨some 7, MOp.mv (Opd.s 26), none⟩]).seq
 ((MC.reg
 [⟨some 27, MOp.mv (Opd.s 7), none⟩,
 ⟨some 28, MOp.bin .eql (Opd.s 27)
 (Opd.c (AV.int .i64 0)), none⟩,
 ⟨some 29, MOp.mv (Opd.s 1), none⟩,
 ⟨some 30, MOp.mv (Opd.s 0), none⟩,
 ⟨some 31, MOp.mn [Opd.s 30, Opd.c (AV.int .i64 64)], none⟩,
 ⟨some 32, MOp.bin .leq (Opd.s 29) (Opd.s 31), none⟩,
 ⟨some 33, MOp.eqv false (EqK.flat (EqF.one SK.b)) (Opd.s 28)
 (Opd.s 32), none⟩,
 ⟨some 34, MOp.mv (Opd.s 33), none⟩,
 ⟨some 35, MOp.mv (Opd.s 7), some (34, true)⟩,
 ⟨some 36, MOp.bin .eql (Opd.s 35)
 (Opd.c (AV.int .i64 0)), some (34, true)⟩,
 ⟨some 37, MOp.mv (Opd.s 36), some (34, true)⟩,
 ⟨some 38, MOp.mv (Opd.s 7), some (37, false)⟩,
 ⟨some 39, MOp.bin .eql (Opd.s 38)
 (Opd.c (AV.int .i64 1)), some (37, false)⟩,
 ⟨some 40, MOp.pick (Opd.s 37) (Opd.c (AV.bool true)) (Opd.s 39), some (34, true)⟩,
 ⟨some 41, MOp.pick (Opd.s 34) (Opd.s 40) (Opd.c (AV.bool false)), none⟩,
 ⟨some 42, MOp.mv (Opd.s 41), none⟩,
 ⟨some 43, MOp.mv (Opd.s 6), some (42, true)⟩,
 ⟨some 44, MOp.call 46 [(0, Opd.s 43)], some (42, true)⟩,
 ⟨some 45, MOp.mv (Opd.s 7), some (42, true)⟩,
 ⟨some 46, MOp.bin .eql (Opd.s 45)
 (Opd.c (AV.int .i64 0)), some (42, true)⟩,
 ⟨some 47, MOp.call 45 [(0, Opd.s 46)], some (42, true)⟩,
 ⟨some 48, MOp.bin .eql (Opd.s 44) (Opd.s 47), some (42, true)⟩,
 ⟨some 49, MOp.pick (Opd.s 42) (Opd.s 48) (Opd.c (AV.bool false)), none⟩,
 ⟨some 4, MOp.mv (Opd.s 49), none⟩]).seq
 MC.ret)))))) ⟩
def M40 : MFun :=
 ⟨22, [MRes.tmp 0 4], (MC.reg
 [⟨some 4, MOp.mv (Opd.c (AV.int .i64 0)), none⟩]).seq
 ((MC.block 0
 ((MC.reg
 [⟨some 6, MOp.mv (Opd.s 0), none⟩,
 ⟨some 7, MOp.eqv false EqK.ptr (Opd.s 6) (Opd.c AV.nilp), none⟩,
 ⟨some 5, MOp.mv (Opd.s 7), none⟩]).seq
 (MC.cond (Opd.s 5)
 ((MC.reg
 [⟨some 4, MOp.mv (Opd.c (AV.int .i64 6)), none⟩]).seq
 MC.ret)
 ((MC.reg
 [⟨some 9, MOp.mv (Opd.s 1), none⟩,
 ⟨some 10, MOp.lens (Opd.s 9), none⟩,
 ⟨some 11, MOp.mv (Opd.s 0), none⟩,
 ⟨some 12, MOp.nchk (Opd.s 11), none⟩,
 ⟨some 13, MOp.fa 1 (Opd.s 12), none⟩,
 ⟨some 14, MOp.load none (Opd.s 13), none⟩,
 ⟨some 15, MOp.bin .gtr (Opd.s 10) (Opd.s 14), none⟩,
 ⟨some 8, MOp.mv (Opd.s 15), none⟩]).seq
 (MC.cond (Opd.s 8)
 ((MC.reg
 [⟨some 4, MOp.mv (Opd.c (AV.int .i64 1)), none⟩]).seq
 MC.ret)
 MC.skip))))).seq
 ((MC.reg
 [⟨some 16, MOp.mv (Opd.s 0), none⟩,
 ⟨some 17, MOp.nchk (Opd.s 16), none⟩,
 ⟨some 18, MOp.fa 2 (Opd.s 17), none⟩,
 ⟨some 19, MOp.load none (Opd.s 18), none⟩,
 ⟨some 20, MOp.mv (Opd.s 1), none⟩,
 ⟨some 21, MOp.call 33 [(0, Opd.s 19), (0, Opd.s 20)], none⟩,
 ⟨some 4, MOp.mv (Opd.s 21), none⟩]).seq
 MC.ret)) ⟩
def M46 : MFun :=
 ⟨10, [MRes.tmp 0 2], (MC.reg
 [⟨some 2, MOp.mv (Opd.c (AV.int .i64 0)), none⟩]).seq
 (((MC.reg
 [⟨some 3, MOp.mv (Opd.s 0), none⟩,
 ⟨some 4, MOp.eqv false EqK.ptr (Opd.s 3) (Opd.c AV.nilp), none⟩]).seq
 (MC.cond (Opd.s 4)
 ((MC.reg
 [⟨some 2, MOp.mv (Opd.c (AV.int .i64 0)), none⟩]).seq
 MC.ret)
 MC.skip)).seq
 ((MC.reg
 [⟨some 5, MOp.mv (Opd.s 0), none⟩,
 ⟨some 6, MOp.nchk (Opd.s 5), none⟩,
 ⟨some 7, MOp.fa 2 (Opd.s 6), none⟩,
 ⟨some 8, MOp.load none (Opd.s 7), none⟩,
 ⟨some 9, MOp.call 37 [(0, Opd.s 8)], none⟩,
 ⟨some 2, MOp.mv (Opd.s 9), none⟩]).seq
 MC.ret)) ⟩
def M45 : MFun :=
 ⟨4, [MRes.tmp 0 2], (MC.reg
 [⟨some 2, MOp.mv (Opd.c (AV.int .i64 0)), none⟩]).seq
 (((MC.reg [⟨some 3, MOp.mv (Opd.s 0), none⟩]).seq
 (MC.cond (Opd.s 3)
 ((MC.reg
 [⟨some 2, MOp.mv (Opd.c (AV.int .i64 1)), none⟩]).seq
 MC.ret)
 MC.skip)).seq
 ((MC.reg
 [⟨some 2, MOp.mv (Opd.c (AV.int .i64 0)), none⟩]).seq
 MC.ret)) ⟩
def M39 : MFun :=
 ⟨23, [MRes.tmp 0 4], (MC.reg
 [⟨some 3, MOp.box (Opd.s 1), none⟩,
 ⟨some 4, MOp.mv (Opd.c AV.nilp), none⟩]).seq
 (((MC.reg
 [⟨some 5, MOp.mv (Opd.s 0), none⟩,
 ⟨some 6, MOp.bin .neq (Opd.s 5)
 (Opd.c (AV.int .i64 1)), none⟩,
 ⟨some 7, MOp.mv (Opd.s 6), none⟩,
 ⟨some 8, MOp.mv (Opd.s 0), some (7, true)⟩,
 ⟨some 9, MOp.bin .neq (Opd.s 8)
 (Opd.c (AV.int .i64 2)), some (7, true)⟩,
 ⟨some 10, MOp.pick (Opd.s 7) (Opd.s 9) (Opd.c (AV.bool false)), none⟩]).seq
 (MC.cond (Opd.s 10)
 ((MC.reg
 [⟨some 4, MOp.mv (Opd.c AV.nilp), none⟩]).seq
 MC.ret)
 MC.skip)).seq
 ((MC.draw
 [⟨some 11, MOp.mv (Opd.s 0), none⟩,
 ⟨some 12, MOp.fa 3 (Opd.s 3), none⟩,
 ⟨some 13, MOp.load none (Opd.s 12), none⟩,
 ⟨some 14, MOp.mn [Opd.s 13, Opd.c (AV.int .i64 64)], none⟩,
 ⟨some 15, MOp.fa 2 (Opd.s 3), none⟩,
 ⟨some 16, MOp.load none (Opd.s 15), none⟩,
 ⟨some 17, MOp.call 32 [(0, Opd.s 16)], none⟩,
 ⟨some 18, MOp.call 27 [], none⟩,
 ⟨some 19, MOp.mv (Opd.s 0), none⟩,
 ⟨some 20, MOp.bin .eql (Opd.s 19)
 (Opd.c (AV.int .i64 1)), none⟩,
 ⟨some 21, MOp.build
 [AV.int .i64 0, AV.int .i64 0,
 AV.nilp, AV.nilp, AV.bool false]
 [(0, 1, Opd.s 11), (1, 1, Opd.s 14), (2, 1, Opd.s 17), (3, 1, Opd.s 18),
 (4, 1, Opd.s 20)], none⟩,
 ⟨some 22, MOp.box (Opd.s 21), none⟩,
 ⟨some 4, MOp.mv (Opd.s 22), none⟩]
 [0, 0, 2, 6, 0, 16, 48, 112, 0, 256, 1023, 2047, 4095]).seq
 MC.ret)) ⟩
def M32 : MFun :=
 ⟨8, [MRes.tmp 0 2], (MC.reg
 [⟨some 2, MOp.mv (Opd.c AV.nilp), none⟩]).seq
 ((MC.reg
 [⟨some 3, MOp.mv (Opd.s 0), none⟩,
 ⟨some 4, MOp.mx [Opd.s 3, Opd.c (AV.int .i64 1)], none⟩,
 ⟨some 5, MOp.mn [Opd.s 4, Opd.c (AV.int .i64 7)], none⟩,
 ⟨some 6, MOp.build
 [AV.int .i64 0, AV.nils,
 AV.int .i64 0, AV.int .i64 0]
 [(0, 1, Opd.s 5)], none⟩,
 ⟨some 7, MOp.box (Opd.s 6), none⟩,
 ⟨some 2, MOp.mv (Opd.s 7), none⟩]).seq
 MC.ret) ⟩
theorem tab11 : tableOf Tryd.prog 11 = some M11 := by kernel_rfl
theorem tab40 : tableOf Tryd.prog 40 = some M40 := by kernel_rfl
theorem tab46 : tableOf Tryd.prog 46 = some M46 := by kernel_rfl
theorem tab45 : tableOf Tryd.prog 45 = some M45 := by kernel_rfl
theorem tab39 : tableOf Tryd.prog 39 = some M39 := by kernel_rfl
theorem tab32 : tableOf Tryd.prog 32 = some M32 := by kernel_rfl
end Go.Proofs.YtochnineebgbgaaDoor
