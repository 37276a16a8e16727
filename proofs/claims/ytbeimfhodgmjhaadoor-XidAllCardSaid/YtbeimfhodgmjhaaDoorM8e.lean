/- Functions of the program in the evaluator's form, written out by a program. No conditions. -/
import Derived.Test.YtbeimfhodgmjhaaDoorM8
set_option linter.unusedVariables false
namespace Go.Proofs.YtbeimfhodgmjhaaDoor
open Go Go.Ab
def M77b0 : MC :=
 ((MC.reg
 [⟨some 7, MOp.nxt (Opd.s 6), none⟩,
 ⟨some 8, MOp.ext 0 (Opd.s 7), none⟩]).seq
 ((MC.cond (Opd.s 8) MC.skip (MC.exit 0)).seq
 (MC.block 1
 ((MC.reg
 [⟨some 9, MOp.ext 2 (Opd.s 7), none⟩,
 ⟨some 4, MOp.mv (Opd.s 9), none⟩]).seq
 ((MC.reg
 [⟨some 10, MOp.mv (Opd.s 4), none⟩,
 ⟨some 11, MOp.call 92 [(0, Opd.s 10)], none⟩,
 ⟨some 12, MOp.bin .eql (Opd.s 11)
 (Opd.c (AV.int .i64 0)), none⟩]).seq
 (MC.cond (Opd.s 12)
 ((MC.reg
 [⟨some 2, MOp.mv (Opd.c (AV.bool false)), none⟩]).seq
 MC.ret)
 MC.skip))))))
def M77b0l : List Bool := [true, false, false, false, false, false, true, false, false, false, false, false, false, false, false, false]
def M77r0 : MC :=
 ((MC.reg
 [⟨some 13, MOp.mv (Opd.s 0), none⟩,
 ⟨some 14, MOp.lens (Opd.s 13), none⟩,
 ⟨some 15, MOp.bin .leq (Opd.s 14)
 (Opd.c (AV.int .i64 20)), none⟩,
 ⟨some 2, MOp.mv (Opd.s 15), none⟩]).seq
 MC.ret)
def M77 : MFun :=
 ⟨16, [MRes.tmp 0 2], (MC.reg
 [⟨some 2, MOp.mv (Opd.c (AV.bool false)), none⟩]).seq
 (((MC.reg
 [⟨some 5, MOp.mv (Opd.s 0), none⟩,
 ⟨some 6, MOp.rng (Opd.s 5), none⟩]).seq
 (MC.block 0
 (MC.loop M77b0l M77b0))).seq
 M77r0) ⟩
def M92 : MFun :=
 ⟨43, [MRes.tmp 0 2], (MC.reg
 [⟨some 2, MOp.mv (Opd.c (AV.int .i64 0)), none⟩]).seq
 ((MC.block 0
 ((MC.reg
 [⟨some 4, MOp.mv (Opd.s 0), none⟩,
 ⟨some 5, MOp.bin .geq (Opd.s 4)
 (Opd.c (AV.int .i32 97)), none⟩,
 ⟨some 6, MOp.mv (Opd.s 5), none⟩,
 ⟨some 7, MOp.mv (Opd.s 0), some (6, true)⟩,
 ⟨some 8, MOp.bin .leq (Opd.s 7)
 (Opd.c (AV.int .i32 122)), some (6, true)⟩,
 ⟨some 9, MOp.pick (Opd.s 6) (Opd.s 8) (Opd.c (AV.bool false)), none⟩,
 ⟨some 10, MOp.mv (Opd.s 9), none⟩,
 ⟨some 11, MOp.mv (Opd.s 0), some (10, false)⟩,
 ⟨some 12, MOp.bin .geq (Opd.s 11)
 (Opd.c (AV.int .i32 65)), some (10, false)⟩,
 ⟨some 13, MOp.mv (Opd.s 12), some (10, false)⟩,
 ⟨some 14, MOp.mv (Opd.s 0), some (13, true)⟩,
 ⟨some 15, MOp.bin .leq (Opd.s 14)
 (Opd.c (AV.int .i32 90)), some (13, true)⟩,
 ⟨some 16, MOp.pick (Opd.s 13) (Opd.s 15) (Opd.c (AV.bool false)), some (10, false)⟩,
 ⟨some 17, MOp.pick (Opd.s 10) (Opd.c (AV.bool true)) (Opd.s 16), none⟩,
 ⟨some 3, MOp.mv (Opd.s 17), none⟩]).seq
 (MC.cond (Opd.s 3)
 ((MC.reg
 [⟨some 2, MOp.mv (Opd.c (AV.int .i64 1)), none⟩]).seq
 MC.ret)
 ((MC.reg
 [⟨some 19, MOp.mv (Opd.s 0), none⟩,
 ⟨some 20, MOp.bin .geq (Opd.s 19)
 (Opd.c (AV.int .i32 48)), none⟩,
 ⟨some 21, MOp.mv (Opd.s 20), none⟩,
 ⟨some 22, MOp.mv (Opd.s 0), some (21, true)⟩,
 ⟨some 23, MOp.bin .leq (Opd.s 22)
 (Opd.c (AV.int .i32 57)), some (21, true)⟩,
 ⟨some 24, MOp.pick (Opd.s 21) (Opd.s 23) (Opd.c (AV.bool false)), none⟩,
 ⟨some 18, MOp.mv (Opd.s 24), none⟩]).seq
 (MC.cond (Opd.s 18)
 ((MC.reg
 [⟨some 2, MOp.mv (Opd.c (AV.int .i64 2)), none⟩]).seq
 MC.ret)
 ((MC.reg
 [⟨some 26, MOp.mv (Opd.s 0), none⟩,
 ⟨some 27, MOp.bin .geq (Opd.s 26)
 (Opd.c (AV.int .i32 32)), none⟩,
 ⟨some 28, MOp.mv (Opd.s 27), none⟩,
 ⟨some 29, MOp.mv (Opd.s 0), some (28, true)⟩,
 ⟨some 30, MOp.bin .leq (Opd.s 29)
 (Opd.c (AV.int .i32 126)), some (28, true)⟩,
 ⟨some 31, MOp.pick (Opd.s 28) (Opd.s 30)
 (Opd.c (AV.bool false)), none⟩,
 ⟨some 25, MOp.mv (Opd.s 31), none⟩]).seq
 (MC.cond (Opd.s 25)
 ((MC.reg
 [⟨some 2, MOp.mv (Opd.c (AV.int .i64 3)), none⟩]).seq
 MC.ret)
 ((MC.reg
 [⟨some 33, MOp.mv (Opd.s 0), none⟩,
 ⟨some 34, MOp.bin .geq (Opd.s 33)
 (Opd.c (AV.int .i32 160)), none⟩,
 ⟨some 35, MOp.mv (Opd.s 34), none⟩,
 ⟨some 36, MOp.mv (Opd.s 0), some (35, true)⟩,
 ⟨some 37, MOp.bin .neq (Opd.s 36)
 (Opd.c (AV.int .i32 65533)), some (35, true)⟩,
 ⟨some 38, MOp.pick (Opd.s 35) (Opd.s 37)
 (Opd.c (AV.bool false)), none⟩,
 ⟨some 39, MOp.mv (Opd.s 38), none⟩,
 ⟨some 40, MOp.mv (Opd.s 0), some (39, true)⟩,
 ⟨some 41, MOp.call 112 [(0, Opd.s 40)], some (39, true)⟩,
 ⟨some 42, MOp.pick (Opd.s 39) (Opd.s 41)
 (Opd.c (AV.bool false)), none⟩,
 ⟨some 32, MOp.mv (Opd.s 42), none⟩]).seq
 (MC.cond (Opd.s 32)
 ((MC.reg
 [⟨some 2, MOp.mv (Opd.c (AV.int .i64 4)), none⟩]).seq
 MC.ret)
 MC.skip))))))))).seq
 ((MC.reg
 [⟨some 2, MOp.mv (Opd.c (AV.int .i64 0)), none⟩]).seq
 MC.ret)) ⟩
def M112 : MFun :=
 ⟨17, [MRes.tmp 0 2], (MC.reg
 [⟨some 2, MOp.mv (Opd.c (AV.bool false)), none⟩]).seq
 ((MC.block 0
 ((MC.reg
 [⟨some 4, MOp.mv (Opd.s 0), none⟩,
 ⟨some 5, MOp.bin .leq (Opd.c (AV.int .i32 0))
 (Opd.s 4), none⟩,
 ⟨some 6, MOp.mv (Opd.s 5), none⟩,
 ⟨some 7, MOp.mv (Opd.s 0), some (6, true)⟩,
 ⟨some 8, MOp.bin .lss (Opd.s 7)
 (Opd.c (AV.int .i32 55296)), some (6, true)⟩,
 ⟨some 9, MOp.pick (Opd.s 6) (Opd.s 8) (Opd.c (AV.bool false)), none⟩,
 ⟨some 3, MOp.mv (Opd.s 9), none⟩]).seq
 (MC.cond (Opd.s 3)
 ((MC.reg
 [⟨some 2, MOp.mv (Opd.c (AV.bool true)), none⟩]).seq
 MC.ret)
 ((MC.reg
 [⟨some 11, MOp.mv (Opd.s 0), none⟩,
 ⟨some 12, MOp.bin .lss (Opd.c (AV.int .i32 57343))
 (Opd.s 11), none⟩,
 ⟨some 13, MOp.mv (Opd.s 12), none⟩,
 ⟨some 14, MOp.mv (Opd.s 0), some (13, true)⟩,
 ⟨some 15, MOp.bin .leq (Opd.s 14)
 (Opd.c (AV.int .i32 1114111)), some (13, true)⟩,
 ⟨some 16, MOp.pick (Opd.s 13) (Opd.s 15) (Opd.c (AV.bool false)), none⟩,
 ⟨some 10, MOp.mv (Opd.s 16), none⟩]).seq
 (MC.cond (Opd.s 10)
 ((MC.reg
 [⟨some 2, MOp.mv (Opd.c (AV.bool true)), none⟩]).seq
 MC.ret)
 MC.skip))))).seq
 ((MC.reg
 [⟨some 2, MOp.mv (Opd.c (AV.bool false)), none⟩]).seq
 MC.ret)) ⟩
theorem tab77 : tableOf Tryd.prog 77 = some M77 := by kernel_rfl
theorem tab92 : tableOf Tryd.prog 92 = some M92 := by kernel_rfl
theorem tab112 : tableOf Tryd.prog 112 = some M112 := by kernel_rfl
end Go.Proofs.YtbeimfhodgmjhaaDoor
