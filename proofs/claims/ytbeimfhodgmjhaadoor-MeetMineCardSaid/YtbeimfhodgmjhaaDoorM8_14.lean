/- Functions of the program in the evaluator's form, written out by a program. No conditions. -/
import Derived.Test.YtbeimfhodgmjhaaDoorM8
set_option linter.unusedVariables false
namespace Go.Proofs.YtbeimfhodgmjhaaDoor
open Go Go.Ab
def M14 : MFun :=
 ⟨64, [MRes.tmp 0 6], (MC.reg
 [⟨some 3, MOp.box (Opd.s 0), none⟩,
 ⟨some 4, MOp.box (Opd.s 1), none⟩,
 ⟨some 5, MOp.box (Opd.s 2), none⟩,
 ⟨some 6, MOp.mv (Opd.c (AV.bool false)), none⟩]).seq
 ((MC.reg
 [⟨some 12, MOp.call 21 [], none⟩,
 ⟨some 7, MOp.mv (Opd.s 12), none⟩]).seq
 (((MC.reg
 [⟨some 13, MOp.mv (Opd.s 7), none⟩,
 ⟨some 14, MOp.un .not (Opd.s 13), none⟩]).seq
 (MC.cond (Opd.s 14)
 ((MC.reg
 [⟨some 6, MOp.mv (Opd.c (AV.bool false)), none⟩]).seq
 MC.ret)
 MC.skip)).seq
 ((MC.reg
 [⟨some 16, MOp.load (some 5) (Opd.s 3), none⟩,
 ⟨some 17, MOp.load (some 5) (Opd.s 4), none⟩,
 ⟨some 18, MOp.call 42 [(0, Opd.s 16), (0, Opd.s 17)], none⟩,
 ⟨some 15, MOp.mv (Opd.s 18), none⟩,
 ⟨some 19, MOp.ext 0 (Opd.s 15), none⟩,
 ⟨some 20, MOp.ext 1 (Opd.s 15), none⟩,
 ⟨some 8, MOp.alloc
 [AV.int .i64 0, AV.int .i64 0,
 AV.int .i64 0, AV.int .i64 0,
 AV.int .i64 0], none⟩,
 ⟨none, MOp.store 5 (Opd.s 8) (Opd.s 19), none⟩,
 ⟨some 9, MOp.mv (Opd.s 20), none⟩]).seq
 ((MC.reg
 [⟨some 21, MOp.fa 0 (Opd.s 3), none⟩,
 ⟨some 22, MOp.load none (Opd.s 21), none⟩,
 ⟨some 23, MOp.fa 0 (Opd.s 5), none⟩,
 ⟨none, MOp.store 1 (Opd.s 23) (Opd.s 22), none⟩]).seq
 ((MC.reg
 [⟨some 25, MOp.load (some 5) (Opd.s 5), none⟩,
 ⟨some 26, MOp.load (some 5) (Opd.s 4), none⟩,
 ⟨some 27, MOp.call 42 [(0, Opd.s 25), (0, Opd.s 26)], none⟩,
 ⟨some 24, MOp.mv (Opd.s 27), none⟩,
 ⟨some 28, MOp.ext 0 (Opd.s 24), none⟩,
 ⟨some 29, MOp.ext 1 (Opd.s 24), none⟩,
 ⟨some 10, MOp.alloc
 [AV.int .i64 0, AV.int .i64 0,
 AV.int .i64 0, AV.int .i64 0,
 AV.int .i64 0], none⟩,
 ⟨none, MOp.store 5 (Opd.s 10) (Opd.s 28), none⟩,
 ⟨some 11, MOp.mv (Opd.s 29), none⟩]).seq
 ((MC.reg
 [⟨some 30, MOp.mv (Opd.s 9), none⟩,
 ⟨some 31, MOp.un .not (Opd.s 30), none⟩,
 ⟨some 32, MOp.mv (Opd.s 31), none⟩,
 ⟨some 33, MOp.mv (Opd.s 11), some (32, false)⟩,
 ⟨some 34, MOp.un .not (Opd.s 33), some (32, false)⟩,
 ⟨some 35, MOp.pick (Opd.s 32) (Opd.c (AV.bool true)) (Opd.s 34), none⟩,
 ⟨some 36, MOp.mv (Opd.s 35), none⟩,
 ⟨some 37, MOp.fa 0 (Opd.s 8), some (36, false)⟩,
 ⟨some 38, MOp.load none (Opd.s 37), some (36, false)⟩,
 ⟨some 39, MOp.fa 0 (Opd.s 10), some (36, false)⟩,
 ⟨some 40, MOp.load none (Opd.s 39), some (36, false)⟩,
 ⟨some 41, MOp.bin .eql (Opd.s 38) (Opd.s 40), some (36, false)⟩,
 ⟨some 42, MOp.mv (Opd.s 41), some (36, false)⟩,
 ⟨some 43, MOp.fa 2 (Opd.s 8), some (42, true)⟩,
 ⟨some 44, MOp.load none (Opd.s 43), some (42, true)⟩,
 ⟨some 45, MOp.fa 2 (Opd.s 10), some (42, true)⟩,
 ⟨some 46, MOp.load none (Opd.s 45), some (42, true)⟩,
 ⟨some 47, MOp.bin .eql (Opd.s 44) (Opd.s 46), some (42, true)⟩,
 ⟨some 48, MOp.pick (Opd.s 42) (Opd.s 47) (Opd.c (AV.bool false)), some (36, false)⟩,
 ⟨some 49, MOp.mv (Opd.s 48), some (36, false)⟩,
 ⟨some 50, MOp.fa 3 (Opd.s 8), some (49, true)⟩,
 ⟨some 51, MOp.load none (Opd.s 50), some (49, true)⟩,
 ⟨some 52, MOp.fa 3 (Opd.s 10), some (49, true)⟩,
 ⟨some 53, MOp.load none (Opd.s 52), some (49, true)⟩,
 ⟨some 54, MOp.bin .eql (Opd.s 51) (Opd.s 53), some (49, true)⟩,
 ⟨some 55, MOp.pick (Opd.s 49) (Opd.s 54) (Opd.c (AV.bool false)), some (36, false)⟩,
 ⟨some 56, MOp.mv (Opd.s 55), some (36, false)⟩,
 ⟨some 57, MOp.fa 4 (Opd.s 8), some (56, true)⟩,
 ⟨some 58, MOp.load none (Opd.s 57), some (56, true)⟩,
 ⟨some 59, MOp.fa 4 (Opd.s 10), some (56, true)⟩,
 ⟨some 60, MOp.load none (Opd.s 59), some (56, true)⟩,
 ⟨some 61, MOp.bin .eql (Opd.s 58) (Opd.s 60), some (56, true)⟩,
 ⟨some 62, MOp.pick (Opd.s 56) (Opd.s 61) (Opd.c (AV.bool false)), some (36, false)⟩,
 ⟨some 63, MOp.pick (Opd.s 36) (Opd.c (AV.bool true)) (Opd.s 62), none⟩,
 ⟨some 6, MOp.mv (Opd.s 63), none⟩]).seq
 MC.ret)))))) ⟩
theorem tab14 : tableOf Tryd.prog 14 = some M14 := by kernel_rfl
end Go.Proofs.YtbeimfhodgmjhaaDoor
