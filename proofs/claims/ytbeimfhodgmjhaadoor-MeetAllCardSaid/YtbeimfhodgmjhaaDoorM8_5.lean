/- Functions of the program in the evaluator's form, written out by a program. No conditions. -/
import Derived.Test.YtbeimfhodgmjhaaDoorM8
set_option linter.unusedVariables false
namespace Go.Proofs.YtbeimfhodgmjhaaDoor
open Go Go.Ab
def M5 : MFun :=
 ⟨56, [MRes.tmp 0 8], (MC.reg
 [⟨some 4, MOp.box (Opd.s 0), none⟩,
 ⟨some 5, MOp.box (Opd.s 1), none⟩,
 ⟨some 8, MOp.mv (Opd.c (AV.bool false)), none⟩]).seq
 ((MC.reg
 [⟨some 14, MOp.call 21 [], none⟩,
 ⟨some 9, MOp.mv (Opd.s 14), none⟩]).seq
 (((MC.reg
 [⟨some 15, MOp.mv (Opd.s 9), none⟩,
 ⟨some 16, MOp.un .not (Opd.s 15), none⟩]).seq
 (MC.cond (Opd.s 16)
 ((MC.reg
 [⟨some 8, MOp.mv (Opd.c (AV.bool false)), none⟩]).seq
 MC.ret)
 MC.skip)).seq
 (((MC.reg
 [⟨some 17, MOp.mv (Opd.s 2), none⟩,
 ⟨some 18, MOp.bin .lss (Opd.s 17)
 (Opd.c (AV.int .i64 0)), none⟩,
 ⟨some 19, MOp.mv (Opd.s 18), none⟩,
 ⟨some 20, MOp.mv (Opd.s 2), some (19, false)⟩,
 ⟨some 21, MOp.bin .gtr (Opd.s 20)
 (Opd.c (AV.int .i64 1000)), some (19, false)⟩,
 ⟨some 22, MOp.pick (Opd.s 19) (Opd.c (AV.bool true)) (Opd.s 21), none⟩,
 ⟨some 23, MOp.mv (Opd.s 22), none⟩,
 ⟨some 24, MOp.mv (Opd.s 3), some (23, false)⟩,
 ⟨some 25, MOp.bin .gtr (Opd.s 24)
 (Opd.c (AV.int .i64 1000)), some (23, false)⟩,
 ⟨some 26, MOp.pick (Opd.s 23) (Opd.c (AV.bool true)) (Opd.s 25), none⟩]).seq
 (MC.cond (Opd.s 26)
 (MC.reg
 [⟨some 2, MOp.mv (Opd.c (AV.int .i64 64)), none⟩,
 ⟨some 3, MOp.mv (Opd.c (AV.int .i64 32)), none⟩])
 MC.skip)).seq
 ((MC.reg
 [⟨some 28, MOp.load (some 5) (Opd.s 4), none⟩,
 ⟨some 29, MOp.load (some 5) (Opd.s 5), none⟩,
 ⟨some 30, MOp.call 42 [(0, Opd.s 28), (0, Opd.s 29)], none⟩,
 ⟨some 27, MOp.mv (Opd.s 30), none⟩,
 ⟨some 31, MOp.ext 0 (Opd.s 27), none⟩,
 ⟨some 32, MOp.ext 1 (Opd.s 27), none⟩,
 ⟨some 10, MOp.alloc
 [AV.int .i64 0, AV.int .i64 0,
 AV.int .i64 0, AV.int .i64 0,
 AV.int .i64 0], none⟩,
 ⟨none, MOp.store 5 (Opd.s 10) (Opd.s 31), none⟩,
 ⟨some 11, MOp.mv (Opd.s 32), none⟩]).seq
 ((MC.reg
 [⟨some 34, MOp.load (some 5) (Opd.s 4), none⟩,
 ⟨some 35, MOp.load (some 5) (Opd.s 5), none⟩,
 ⟨some 36, MOp.call 43 [(0, Opd.s 34), (0, Opd.s 35)], none⟩,
 ⟨some 33, MOp.mv (Opd.s 36), none⟩,
 ⟨some 37, MOp.ext 0 (Opd.s 33), none⟩,
 ⟨some 38, MOp.ext 1 (Opd.s 33), none⟩,
 ⟨some 12, MOp.alloc
 [AV.int .i64 0, AV.int .i64 0,
 AV.int .i64 0, AV.int .i64 0,
 AV.int .i64 0], none⟩,
 ⟨none, MOp.store 5 (Opd.s 12) (Opd.s 37), none⟩,
 ⟨some 13, MOp.mv (Opd.s 38), none⟩]).seq
 ((MC.reg
 [⟨some 39, MOp.load (some 5) (Opd.s 10), none⟩,
 ⟨some 40, MOp.load (some 5) (Opd.s 12), none⟩,
 ⟨some 41, MOp.eqv false
 (EqK.flat
 (EqF.many [SK.i, SK.i, SK.i, SK.i, SK.i]))
 (Opd.s 39) (Opd.s 40), none⟩,
 ⟨some 42, MOp.mv (Opd.s 41), none⟩,
 ⟨some 43, MOp.mv (Opd.s 11), some (42, true)⟩,
 ⟨some 44, MOp.mv (Opd.s 13), some (42, true)⟩,
 ⟨some 45, MOp.eqv false (EqK.flat (EqF.one SK.b)) (Opd.s 43)
 (Opd.s 44), some (42, true)⟩,
 ⟨some 46, MOp.pick (Opd.s 42) (Opd.s 45) (Opd.c (AV.bool false)), none⟩,
 ⟨some 47, MOp.mv (Opd.s 46), none⟩,
 ⟨some 48, MOp.mv (Opd.s 2), some (47, true)⟩,
 ⟨some 49, MOp.mv (Opd.s 3), some (47, true)⟩,
 ⟨some 50, MOp.call 44 [(0, Opd.s 48), (0, Opd.s 49)], some (47, true)⟩,
 ⟨some 51, MOp.mv (Opd.s 2), some (47, true)⟩,
 ⟨some 52, MOp.mv (Opd.s 3), some (47, true)⟩,
 ⟨some 53, MOp.call 45 [(0, Opd.s 51), (0, Opd.s 52)], some (47, true)⟩,
 ⟨some 54, MOp.bin .eql (Opd.s 50) (Opd.s 53), some (47, true)⟩,
 ⟨some 55, MOp.pick (Opd.s 47) (Opd.s 54) (Opd.c (AV.bool false)), none⟩,
 ⟨some 8, MOp.mv (Opd.s 55), none⟩]).seq
 MC.ret)))))) ⟩
theorem tab5 : tableOf Tryd.prog 5 = some M5 := by kernel_rfl
end Go.Proofs.YtbeimfhodgmjhaaDoor
