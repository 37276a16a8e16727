/- Functions of the program in the evaluator's form, written out by a program. No conditions. -/
import Derived.Test.YtbeimfhodgmjhaaDoorM8
set_option linter.unusedVariables false
namespace Go.Proofs.YtbeimfhodgmjhaaDoor
open Go Go.Ab
def M18 : MFun :=
 ⟨55, [MRes.tmp 0 4], (MC.reg
 [⟨some 2, MOp.box (Opd.s 0), none⟩,
 ⟨some 4, MOp.mv (Opd.c (AV.bool false)), none⟩]).seq
 ((MC.reg
 [⟨some 12, MOp.call 21 [], none⟩,
 ⟨some 5, MOp.mv (Opd.s 12), none⟩]).seq
 (((MC.reg
 [⟨some 13, MOp.mv (Opd.s 5), none⟩,
 ⟨some 14, MOp.un .not (Opd.s 13), none⟩]).seq
 (MC.cond (Opd.s 14)
 ((MC.reg
 [⟨some 4, MOp.mv (Opd.c (AV.bool false)), none⟩]).seq
 MC.ret)
 MC.skip)).seq
 ((MC.reg
 [⟨some 16, MOp.load (some 5) (Opd.s 2), none⟩,
 ⟨some 17, MOp.call 23 [(0, Opd.s 16)], none⟩,
 ⟨some 15, MOp.mv (Opd.s 17), none⟩,
 ⟨some 18, MOp.ext 0 (Opd.s 15), none⟩,
 ⟨some 19, MOp.ext 1 (Opd.s 15), none⟩,
 ⟨some 6, MOp.mv (Opd.s 18), none⟩,
 ⟨some 7, MOp.mv (Opd.s 19), none⟩]).seq
 (((MC.reg
 [⟨some 20, MOp.mv (Opd.s 7), none⟩,
 ⟨some 21, MOp.un .not (Opd.s 20), none⟩,
 ⟨some 22, MOp.mv (Opd.s 21), none⟩,
 ⟨some 23, MOp.mv (Opd.s 1), some (22, false)⟩,
 ⟨some 24, MOp.bin .lss (Opd.s 23)
 (Opd.c (AV.int .i64 0)), some (22, false)⟩,
 ⟨some 25, MOp.pick (Opd.s 22) (Opd.c (AV.bool true)) (Opd.s 24), none⟩]).seq
 (MC.cond (Opd.s 25)
 ((MC.reg
 [⟨some 26, MOp.mv (Opd.s 7), none⟩,
 ⟨some 27, MOp.load (some 5) (Opd.s 2), none⟩,
 ⟨some 28, MOp.call 58 [(0, Opd.s 27)], none⟩,
 ⟨some 29, MOp.eqv false (EqK.flat (EqF.one SK.b)) (Opd.s 26)
 (Opd.s 28), none⟩,
 ⟨some 4, MOp.mv (Opd.s 29), none⟩]).seq
 MC.ret)
 MC.skip)).seq
 ((MC.reg
 [⟨some 31, MOp.mv (Opd.s 6), none⟩,
 ⟨some 32, MOp.mv (Opd.s 1), none⟩,
 ⟨some 33, MOp.mv (Opd.s 6), none⟩,
 ⟨some 34, MOp.lens (Opd.s 33), none⟩,
 ⟨some 35, MOp.bin .rem (Opd.s 32) (Opd.s 34), none⟩,
 ⟨some 36, MOp.sls (Opd.s 31) none (some (Opd.s 35)), none⟩,
 ⟨some 37, MOp.call 38 [(0, Opd.s 36)], none⟩,
 ⟨some 30, MOp.mv (Opd.s 37), none⟩,
 ⟨some 38, MOp.ext 0 (Opd.s 30), none⟩,
 ⟨some 39, MOp.ext 1 (Opd.s 30), none⟩,
 ⟨some 8, MOp.alloc
 [AV.int .i64 0, AV.int .i64 0,
 AV.int .i64 0, AV.int .i64 0,
 AV.int .i64 0], none⟩,
 ⟨none, MOp.store 5 (Opd.s 8) (Opd.s 38), none⟩,
 ⟨some 9, MOp.mv (Opd.s 39), none⟩]).seq
 ((MC.reg
 [⟨some 41, MOp.mv (Opd.s 6), none⟩,
 ⟨some 42, MOp.call 38 [(0, Opd.s 41)], none⟩,
 ⟨some 40, MOp.mv (Opd.s 42), none⟩,
 ⟨some 43, MOp.ext 0 (Opd.s 40), none⟩,
 ⟨some 44, MOp.ext 1 (Opd.s 40), none⟩,
 ⟨some 10, MOp.alloc
 [AV.int .i64 0, AV.int .i64 0,
 AV.int .i64 0, AV.int .i64 0,
 AV.int .i64 0], none⟩,
 ⟨none, MOp.store 5 (Opd.s 10) (Opd.s 43), none⟩,
 ⟨some 11, MOp.mv (Opd.s 44), none⟩]).seq
 ((MC.reg
 [⟨some 45, MOp.mv (Opd.s 9), none⟩,
 ⟨some 46, MOp.un .not (Opd.s 45), none⟩,
 ⟨some 47, MOp.mv (Opd.s 46), none⟩,
 ⟨some 48, MOp.mv (Opd.s 11), some (47, true)⟩,
 ⟨some 49, MOp.pick (Opd.s 47) (Opd.s 48)
 (Opd.c (AV.bool false)), none⟩,
 ⟨some 50, MOp.mv (Opd.s 49), none⟩,
 ⟨some 51, MOp.load (some 5) (Opd.s 10), some (50, true)⟩,
 ⟨some 52, MOp.load (some 5) (Opd.s 2), some (50, true)⟩,
 ⟨some 53, MOp.eqv false
 (EqK.flat
 (EqF.many [SK.i, SK.i, SK.i, SK.i, SK.i]))
 (Opd.s 51) (Opd.s 52), some (50, true)⟩,
 ⟨some 54, MOp.pick (Opd.s 50) (Opd.s 53)
 (Opd.c (AV.bool false)), none⟩,
 ⟨some 4, MOp.mv (Opd.s 54), none⟩]).seq
 MC.ret))))))) ⟩
theorem tab18 : tableOf Tryd.prog 18 = some M18 := by kernel_rfl
end Go.Proofs.YtbeimfhodgmjhaaDoor
