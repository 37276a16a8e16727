/- Functions of the program in the evaluator's form, written out by a program. No conditions. -/
import Derived.Test.YtbeimfhodgmjhaaDoorM8
set_option linter.unusedVariables false
namespace Go.Proofs.YtbeimfhodgmjhaaDoor
open Go Go.Ab
def M20 : MFun :=
 ⟨73, [MRes.tmp 0 8], (MC.reg
 [⟨some 4, MOp.box (Opd.s 0), none⟩,
 ⟨some 5, MOp.box (Opd.s 1), none⟩,
 ⟨some 6, MOp.box (Opd.s 2), none⟩,
 ⟨some 7, MOp.box (Opd.s 3), none⟩,
 ⟨some 8, MOp.mv (Opd.c (AV.bool false)), none⟩]).seq
 ((MC.reg
 [⟨some 18, MOp.call 21 [], none⟩,
 ⟨some 9, MOp.mv (Opd.s 18), none⟩]).seq
 (((MC.reg
 [⟨some 19, MOp.mv (Opd.s 9), none⟩,
 ⟨some 20, MOp.un .not (Opd.s 19), none⟩]).seq
 (MC.cond (Opd.s 20)
 ((MC.reg
 [⟨some 8, MOp.mv (Opd.c (AV.bool false)), none⟩]).seq
 MC.ret)
 MC.skip)).seq
 ((MC.reg
 [⟨some 22, MOp.load (some 9) (Opd.s 4), none⟩,
 ⟨some 23, MOp.call 54 [(0, Opd.s 22)], none⟩,
 ⟨some 21, MOp.mv (Opd.s 23), none⟩,
 ⟨some 24, MOp.ext 0 (Opd.s 21), none⟩,
 ⟨some 25, MOp.ext 1 (Opd.s 21), none⟩,
 ⟨some 10, MOp.mv (Opd.s 24), none⟩,
 ⟨some 11, MOp.mv (Opd.s 25), none⟩]).seq
 ((MC.reg
 [⟨some 27, MOp.load (some 9) (Opd.s 5), none⟩,
 ⟨some 28, MOp.call 54 [(0, Opd.s 27)], none⟩,
 ⟨some 26, MOp.mv (Opd.s 28), none⟩,
 ⟨some 29, MOp.ext 0 (Opd.s 26), none⟩,
 ⟨some 30, MOp.ext 1 (Opd.s 26), none⟩,
 ⟨some 12, MOp.mv (Opd.s 29), none⟩,
 ⟨some 13, MOp.mv (Opd.s 30), none⟩]).seq
 ((MC.reg
 [⟨some 32, MOp.load (some 6) (Opd.s 6), none⟩,
 ⟨some 33, MOp.call 47 [(0, Opd.s 32)], none⟩,
 ⟨some 31, MOp.mv (Opd.s 33), none⟩,
 ⟨some 34, MOp.ext 0 (Opd.s 31), none⟩,
 ⟨some 35, MOp.ext 1 (Opd.s 31), none⟩,
 ⟨some 14, MOp.mv (Opd.s 34), none⟩,
 ⟨some 15, MOp.mv (Opd.s 35), none⟩]).seq
 ((MC.reg
 [⟨some 37, MOp.load (some 6) (Opd.s 7), none⟩,
 ⟨some 38, MOp.call 47 [(0, Opd.s 37)], none⟩,
 ⟨some 36, MOp.mv (Opd.s 38), none⟩,
 ⟨some 39, MOp.ext 0 (Opd.s 36), none⟩,
 ⟨some 40, MOp.ext 1 (Opd.s 36), none⟩,
 ⟨some 16, MOp.mv (Opd.s 39), none⟩,
 ⟨some 17, MOp.mv (Opd.s 40), none⟩]).seq
 ((MC.reg
 [⟨some 41, MOp.mv (Opd.s 11), none⟩,
 ⟨some 42, MOp.un .not (Opd.s 41), none⟩,
 ⟨some 43, MOp.mv (Opd.s 42), none⟩,
 ⟨some 44, MOp.mv (Opd.s 13), some (43, false)⟩,
 ⟨some 45, MOp.un .not (Opd.s 44), some (43, false)⟩,
 ⟨some 46, MOp.pick (Opd.s 43) (Opd.c (AV.bool true))
 (Opd.s 45), none⟩,
 ⟨some 47, MOp.mv (Opd.s 46), none⟩,
 ⟨some 48, MOp.mv (Opd.s 10), some (47, false)⟩,
 ⟨some 49, MOp.mv (Opd.s 12), some (47, false)⟩,
 ⟨some 50, MOp.bin .eql (Opd.s 48) (Opd.s 49), some (47, false)⟩,
 ⟨some 51, MOp.load (some 9) (Opd.s 4), some (47, false)⟩,
 ⟨some 52, MOp.load (some 9) (Opd.s 5), some (47, false)⟩,
 ⟨some 53, MOp.eqv false
 (EqK.flat
 (EqF.many
 [SK.i, SK.i, SK.i, SK.i, SK.i, SK.i,
 SK.i, SK.i, SK.i]))
 (Opd.s 51) (Opd.s 52), some (47, false)⟩,
 ⟨some 54, MOp.eqv false (EqK.flat (EqF.one SK.b)) (Opd.s 50)
 (Opd.s 53), some (47, false)⟩,
 ⟨some 55, MOp.pick (Opd.s 47) (Opd.c (AV.bool true))
 (Opd.s 54), none⟩,
 ⟨some 56, MOp.mv (Opd.s 55), none⟩,
 ⟨some 57, MOp.mv (Opd.s 15), some (56, true)⟩,
 ⟨some 58, MOp.un .not (Opd.s 57), some (56, true)⟩,
 ⟨some 59, MOp.mv (Opd.s 58), some (56, true)⟩,
 ⟨some 60, MOp.mv (Opd.s 17), some (59, false)⟩,
 ⟨some 61, MOp.un .not (Opd.s 60), some (59, false)⟩,
 ⟨some 62, MOp.pick (Opd.s 59) (Opd.c (AV.bool true))
 (Opd.s 61), some (56, true)⟩,
 ⟨some 63, MOp.mv (Opd.s 62), some (56, true)⟩,
 ⟨some 64, MOp.mv (Opd.s 14), some (63, false)⟩,
 ⟨some 65, MOp.mv (Opd.s 16), some (63, false)⟩,
 ⟨some 66, MOp.bin .eql (Opd.s 64) (Opd.s 65), some (63, false)⟩,
 ⟨some 67, MOp.load (some 6) (Opd.s 6), some (63, false)⟩,
 ⟨some 68, MOp.load (some 6) (Opd.s 7), some (63, false)⟩,
 ⟨some 69, MOp.eqv false
 (EqK.flat
 (EqF.many
 [SK.i, SK.i, SK.i, SK.i, SK.b, SK.s]))
 (Opd.s 67) (Opd.s 68), some (63, false)⟩,
 ⟨some 70, MOp.eqv false (EqK.flat (EqF.one SK.b)) (Opd.s 66)
 (Opd.s 69), some (63, false)⟩,
 ⟨some 71, MOp.pick (Opd.s 63) (Opd.c (AV.bool true))
 (Opd.s 70), some (56, true)⟩,
 ⟨some 72, MOp.pick (Opd.s 56) (Opd.s 71)
 (Opd.c (AV.bool false)), none⟩,
 ⟨some 8, MOp.mv (Opd.s 72), none⟩]).seq
 MC.ret))))))) ⟩
theorem tab20 : tableOf Tryd.prog 20 = some M20 := by kernel_rfl
end Go.Proofs.YtbeimfhodgmjhaaDoor
