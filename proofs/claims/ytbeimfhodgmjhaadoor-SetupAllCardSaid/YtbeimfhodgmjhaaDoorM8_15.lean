/- Functions of the program in the evaluator's form, written out by a program. No conditions. -/
import Derived.Test.YtbeimfhodgmjhaaDoorM8
set_option linter.unusedVariables false
namespace Go.Proofs.YtbeimfhodgmjhaaDoor
open Go Go.Ab
def M15 : MFun :=
 ⟨78, [MRes.tmp 0 6], (MC.reg
 [⟨some 3, MOp.box (Opd.s 0), none⟩,
 ⟨some 6, MOp.mv (Opd.c (AV.bool false)), none⟩]).seq
 ((MC.reg
 [⟨some 16, MOp.call 21 [], none⟩,
 ⟨some 7, MOp.mv (Opd.s 16), none⟩]).seq
 (((MC.reg
 [⟨some 17, MOp.mv (Opd.s 7), none⟩,
 ⟨some 18, MOp.un .not (Opd.s 17), none⟩]).seq
 (MC.cond (Opd.s 18)
 ((MC.reg
 [⟨some 6, MOp.mv (Opd.c (AV.bool false)), none⟩]).seq
 MC.ret)
 MC.skip)).seq
 ((MC.reg
 [⟨some 19, MOp.fa 5 (Opd.s 3), none⟩,
 ⟨some 20, MOp.load none (Opd.s 19), none⟩,
 ⟨some 21, MOp.call 22
 [(0, Opd.s 20), (0, Opd.c (AV.int .i64 20))], none⟩,
 ⟨some 22, MOp.fa 5 (Opd.s 3), none⟩,
 ⟨none, MOp.store 1 (Opd.s 22) (Opd.s 21), none⟩]).seq
 ((MC.reg
 [⟨some 24, MOp.load (some 6) (Opd.s 3), none⟩,
 ⟨some 25, MOp.call 47 [(0, Opd.s 24)], none⟩,
 ⟨some 23, MOp.mv (Opd.s 25), none⟩,
 ⟨some 26, MOp.ext 0 (Opd.s 23), none⟩,
 ⟨some 27, MOp.ext 1 (Opd.s 23), none⟩,
 ⟨some 8, MOp.mv (Opd.s 26), none⟩,
 ⟨some 9, MOp.mv (Opd.s 27), none⟩]).seq
 (((MC.reg
 [⟨some 28, MOp.mv (Opd.s 9), none⟩,
 ⟨some 29, MOp.un .not (Opd.s 28), none⟩,
 ⟨some 30, MOp.mv (Opd.s 29), none⟩,
 ⟨some 31, MOp.mv (Opd.s 1), some (30, false)⟩,
 ⟨some 32, MOp.bin .lss (Opd.s 31)
 (Opd.c (AV.int .i64 0)), some (30, false)⟩,
 ⟨some 33, MOp.pick (Opd.s 30) (Opd.c (AV.bool true))
 (Opd.s 32), none⟩]).seq
 (MC.cond (Opd.s 33)
 ((MC.reg
 [⟨some 6, MOp.mv (Opd.c (AV.bool true)), none⟩]).seq
 MC.ret)
 MC.skip)).seq
 ((MC.reg
 [⟨some 34, MOp.mv (Opd.s 8), none⟩,
 ⟨some 35, MOp.conv Cv.s2h (Opd.s 34), none⟩,
 ⟨some 10, MOp.mv (Opd.s 35), none⟩]).seq
 ((MC.reg
 [⟨some 36, MOp.mv (Opd.s 10), none⟩,
 ⟨some 37, MOp.mv (Opd.s 1), none⟩,
 ⟨some 38, MOp.mv (Opd.s 10), none⟩,
 ⟨some 39, MOp.len (Opd.s 38), none⟩,
 ⟨some 40, MOp.bin .rem (Opd.s 37) (Opd.s 39), none⟩,
 ⟨some 41, MOp.ixa 1 (Opd.s 36) (Opd.s 40), none⟩,
 ⟨some 42, MOp.load none (Opd.s 41), none⟩,
 ⟨some 11, MOp.mv (Opd.s 42), none⟩]).seq
 ((MC.reg
 [⟨some 43, MOp.mv (Opd.s 10), none⟩,
 ⟨some 44, MOp.mv (Opd.s 1), none⟩,
 ⟨some 45, MOp.mv (Opd.s 10), none⟩,
 ⟨some 46, MOp.len (Opd.s 45), none⟩,
 ⟨some 47, MOp.bin .rem (Opd.s 44) (Opd.s 46), none⟩,
 ⟨some 48, MOp.mv (Opd.s 2), none⟩,
 ⟨some 49, MOp.ixa 1 (Opd.s 43) (Opd.s 47), none⟩,
 ⟨none, MOp.store 1 (Opd.s 49) (Opd.s 48), none⟩]).seq
 ((MC.reg
 [⟨some 51, MOp.mv (Opd.s 10), none⟩,
 ⟨some 52, MOp.conv Cv.b2s (Opd.s 51), none⟩,
 ⟨some 53, MOp.call 50 [(0, Opd.s 52)], none⟩,
 ⟨some 50, MOp.mv (Opd.s 53), none⟩,
 ⟨some 54, MOp.ext 0 (Opd.s 50), none⟩,
 ⟨some 55, MOp.ext 1 (Opd.s 50), none⟩,
 ⟨some 12, MOp.alloc
 [AV.int .u32 0,
 AV.int .u32 0,
 AV.int .i64 0,
 AV.int .i64 0, AV.bool false,
 AV.str []], none⟩,
 ⟨none, MOp.store 6 (Opd.s 12) (Opd.s 54), none⟩,
 ⟨some 13, MOp.mv (Opd.s 55), none⟩]).seq
 ((MC.reg
 [⟨some 57, MOp.load (some 6) (Opd.s 12), none⟩,
 ⟨some 58, MOp.call 47 [(0, Opd.s 57)], none⟩,
 ⟨some 56, MOp.mv (Opd.s 58), none⟩,
 ⟨some 59, MOp.ext 0 (Opd.s 56), none⟩,
 ⟨some 60, MOp.ext 1 (Opd.s 56), none⟩,
 ⟨some 14, MOp.mv (Opd.s 59), none⟩,
 ⟨some 15, MOp.mv (Opd.s 60), none⟩]).seq
 ((MC.reg
 [⟨some 61, MOp.mv (Opd.s 13), none⟩,
 ⟨some 62, MOp.un .not (Opd.s 61), none⟩,
 ⟨some 63, MOp.mv (Opd.s 62), none⟩,
 ⟨some 64, MOp.load (some 6) (Opd.s 12), some (63, false)⟩,
 ⟨some 65, MOp.load (some 6) (Opd.s 3), some (63, false)⟩,
 ⟨some 66, MOp.eqv false
 (EqK.flat
 (EqF.many
 [SK.i, SK.i, SK.i, SK.i, SK.b, SK.s]))
 (Opd.s 64) (Opd.s 65), some (63, false)⟩,
 ⟨some 67, MOp.mv (Opd.s 11), some (63, false)⟩,
 ⟨some 68, MOp.mv (Opd.s 2), some (63, false)⟩,
 ⟨some 69, MOp.bin .eql (Opd.s 67) (Opd.s 68), some (63, false)⟩,
 ⟨some 70, MOp.eqv false (EqK.flat (EqF.one SK.b))
 (Opd.s 66) (Opd.s 69), some (63, false)⟩,
 ⟨some 71, MOp.mv (Opd.s 70), some (63, false)⟩,
 ⟨some 72, MOp.mv (Opd.s 14), some (71, true)⟩,
 ⟨some 73, MOp.mv (Opd.s 10), some (71, true)⟩,
 ⟨some 74, MOp.conv Cv.b2s (Opd.s 73), some (71, true)⟩,
 ⟨some 75, MOp.bin .eql (Opd.s 72) (Opd.s 74), some (71, true)⟩,
 ⟨some 76, MOp.pick (Opd.s 71) (Opd.s 75)
 (Opd.c (AV.bool false)), some (63, false)⟩,
 ⟨some 77, MOp.pick (Opd.s 63) (Opd.c (AV.bool true))
 (Opd.s 76), none⟩,
 ⟨some 6, MOp.mv (Opd.s 77), none⟩]).seq
 MC.ret))))))))))) ⟩
theorem tab15 : tableOf Tryd.prog 15 = some M15 := by kernel_rfl
end Go.Proofs.YtbeimfhodgmjhaaDoor
