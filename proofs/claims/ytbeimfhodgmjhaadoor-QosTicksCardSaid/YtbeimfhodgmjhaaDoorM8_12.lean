/- Functions of the program in the evaluator's form, written out by a program. No conditions. -/
import Derived.Test.YtbeimfhodgmjhaaDoorM8
set_option linter.unusedVariables false
namespace Go.Proofs.YtbeimfhodgmjhaaDoor
open Go Go.Ab
def M12 : MFun :=
 ⟨52, [MRes.tmp 0 4], (MC.reg
 [⟨some 4, MOp.mv (Opd.c (AV.bool false)), none⟩]).seq
 ((MC.reg
 [⟨some 7, MOp.call 21 [], none⟩,
 ⟨some 5, MOp.mv (Opd.s 7), none⟩]).seq
 (((MC.reg
 [⟨some 8, MOp.mv (Opd.s 5), none⟩,
 ⟨some 9, MOp.un .not (Opd.s 8), none⟩]).seq
 (MC.cond (Opd.s 9)
 ((MC.reg
 [⟨some 4, MOp.mv (Opd.c (AV.bool false)), none⟩]).seq
 MC.ret)
 MC.skip)).seq
 ((MC.reg
 [⟨some 10, MOp.mv (Opd.s 0), none⟩,
 ⟨some 11, MOp.bin .and (Opd.s 10)
 (Opd.c (AV.int .i64 65535)), none⟩,
 ⟨some 12, MOp.bin .add (Opd.c (AV.int .i64 1))
 (Opd.s 11), none⟩,
 ⟨some 13, MOp.mv (Opd.s 1), none⟩,
 ⟨some 14, MOp.bin .and (Opd.s 13)
 (Opd.c (AV.int .i64 255)), none⟩,
 ⟨some 15, MOp.bin .add (Opd.c (AV.int .i64 1))
 (Opd.s 14), none⟩,
 ⟨some 0, MOp.mv (Opd.s 12), none⟩,
 ⟨some 1, MOp.mv (Opd.s 15), none⟩]).seq
 ((MC.reg
 [⟨some 16, MOp.mv (Opd.s 0), none⟩,
 ⟨some 17, MOp.mv (Opd.s 1), none⟩,
 ⟨some 18, MOp.call 36 [(0, Opd.s 16), (0, Opd.s 17)], none⟩,
 ⟨some 6, MOp.mv (Opd.s 18), none⟩]).seq
 ((MC.reg
 [⟨some 19, MOp.mv (Opd.s 6), none⟩,
 ⟨some 20, MOp.bin .geq (Opd.s 19)
 (Opd.c (AV.int .i64 1)), none⟩,
 ⟨some 21, MOp.mv (Opd.s 20), none⟩,
 ⟨some 22, MOp.mv (Opd.s 6), some (21, true)⟩,
 ⟨some 23, MOp.mv (Opd.s 1), some (21, true)⟩,
 ⟨some 24, MOp.bin .mul (Opd.s 22) (Opd.s 23), some (21, true)⟩,
 ⟨some 25, MOp.mv (Opd.s 0), some (21, true)⟩,
 ⟨some 26, MOp.bin .geq (Opd.s 24) (Opd.s 25), some (21, true)⟩,
 ⟨some 27, MOp.pick (Opd.s 21) (Opd.s 26) (Opd.c (AV.bool false)), none⟩,
 ⟨some 28, MOp.mv (Opd.s 27), none⟩,
 ⟨some 29, MOp.mv (Opd.s 6), some (28, true)⟩,
 ⟨some 30, MOp.bin .sub (Opd.s 29)
 (Opd.c (AV.int .i64 1)), some (28, true)⟩,
 ⟨some 31, MOp.mv (Opd.s 1), some (28, true)⟩,
 ⟨some 32, MOp.bin .mul (Opd.s 30) (Opd.s 31), some (28, true)⟩,
 ⟨some 33, MOp.mv (Opd.s 0), some (28, true)⟩,
 ⟨some 34, MOp.bin .lss (Opd.s 32) (Opd.s 33), some (28, true)⟩,
 ⟨some 35, MOp.pick (Opd.s 28) (Opd.s 34) (Opd.c (AV.bool false)), none⟩,
 ⟨some 36, MOp.mv (Opd.s 35), none⟩,
 ⟨some 37, MOp.mv (Opd.s 0), some (36, true)⟩,
 ⟨some 38, MOp.mv (Opd.s 1), some (36, true)⟩,
 ⟨some 39, MOp.bin .mul (Opd.c (AV.int .i64 2))
 (Opd.s 38), some (36, true)⟩,
 ⟨some 40, MOp.call 36 [(0, Opd.s 37), (0, Opd.s 39)], some (36, true)⟩,
 ⟨some 41, MOp.mv (Opd.s 6), some (36, true)⟩,
 ⟨some 42, MOp.bin .leq (Opd.s 40) (Opd.s 41), some (36, true)⟩,
 ⟨some 43, MOp.pick (Opd.s 36) (Opd.s 42) (Opd.c (AV.bool false)), none⟩,
 ⟨some 44, MOp.mv (Opd.s 43), none⟩,
 ⟨some 45, MOp.mv (Opd.s 0), some (44, true)⟩,
 ⟨some 46, MOp.bin .add (Opd.s 45)
 (Opd.c (AV.int .i64 1)), some (44, true)⟩,
 ⟨some 47, MOp.mv (Opd.s 1), some (44, true)⟩,
 ⟨some 48, MOp.call 36 [(0, Opd.s 46), (0, Opd.s 47)], some (44, true)⟩,
 ⟨some 49, MOp.mv (Opd.s 6), some (44, true)⟩,
 ⟨some 50, MOp.bin .geq (Opd.s 48) (Opd.s 49), some (44, true)⟩,
 ⟨some 51, MOp.pick (Opd.s 44) (Opd.s 50) (Opd.c (AV.bool false)), none⟩,
 ⟨some 4, MOp.mv (Opd.s 51), none⟩]).seq
 MC.ret))))) ⟩
theorem tab12 : tableOf Tryd.prog 12 = some M12 := by kernel_rfl
end Go.Proofs.YtbeimfhodgmjhaaDoor
