/- Functions of the program in the evaluator's form, written out by a program. No conditions. -/
import Derived.Test.YtbeimfhodgmjhaaDoorM8
set_option linter.unusedVariables false
namespace Go.Proofs.YtbeimfhodgmjhaaDoor
open Go Go.Ab
def M11 : MFun :=
 ⟨55, [MRes.tmp 0 2], (MC.reg
 [⟨some 2, MOp.mv (Opd.c (AV.bool false)), none⟩]).seq
 ((MC.reg
 [⟨some 6, MOp.call 21 [], none⟩,
 ⟨some 3, MOp.mv (Opd.s 6), none⟩]).seq
 (((MC.reg
 [⟨some 7, MOp.mv (Opd.s 3), none⟩,
 ⟨some 8, MOp.un .not (Opd.s 7), none⟩]).seq
 (MC.cond (Opd.s 8)
 ((MC.reg
 [⟨some 2, MOp.mv (Opd.c (AV.bool false)), none⟩]).seq
 MC.ret)
 MC.skip)).seq
 ((MC.reg
 [⟨some 9, MOp.mv (Opd.s 0), none⟩,
 ⟨some 10, MOp.bin .and (Opd.s 9)
 (Opd.c (AV.int .i64 65535)), none⟩,
 ⟨some 0, MOp.mv (Opd.s 10), none⟩]).seq
 ((MC.reg
 [⟨some 11, MOp.mv (Opd.s 0), none⟩,
 ⟨some 12, MOp.call 26 [(0, Opd.s 11)], none⟩,
 ⟨some 13, MOp.mv (Opd.s 0), none⟩,
 ⟨some 14, MOp.call 28 [(0, Opd.s 13)], none⟩,
 ⟨some 4, MOp.mv (Opd.s 12), none⟩,
 ⟨some 5, MOp.mv (Opd.s 14), none⟩]).seq
 (((MC.reg
 [⟨some 15, MOp.mv (Opd.s 0), none⟩,
 ⟨some 16, MOp.bin .eql (Opd.s 15)
 (Opd.c (AV.int .i64 0)), none⟩]).seq
 (MC.cond (Opd.s 16)
 ((MC.reg
 [⟨some 17, MOp.mv (Opd.s 4), none⟩,
 ⟨some 18, MOp.bin .eql (Opd.s 17)
 (Opd.c (AV.int .i64 (-1))), none⟩,
 ⟨some 19, MOp.mv (Opd.s 18), none⟩,
 ⟨some 20, MOp.mv (Opd.s 5), some (19, true)⟩,
 ⟨some 21, MOp.bin .eql (Opd.s 20)
 (Opd.c (AV.int .i64 (-1))), some (19, true)⟩,
 ⟨some 22, MOp.pick (Opd.s 19) (Opd.s 21)
 (Opd.c (AV.bool false)), none⟩,
 ⟨some 2, MOp.mv (Opd.s 22), none⟩]).seq
 MC.ret)
 MC.skip)).seq
 ((MC.reg
 [⟨some 23, MOp.mv (Opd.s 4), none⟩,
 ⟨some 24, MOp.mv (Opd.s 5), none⟩,
 ⟨some 25, MOp.bin .geq (Opd.s 23) (Opd.s 24), none⟩,
 ⟨some 26, MOp.mv (Opd.s 25), none⟩,
 ⟨some 27, MOp.mv (Opd.s 5), some (26, true)⟩,
 ⟨some 28, MOp.bin .geq (Opd.s 27)
 (Opd.c (AV.int .i64 0)), some (26, true)⟩,
 ⟨some 29, MOp.pick (Opd.s 26) (Opd.s 28) (Opd.c (AV.bool false)), none⟩,
 ⟨some 30, MOp.mv (Opd.s 29), none⟩,
 ⟨some 31, MOp.mv (Opd.s 4), some (30, true)⟩,
 ⟨some 32, MOp.bin .leq (Opd.s 31)
 (Opd.c (AV.int .i64 15)), some (30, true)⟩,
 ⟨some 33, MOp.pick (Opd.s 30) (Opd.s 32) (Opd.c (AV.bool false)), none⟩,
 ⟨some 34, MOp.mv (Opd.s 33), none⟩,
 ⟨some 35, MOp.mv (Opd.s 0), some (34, true)⟩,
 ⟨some 36, MOp.mv (Opd.s 4), some (34, true)⟩,
 ⟨some 37, MOp.bin .shr (Opd.s 35) (Opd.s 36), some (34, true)⟩,
 ⟨some 38, MOp.bin .eql (Opd.s 37)
 (Opd.c (AV.int .i64 1)), some (34, true)⟩,
 ⟨some 39, MOp.pick (Opd.s 34) (Opd.s 38) (Opd.c (AV.bool false)), none⟩,
 ⟨some 40, MOp.mv (Opd.s 39), none⟩,
 ⟨some 41, MOp.mv (Opd.s 0), some (40, true)⟩,
 ⟨some 42, MOp.mv (Opd.s 5), some (40, true)⟩,
 ⟨some 43, MOp.bin .shr (Opd.s 41) (Opd.s 42), some (40, true)⟩,
 ⟨some 44, MOp.bin .and (Opd.s 43)
 (Opd.c (AV.int .i64 1)), some (40, true)⟩,
 ⟨some 45, MOp.bin .eql (Opd.s 44)
 (Opd.c (AV.int .i64 1)), some (40, true)⟩,
 ⟨some 46, MOp.pick (Opd.s 40) (Opd.s 45) (Opd.c (AV.bool false)), none⟩,
 ⟨some 47, MOp.mv (Opd.s 46), none⟩,
 ⟨some 48, MOp.mv (Opd.s 0), some (47, true)⟩,
 ⟨some 49, MOp.mv (Opd.s 5), some (47, true)⟩,
 ⟨some 50, MOp.bin .shl (Opd.c (AV.int .i64 1))
 (Opd.s 49), some (47, true)⟩,
 ⟨some 51, MOp.bin .sub (Opd.s 50)
 (Opd.c (AV.int .i64 1)), some (47, true)⟩,
 ⟨some 52, MOp.bin .and (Opd.s 48) (Opd.s 51), some (47, true)⟩,
 ⟨some 53, MOp.bin .eql (Opd.s 52)
 (Opd.c (AV.int .i64 0)), some (47, true)⟩,
 ⟨some 54, MOp.pick (Opd.s 47) (Opd.s 53) (Opd.c (AV.bool false)), none⟩,
 ⟨some 2, MOp.mv (Opd.s 54), none⟩]).seq
 MC.ret)))))) ⟩
theorem tab11 : tableOf Tryd.prog 11 = some M11 := by kernel_rfl
end Go.Proofs.YtbeimfhodgmjhaaDoor
