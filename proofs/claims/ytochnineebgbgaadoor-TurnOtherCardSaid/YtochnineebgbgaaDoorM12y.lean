/- Functions of the program in the evaluator's form, written out by a program. No conditions. -/
import Derived.Test.YtochnineebgbgaaDoorOrder
set_option linter.unusedVariables false
namespace Go.Proofs.YtochnineebgbgaaDoor
open Go Go.Ab
def M17 : MFun :=
 ⟨75, [MRes.tmp 0 6], (MC.reg
 [⟨some 4, MOp.box (Opd.s 1), none⟩,
 ⟨some 5, MOp.box (Opd.s 2), none⟩,
 ⟨some 6, MOp.mv (Opd.c (AV.bool false)), none⟩]).seq
 ((MC.reg
 [⟨some 14, MOp.call 21 [], none⟩,
 ⟨some 7, MOp.mv (Opd.s 14), none⟩]).seq
 (((MC.reg
 [⟨some 15, MOp.mv (Opd.s 7), none⟩,
 ⟨some 16, MOp.un .not (Opd.s 15), none⟩]).seq
 (MC.cond (Opd.s 16)
 ((MC.reg
 [⟨some 6, MOp.mv (Opd.c (AV.bool false)), none⟩]).seq
 MC.ret)
 MC.skip)).seq
 ((MC.reg
 [⟨some 17, MOp.mv (Opd.s 0), none⟩,
 ⟨some 18, MOp.bin .rem (Opd.s 17)
 (Opd.c (AV.int .i64 2)), none⟩,
 ⟨some 19, MOp.bin .add (Opd.s 18)
 (Opd.c (AV.int .i64 2)), none⟩,
 ⟨some 20, MOp.bin .rem (Opd.s 19)
 (Opd.c (AV.int .i64 2)), none⟩,
 ⟨some 21, MOp.bin .add (Opd.c (AV.int .i64 1))
 (Opd.s 20), none⟩,
 ⟨some 0, MOp.mv (Opd.s 21), none⟩]).seq
 ((MC.reg
 [⟨some 22, MOp.fa 3 (Opd.s 4), none⟩,
 ⟨none, MOp.store 1 (Opd.s 22) (Opd.c (AV.int .i64 8)), none⟩]).seq
 ((MC.reg
 [⟨some 23, MOp.mv (Opd.s 0), none⟩,
 ⟨some 24, MOp.load (some 5) (Opd.s 4), none⟩,
 ⟨some 25, MOp.call 39 [(0, Opd.s 23), (0, Opd.s 24)], none⟩,
 ⟨some 8, MOp.mv (Opd.s 25), none⟩]).seq
 ((MC.reg
 [⟨some 26, MOp.mv (Opd.s 8), none⟩,
 ⟨some 27, MOp.call 40
 [(0, Opd.s 26),
 (0, Opd.c (AV.str [(97 : UInt8)]))], none⟩]).seq
 ((MC.reg
 [⟨some 28, MOp.mv (Opd.s 8), none⟩,
 ⟨some 29, MOp.call 43 [(0, Opd.s 28)], none⟩,
 ⟨some 9, MOp.mv (Opd.s 29), none⟩]).seq
 ((MC.reg
 [⟨some 30, MOp.mv (Opd.s 0), none⟩,
 ⟨some 31, MOp.bin .eql (Opd.s 30)
 (Opd.c (AV.int .i64 1)), none⟩,
 ⟨some 32, MOp.fa 2 (Opd.s 5), none⟩,
 ⟨none, MOp.store 1 (Opd.s 32) (Opd.s 31), none⟩]).seq
 ((MC.reg
 [⟨some 34, MOp.mv (Opd.s 8), none⟩,
 ⟨some 35, MOp.load (some 9) (Opd.s 5), none⟩,
 ⟨some 36, MOp.call 49 [(0, Opd.s 34), (0, Opd.s 35)], none⟩,
 ⟨some 33, MOp.mv (Opd.s 36), none⟩,
 ⟨some 37, MOp.ext 0 (Opd.s 33), none⟩,
 ⟨some 38, MOp.ext 1 (Opd.s 33), none⟩,
 ⟨some 10, MOp.mv (Opd.s 37), none⟩,
 ⟨some 11, MOp.mv (Opd.s 38), none⟩]).seq
 ((MC.reg
 [⟨some 39, MOp.fa 2 (Opd.s 5), none⟩,
 ⟨some 40, MOp.load none (Opd.s 39), none⟩,
 ⟨some 41, MOp.un .not (Opd.s 40), none⟩,
 ⟨some 42, MOp.fa 2 (Opd.s 5), none⟩,
 ⟨none, MOp.store 1 (Opd.s 42) (Opd.s 41), none⟩,
 ⟨some 43, MOp.fa 3 (Opd.s 5), none⟩,
 ⟨none, MOp.store 1 (Opd.s 43)
 (Opd.c (AV.int .i64 3)), none⟩]).seq
 ((MC.reg
 [⟨some 45, MOp.mv (Opd.s 8), none⟩,
 ⟨some 46, MOp.load (some 9) (Opd.s 5), none⟩,
 ⟨some 47, MOp.call 49 [(0, Opd.s 45), (0, Opd.s 46)], none⟩,
 ⟨some 44, MOp.mv (Opd.s 47), none⟩,
 ⟨some 48, MOp.ext 0 (Opd.s 44), none⟩,
 ⟨some 49, MOp.ext 1 (Opd.s 44), none⟩,
 ⟨some 12, MOp.mv (Opd.s 48), none⟩,
 ⟨some 13, MOp.mv (Opd.s 49), none⟩]).seq
 ((MC.reg
 [⟨some 50, MOp.mv (Opd.s 11), none⟩,
 ⟨some 51, MOp.un .not (Opd.s 50), none⟩,
 ⟨some 52, MOp.mv (Opd.s 51), none⟩,
 ⟨some 53, MOp.mv (Opd.s 10), some (52, true)⟩,
 ⟨some 54, MOp.bin .eql (Opd.s 53) (Opd.c (AV.str [])), some (52, true)⟩,
 ⟨some 55, MOp.pick (Opd.s 52) (Opd.s 54)
 (Opd.c (AV.bool false)), none⟩,
 ⟨some 56, MOp.mv (Opd.s 55), none⟩,
 ⟨some 57, MOp.mv (Opd.s 13), some (56, true)⟩,
 ⟨some 58, MOp.un .not (Opd.s 57), some (56, true)⟩,
 ⟨some 59, MOp.pick (Opd.s 56) (Opd.s 58)
 (Opd.c (AV.bool false)), none⟩,
 ⟨some 60, MOp.mv (Opd.s 59), none⟩,
 ⟨some 61, MOp.mv (Opd.s 12), some (60, true)⟩,
 ⟨some 62, MOp.bin .eql (Opd.s 61) (Opd.c (AV.str [])), some (60, true)⟩,
 ⟨some 63, MOp.pick (Opd.s 60) (Opd.s 62)
 (Opd.c (AV.bool false)), none⟩,
 ⟨some 64, MOp.mv (Opd.s 63), none⟩,
 ⟨some 65, MOp.mv (Opd.s 8), some (64, true)⟩,
 ⟨some 66, MOp.call 43 [(0, Opd.s 65)], some (64, true)⟩,
 ⟨some 67, MOp.mv (Opd.s 9), some (64, true)⟩,
 ⟨some 68, MOp.eqv false (EqK.flat (EqF.one SK.b))
 (Opd.s 66) (Opd.s 67), some (64, true)⟩,
 ⟨some 69, MOp.pick (Opd.s 64) (Opd.s 68)
 (Opd.c (AV.bool false)), none⟩,
 ⟨some 70, MOp.mv (Opd.s 69), none⟩,
 ⟨some 71, MOp.mv (Opd.s 8), some (70, true)⟩,
 ⟨some 72, MOp.call 46 [(0, Opd.s 71)], some (70, true)⟩,
 ⟨some 73, MOp.bin .eql (Opd.s 72)
 (Opd.c (AV.int .i64 1)), some (70, true)⟩,
 ⟨some 74, MOp.pick (Opd.s 70) (Opd.s 73)
 (Opd.c (AV.bool false)), none⟩,
 ⟨some 6, MOp.mv (Opd.s 74), none⟩]).seq
 MC.ret)))))))))))) ⟩
theorem tab17 : tableOf Tryd.prog 17 = some M17 := by kernel_rfl
end Go.Proofs.YtochnineebgbgaaDoor
