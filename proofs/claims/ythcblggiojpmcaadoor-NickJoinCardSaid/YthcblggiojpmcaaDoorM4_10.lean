/- Functions of the program in the evaluator's form, written out by a program. No conditions. -/
import Derived.Test.YthcblggiojpmcaaDoorM4n
set_option linter.unusedVariables false
namespace Go.Proofs.YthcblggiojpmcaaDoor
open Go Go.Ab
def M10 : MFun :=
 ⟨56, [MRes.tmp 0 4], (MC.reg
 [⟨some 4, MOp.mv (Opd.c (AV.bool false)), none⟩]).seq
 ((MC.reg
 [⟨some 6, MOp.call 20 [], none⟩,
 ⟨some 5, MOp.mv (Opd.s 6), none⟩]).seq
 (((MC.reg
 [⟨some 7, MOp.mv (Opd.s 5), none⟩,
 ⟨some 8, MOp.un .not (Opd.s 7), none⟩]).seq
 (MC.cond (Opd.s 8)
 ((MC.reg
 [⟨some 4, MOp.mv (Opd.c (AV.bool false)), none⟩]).seq
 MC.ret)
 MC.skip)).seq
 ((MC.reg
 [⟨some 9, MOp.mv (Opd.s 0), none⟩,
 ⟨some 10, MOp.call 21
 [(0, Opd.s 9), (0, Opd.c (AV.int .i64 20))], none⟩,
 ⟨some 11, MOp.mv (Opd.s 1), none⟩,
 ⟨some 12, MOp.call 21
 [(0, Opd.s 11), (0, Opd.c (AV.int .i64 20))], none⟩,
 ⟨some 0, MOp.mv (Opd.s 10), none⟩,
 ⟨some 1, MOp.mv (Opd.s 12), none⟩]).seq
 (((MC.reg
 [⟨some 13, MOp.mv (Opd.s 0), none⟩,
 ⟨some 14, MOp.call 22 [(0, Opd.s 13)], none⟩,
 ⟨some 15, MOp.un .not (Opd.s 14), none⟩,
 ⟨some 16, MOp.mv (Opd.s 15), none⟩,
 ⟨some 17, MOp.mv (Opd.s 1), some (16, false)⟩,
 ⟨some 18, MOp.call 22 [(0, Opd.s 17)], some (16, false)⟩,
 ⟨some 19, MOp.un .not (Opd.s 18), some (16, false)⟩,
 ⟨some 20, MOp.pick (Opd.s 16) (Opd.c (AV.bool true)) (Opd.s 19), none⟩]).seq
 (MC.cond (Opd.s 20)
 ((MC.reg
 [⟨some 4, MOp.mv (Opd.c (AV.bool true)), none⟩]).seq
 MC.ret)
 MC.skip)).seq
 ((MC.reg
 [⟨some 21, MOp.mv (Opd.s 0), none⟩,
 ⟨some 22, MOp.mv (Opd.s 1), none⟩,
 ⟨some 23, MOp.bin .add (Opd.s 21) (Opd.s 22), none⟩,
 ⟨some 24, MOp.call 22 [(0, Opd.s 23)], none⟩,
 ⟨some 25, MOp.mv (Opd.s 0), none⟩,
 ⟨some 26, MOp.lens (Opd.s 25), none⟩,
 ⟨some 27, MOp.mv (Opd.s 1), none⟩,
 ⟨some 28, MOp.lens (Opd.s 27), none⟩,
 ⟨some 29, MOp.bin .add (Opd.s 26) (Opd.s 28), none⟩,
 ⟨some 30, MOp.bin .leq (Opd.s 29)
 (Opd.c (AV.int .i64 20)), none⟩,
 ⟨some 31, MOp.eqv false (EqK.flat (EqF.one SK.b)) (Opd.s 24)
 (Opd.s 30), none⟩,
 ⟨some 32, MOp.mv (Opd.s 31), none⟩,
 ⟨some 33, MOp.mv (Opd.s 0), some (32, true)⟩,
 ⟨some 34, MOp.mv (Opd.s 1), some (32, true)⟩,
 ⟨some 35, MOp.bin .add (Opd.s 33) (Opd.s 34), some (32, true)⟩,
 ⟨some 36, MOp.call 24 [(0, Opd.s 35)], some (32, true)⟩,
 ⟨some 37, MOp.mv (Opd.s 0), some (32, true)⟩,
 ⟨some 38, MOp.call 24 [(0, Opd.s 37)], some (32, true)⟩,
 ⟨some 39, MOp.mv (Opd.s 1), some (32, true)⟩,
 ⟨some 40, MOp.call 24 [(0, Opd.s 39)], some (32, true)⟩,
 ⟨some 41, MOp.bin .add (Opd.s 38) (Opd.s 40), some (32, true)⟩,
 ⟨some 42, MOp.bin .eql (Opd.s 36) (Opd.s 41), some (32, true)⟩,
 ⟨some 43, MOp.pick (Opd.s 32) (Opd.s 42) (Opd.c (AV.bool false)), none⟩,
 ⟨some 44, MOp.mv (Opd.s 43), none⟩,
 ⟨some 45, MOp.mv (Opd.s 0), some (44, true)⟩,
 ⟨some 46, MOp.mv (Opd.s 1), some (44, true)⟩,
 ⟨some 47, MOp.bin .add (Opd.s 45) (Opd.s 46), some (44, true)⟩,
 ⟨some 48, MOp.call 28 [(0, Opd.s 47)], some (44, true)⟩,
 ⟨some 49, MOp.mv (Opd.s 0), some (44, true)⟩,
 ⟨some 50, MOp.call 28 [(0, Opd.s 49)], some (44, true)⟩,
 ⟨some 51, MOp.mv (Opd.s 1), some (44, true)⟩,
 ⟨some 52, MOp.call 28 [(0, Opd.s 51)], some (44, true)⟩,
 ⟨some 53, MOp.bin .add (Opd.s 50) (Opd.s 52), some (44, true)⟩,
 ⟨some 54, MOp.bin .eql (Opd.s 48) (Opd.s 53), some (44, true)⟩,
 ⟨some 55, MOp.pick (Opd.s 44) (Opd.s 54) (Opd.c (AV.bool false)), none⟩,
 ⟨some 4, MOp.mv (Opd.s 55), none⟩]).seq
 MC.ret))))) ⟩
theorem tab10 : tableOf Tryd.prog 10 = some M10 := by kernel_rfl
end Go.Proofs.YthcblggiojpmcaaDoor
