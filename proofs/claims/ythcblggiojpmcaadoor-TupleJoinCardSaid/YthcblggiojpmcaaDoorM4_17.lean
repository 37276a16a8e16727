/- Functions of the program in the evaluator's form, written out by a program. No conditions. -/
import Derived.Test.YthcblggiojpmcaaDoorM4n
set_option linter.unusedVariables false
namespace Go.Proofs.YthcblggiojpmcaaDoor
open Go Go.Ab
def M17 : MFun :=
 ⟨86, [MRes.tmp 0 4], (MC.reg
 [⟨some 4, MOp.mv (Opd.c (AV.bool false)), none⟩]).seq
 ((MC.reg
 [⟨some 14, MOp.call 20 [], none⟩,
 ⟨some 5, MOp.mv (Opd.s 14), none⟩]).seq
 (((MC.reg
 [⟨some 15, MOp.mv (Opd.s 5), none⟩,
 ⟨some 16, MOp.un .not (Opd.s 15), none⟩]).seq
 (MC.cond (Opd.s 16)
 ((MC.reg
 [⟨some 4, MOp.mv (Opd.c (AV.bool false)), none⟩]).seq
 MC.ret)
 MC.skip)).seq
 ((MC.reg
 [⟨some 17, MOp.mv (Opd.s 0), none⟩,
 ⟨some 18, MOp.call 50 [(2, Opd.s 17)], none⟩,
 ⟨some 19, MOp.mv (Opd.s 1), none⟩,
 ⟨some 20, MOp.call 50 [(2, Opd.s 19)], none⟩,
 ⟨some 0, MOp.mv (Opd.s 18), none⟩,
 ⟨some 1, MOp.mv (Opd.s 20), none⟩]).seq
 ((MC.reg
 [⟨some 22, MOp.mv (Opd.s 0), none⟩,
 ⟨some 23, MOp.call 51 [(2, Opd.s 22)], none⟩,
 ⟨some 21, MOp.mv (Opd.s 23), none⟩,
 ⟨some 24, MOp.ext 0 (Opd.s 21), none⟩,
 ⟨some 25, MOp.ext 1 (Opd.s 21), none⟩,
 ⟨some 6, MOp.mv (Opd.s 24), none⟩,
 ⟨some 7, MOp.mv (Opd.s 25), none⟩]).seq
 ((MC.reg
 [⟨some 27, MOp.mv (Opd.s 1), none⟩,
 ⟨some 28, MOp.call 51 [(2, Opd.s 27)], none⟩,
 ⟨some 26, MOp.mv (Opd.s 28), none⟩,
 ⟨some 29, MOp.ext 0 (Opd.s 26), none⟩,
 ⟨some 30, MOp.ext 1 (Opd.s 26), none⟩,
 ⟨some 8, MOp.mv (Opd.s 29), none⟩,
 ⟨some 9, MOp.mv (Opd.s 30), none⟩]).seq
 (((MC.reg
 [⟨some 31, MOp.mv (Opd.s 7), none⟩,
 ⟨some 32, MOp.un .not (Opd.s 31), none⟩,
 ⟨some 33, MOp.mv (Opd.s 32), none⟩,
 ⟨some 34, MOp.mv (Opd.s 9), some (33, false)⟩,
 ⟨some 35, MOp.un .not (Opd.s 34), some (33, false)⟩,
 ⟨some 36, MOp.pick (Opd.s 33) (Opd.c (AV.bool true))
 (Opd.s 35), none⟩]).seq
 (MC.cond (Opd.s 36)
 ((MC.reg
 [⟨some 4, MOp.mv (Opd.c (AV.bool true)), none⟩]).seq
 MC.ret)
 MC.skip)).seq
 ((MC.reg
 [⟨some 38, MOp.mv (Opd.s 0), none⟩,
 ⟨some 39, MOp.app false 2 24 (Opd.c AV.nils) (Opd.s 38), none⟩,
 ⟨some 40, MOp.mv (Opd.s 1), none⟩,
 ⟨some 41, MOp.app false 2 24 (Opd.s 39) (Opd.s 40), none⟩,
 ⟨some 42, MOp.call 51 [(2, Opd.s 41)], none⟩,
 ⟨some 37, MOp.mv (Opd.s 42), none⟩,
 ⟨some 43, MOp.ext 0 (Opd.s 37), none⟩,
 ⟨some 44, MOp.ext 1 (Opd.s 37), none⟩,
 ⟨some 10, MOp.mv (Opd.s 43), none⟩,
 ⟨some 11, MOp.mv (Opd.s 44), none⟩]).seq
 ((MC.reg
 [⟨some 46, MOp.mv (Opd.s 6), none⟩,
 ⟨some 47, MOp.mv (Opd.s 8), none⟩,
 ⟨some 48, MOp.bin .add (Opd.s 46) (Opd.s 47), none⟩,
 ⟨some 49, MOp.call 53 [(0, Opd.s 48)], none⟩,
 ⟨some 45, MOp.mv (Opd.s 49), none⟩,
 ⟨some 50, MOp.ext 0 (Opd.s 45), none⟩,
 ⟨some 51, MOp.ext 1 (Opd.s 45), none⟩,
 ⟨some 12, MOp.mv (Opd.s 50), none⟩,
 ⟨some 13, MOp.mv (Opd.s 51), none⟩]).seq
 ((MC.reg
 [⟨some 52, MOp.mv (Opd.s 11), none⟩,
 ⟨some 53, MOp.mv (Opd.s 6), none⟩,
 ⟨some 54, MOp.lens (Opd.s 53), none⟩,
 ⟨some 55, MOp.mv (Opd.s 8), none⟩,
 ⟨some 56, MOp.lens (Opd.s 55), none⟩,
 ⟨some 57, MOp.bin .add (Opd.s 54) (Opd.s 56), none⟩,
 ⟨some 58, MOp.bin .leq (Opd.s 57)
 (Opd.c (AV.int .i64 64)), none⟩,
 ⟨some 59, MOp.eqv false (EqK.flat (EqF.one SK.b))
 (Opd.s 52) (Opd.s 58), none⟩,
 ⟨some 60, MOp.mv (Opd.s 59), none⟩,
 ⟨some 61, MOp.mv (Opd.s 13), some (60, true)⟩,
 ⟨some 62, MOp.mv (Opd.s 11), some (60, true)⟩,
 ⟨some 63, MOp.eqv false (EqK.flat (EqF.one SK.b))
 (Opd.s 61) (Opd.s 62), some (60, true)⟩,
 ⟨some 64, MOp.pick (Opd.s 60) (Opd.s 63)
 (Opd.c (AV.bool false)), none⟩,
 ⟨some 65, MOp.mv (Opd.s 64), none⟩,
 ⟨some 66, MOp.mv (Opd.s 11), some (65, true)⟩,
 ⟨some 67, MOp.un .not (Opd.s 66), some (65, true)⟩,
 ⟨some 68, MOp.mv (Opd.s 67), some (65, true)⟩,
 ⟨some 69, MOp.mv (Opd.s 10), some (68, false)⟩,
 ⟨some 70, MOp.mv (Opd.s 6), some (68, false)⟩,
 ⟨some 71, MOp.mv (Opd.s 8), some (68, false)⟩,
 ⟨some 72, MOp.bin .add (Opd.s 70) (Opd.s 71), some (68, false)⟩,
 ⟨some 73, MOp.bin .eql (Opd.s 69) (Opd.s 72), some (68, false)⟩,
 ⟨some 74, MOp.mv (Opd.s 73), some (68, false)⟩,
 ⟨some 75, MOp.mv (Opd.s 12), some (74, true)⟩,
 ⟨some 76, MOp.len (Opd.s 75), some (74, true)⟩,
 ⟨some 77, MOp.mv (Opd.s 0), some (74, true)⟩,
 ⟨some 78, MOp.len (Opd.s 77), some (74, true)⟩,
 ⟨some 79, MOp.mv (Opd.s 1), some (74, true)⟩,
 ⟨some 80, MOp.len (Opd.s 79), some (74, true)⟩,
 ⟨some 81, MOp.bin .add (Opd.s 78) (Opd.s 80), some (74, true)⟩,
 ⟨some 82, MOp.bin .eql (Opd.s 76) (Opd.s 81), some (74, true)⟩,
 ⟨some 83, MOp.pick (Opd.s 74) (Opd.s 82)
 (Opd.c (AV.bool false)), some (68, false)⟩,
 ⟨some 84, MOp.pick (Opd.s 68) (Opd.c (AV.bool true))
 (Opd.s 83), some (65, true)⟩,
 ⟨some 85, MOp.pick (Opd.s 65) (Opd.s 84)
 (Opd.c (AV.bool false)), none⟩,
 ⟨some 4, MOp.mv (Opd.s 85), none⟩]).seq
 MC.ret))))))))) ⟩
theorem tab17 : tableOf Tryd.prog 17 = some M17 := by kernel_rfl
end Go.Proofs.YthcblggiojpmcaaDoor
