/- Functions of the program in the evaluator's form, written out by a program. No conditions. -/
import Derived.Test.YthcblggiojpmcaaDoorM4n
set_option linter.unusedVariables false
namespace Go.Proofs.YthcblggiojpmcaaDoor
open Go Go.Ab
def M8b0 : MC :=
 ((MC.reg
 [⟨some 65, MOp.bin .lss (Opd.s 64) (Opd.s 63), none⟩]).seq
 ((MC.cond (Opd.s 65) MC.skip (MC.exit 0)).seq
 ((MC.block 1
 ((MC.reg
 [⟨some 66, MOp.mv (Opd.s 64), none⟩,
 ⟨some 16, MOp.mv (Opd.s 66), none⟩]).seq
 ((MC.reg
 [⟨some 67, MOp.mv (Opd.s 0), none⟩,
 ⟨some 68, MOp.mv (Opd.s 16), none⟩,
 ⟨some 69, MOp.ixa 2 (Opd.s 67) (Opd.s 68), none⟩,
 ⟨some 70, MOp.fa 0 (Opd.s 69), none⟩,
 ⟨some 71, MOp.load none (Opd.s 70), none⟩,
 ⟨some 72, MOp.mv (Opd.s 2), none⟩,
 ⟨some 73, MOp.bin .eql (Opd.s 71)
 (Opd.s 72), none⟩]).seq
 (MC.cond (Opd.s 73)
 ((MC.reg
 [⟨some 74, MOp.mv (Opd.s 15), none⟩,
 ⟨some 75, MOp.mv (Opd.s 74), none⟩,
 ⟨some 76, MOp.mv (Opd.s 14), some (75, true)⟩,
 ⟨some 77, MOp.mv (Opd.s 0), some (75, true)⟩,
 ⟨some 78, MOp.mv (Opd.s 16), some (75, true)⟩,
 ⟨some 79, MOp.ixa 2 (Opd.s 77)
 (Opd.s 78), some (75, true)⟩,
 ⟨some 80, MOp.fa 1 (Opd.s 79), some (75, true)⟩,
 ⟨some 81, MOp.load none (Opd.s 80), some (75, true)⟩,
 ⟨some 82, MOp.bin .eql (Opd.s 76)
 (Opd.s 81), some (75, true)⟩,
 ⟨some 83, MOp.pick (Opd.s 75) (Opd.s 82)
 (Opd.c (AV.bool false)), none⟩,
 ⟨some 84, MOp.mv (Opd.s 83), none⟩,
 ⟨some 85, MOp.mv (Opd.s 1), some (84, true)⟩,
 ⟨some 86, MOp.call 56 [(0, Opd.s 85)], some (84, true)⟩,
 ⟨some 87, MOp.pick (Opd.s 84) (Opd.s 86)
 (Opd.c (AV.bool false)), none⟩,
 ⟨some 6, MOp.mv (Opd.s 87), none⟩]).seq
 MC.ret)
 MC.skip)))).seq
 (MC.reg
 [⟨some 88, MOp.bin .add (Opd.s 64)
 (Opd.c (AV.int .i64 1)), none⟩,
 ⟨some 64, MOp.mv (Opd.s 88), none⟩]))))
def M8b0l : List Bool := [true, true, true, false, false, false, false, false, false, false, false, false, false, false, true, true, false, false, false, false, false, false, false, false, false, false, false, false, false, false, false, false, false, false, false, false, false, false, false, false, false, false, false, false, false, false, false, false, false, false, false, false, false, false, false, false, false, false, false, false, false, false, false, true, true, false, false, false, false, false, false, false, false, false, false, false, false, false, false, false, false, false, false, false, false, false, false, false, false, false, false, false, false, false, false, false]
def M8r0 : MC :=
 ((MC.reg
 [⟨some 89, MOp.mv (Opd.s 15), none⟩,
 ⟨some 90, MOp.mv (Opd.s 89), none⟩,
 ⟨some 91, MOp.mv (Opd.s 14), some (90, false)⟩,
 ⟨some 92, MOp.bin .neq (Opd.s 91)
 (Opd.c (AV.str [])), some (90, false)⟩,
 ⟨some 93, MOp.pick (Opd.s 90) (Opd.c (AV.bool true))
 (Opd.s 92), none⟩]).seq
 (MC.cond (Opd.s 93)
 ((MC.reg
 [⟨some 6, MOp.mv (Opd.c (AV.bool false)), none⟩]).seq
 MC.ret)
 MC.skip))
def M8 : MFun :=
 ⟨96, [MRes.tmp 0 6], (MC.reg
 [⟨some 6, MOp.mv (Opd.c (AV.bool false)), none⟩]).seq
 ((MC.reg
 [⟨some 17, MOp.call 20 [], none⟩,
 ⟨some 7, MOp.mv (Opd.s 17), none⟩]).seq
 (((MC.reg
 [⟨some 18, MOp.mv (Opd.s 7), none⟩,
 ⟨some 19, MOp.un .not (Opd.s 18), none⟩]).seq
 (MC.cond (Opd.s 19)
 ((MC.reg
 [⟨some 6, MOp.mv (Opd.c (AV.bool false)), none⟩]).seq
 MC.ret)
 MC.skip)).seq
 ((MC.reg
 [⟨some 20, MOp.mv (Opd.s 0), none⟩,
 ⟨some 21, MOp.call 50 [(2, Opd.s 20)], none⟩,
 ⟨some 22, MOp.mv (Opd.s 1), none⟩,
 ⟨some 23, MOp.call 21
 [(0, Opd.s 22), (0, Opd.c (AV.int .i64 70))], none⟩,
 ⟨some 0, MOp.mv (Opd.s 21), none⟩,
 ⟨some 1, MOp.mv (Opd.s 23), none⟩]).seq
 ((MC.reg
 [⟨some 25, MOp.mv (Opd.s 0), none⟩,
 ⟨some 26, MOp.call 51 [(2, Opd.s 25)], none⟩,
 ⟨some 24, MOp.mv (Opd.s 26), none⟩,
 ⟨some 27, MOp.ext 0 (Opd.s 24), none⟩,
 ⟨some 28, MOp.ext 1 (Opd.s 24), none⟩,
 ⟨some 8, MOp.mv (Opd.s 27), none⟩,
 ⟨some 9, MOp.mv (Opd.s 28), none⟩]).seq
 ((MC.reg
 [⟨some 30, MOp.mv (Opd.s 0), none⟩,
 ⟨some 31, MOp.call 52 [(2, Opd.s 30)], none⟩,
 ⟨some 29, MOp.mv (Opd.s 31), none⟩,
 ⟨some 32, MOp.ext 0 (Opd.s 29), none⟩,
 ⟨some 33, MOp.ext 1 (Opd.s 29), none⟩,
 ⟨some 10, MOp.mv (Opd.s 32), none⟩,
 ⟨some 11, MOp.mv (Opd.s 33), none⟩]).seq
 (((MC.reg
 [⟨some 34, MOp.mv (Opd.s 8), none⟩,
 ⟨some 35, MOp.mv (Opd.s 10), none⟩,
 ⟨some 36, MOp.bin .neq (Opd.s 34) (Opd.s 35), none⟩,
 ⟨some 37, MOp.mv (Opd.s 36), none⟩,
 ⟨some 38, MOp.mv (Opd.s 9), some (37, false)⟩,
 ⟨some 39, MOp.mv (Opd.s 11), some (37, false)⟩,
 ⟨some 40, MOp.eqv true (EqK.flat (EqF.one SK.b)) (Opd.s 38)
 (Opd.s 39), some (37, false)⟩,
 ⟨some 41, MOp.pick (Opd.s 37) (Opd.c (AV.bool true))
 (Opd.s 40), none⟩]).seq
 (MC.cond (Opd.s 41)
 ((MC.reg
 [⟨some 6, MOp.mv (Opd.c (AV.bool false)), none⟩]).seq
 MC.ret)
 MC.skip)).seq
 (((MC.reg
 [⟨some 42, MOp.mv (Opd.s 9), none⟩]).seq
 (MC.cond (Opd.s 42)
 ((MC.reg
 [⟨some 44, MOp.mv (Opd.s 8), none⟩,
 ⟨some 45, MOp.call 53 [(0, Opd.s 44)], none⟩,
 ⟨some 43, MOp.mv (Opd.s 45), none⟩,
 ⟨some 46, MOp.ext 0 (Opd.s 43), none⟩,
 ⟨some 47, MOp.ext 1 (Opd.s 43), none⟩,
 ⟨some 12, MOp.mv (Opd.s 46), none⟩,
 ⟨some 13, MOp.mv (Opd.s 47), none⟩]).seq
 (((MC.reg
 [⟨some 48, MOp.mv (Opd.s 13), none⟩,
 ⟨some 49, MOp.un .not (Opd.s 48), none⟩,
 ⟨some 50, MOp.mv (Opd.s 49), none⟩,
 ⟨some 51, MOp.mv (Opd.s 12), some (50, false)⟩,
 ⟨some 52, MOp.mv (Opd.s 0), some (50, false)⟩,
 ⟨some 53, MOp.call 54 [(2, Opd.s 51), (2, Opd.s 52)], some (50, false)⟩,
 ⟨some 54, MOp.un .not (Opd.s 53), some (50, false)⟩,
 ⟨some 55, MOp.pick (Opd.s 50) (Opd.c (AV.bool true))
 (Opd.s 54), none⟩]).seq
 (MC.cond (Opd.s 55)
 ((MC.reg
 [⟨some 6, MOp.mv (Opd.c (AV.bool false)), none⟩]).seq
 MC.ret)
 MC.skip)).seq
 ((MC.reg
 [⟨some 57, MOp.mv (Opd.s 12), none⟩,
 ⟨some 58, MOp.mv (Opd.s 2), none⟩,
 ⟨some 59, MOp.call 55 [(2, Opd.s 57), (0, Opd.s 58)], none⟩,
 ⟨some 56, MOp.mv (Opd.s 59), none⟩,
 ⟨some 60, MOp.ext 0 (Opd.s 56), none⟩,
 ⟨some 61, MOp.ext 1 (Opd.s 56), none⟩,
 ⟨some 14, MOp.mv (Opd.s 60), none⟩,
 ⟨some 15, MOp.mv (Opd.s 61), none⟩]).seq
 (((MC.reg
 [⟨some 62, MOp.mv (Opd.s 0), none⟩,
 ⟨some 63, MOp.len (Opd.s 62), none⟩,
 ⟨some 64, MOp.mv
 (Opd.c (AV.int .i64 0)), none⟩]).seq
 (MC.block 0
 (MC.loop M8b0l M8b0))).seq
 M8r0))))
 MC.skip)).seq
 ((MC.reg
 [⟨some 94, MOp.mv (Opd.s 1), none⟩,
 ⟨some 95, MOp.call 56 [(0, Opd.s 94)], none⟩,
 ⟨some 6, MOp.mv (Opd.s 95), none⟩]).seq
 MC.ret)))))))) ⟩
theorem tab8 : tableOf Tryd.prog 8 = some M8 := by kernel_rfl
end Go.Proofs.YthcblggiojpmcaaDoor
