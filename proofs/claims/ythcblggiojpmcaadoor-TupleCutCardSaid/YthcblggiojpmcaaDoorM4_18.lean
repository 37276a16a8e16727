/- Functions of the program in the evaluator's form, written out by a program. No conditions. -/
import Derived.Test.YthcblggiojpmcaaDoorM4n
set_option linter.unusedVariables false
namespace Go.Proofs.YthcblggiojpmcaaDoor
open Go Go.Ab
def M18b0 : MC :=
 ((MC.reg
 [⟨some 42, MOp.bin .lss (Opd.s 41) (Opd.s 40), none⟩]).seq
 ((MC.cond (Opd.s 42) MC.skip (MC.exit 0)).seq
 ((MC.block 1
 ((MC.reg
 [⟨some 43, MOp.mv (Opd.s 41), none⟩,
 ⟨some 11, MOp.mv (Opd.s 43), none⟩]).seq
 ((MC.reg
 [⟨some 44, MOp.mv (Opd.s 9), none⟩,
 ⟨some 45, MOp.mv (Opd.s 44), none⟩,
 ⟨some 46, MOp.mv (Opd.s 10), some (45, false)⟩,
 ⟨some 47, MOp.mv (Opd.s 8), some (45, false)⟩,
 ⟨some 48, MOp.bin .eql (Opd.s 46) (Opd.s 47), some (45, false)⟩,
 ⟨some 49, MOp.pick (Opd.s 45)
 (Opd.c (AV.bool true)) (Opd.s 48), none⟩,
 ⟨some 9, MOp.mv (Opd.s 49), none⟩]).seq
 (MC.reg
 [⟨some 50, MOp.mv (Opd.s 10), none⟩,
 ⟨some 51, MOp.mv (Opd.s 0), none⟩,
 ⟨some 52, MOp.mv (Opd.s 11), none⟩,
 ⟨some 53, MOp.ixa 2 (Opd.s 51) (Opd.s 52), none⟩,
 ⟨some 54, MOp.fa 1 (Opd.s 53), none⟩,
 ⟨some 55, MOp.load none (Opd.s 54), none⟩,
 ⟨some 56, MOp.lens (Opd.s 55), none⟩,
 ⟨some 57, MOp.bin .add
 (Opd.c (AV.int .i64 2))
 (Opd.s 56), none⟩,
 ⟨some 58, MOp.bin .add (Opd.s 50) (Opd.s 57), none⟩,
 ⟨some 10, MOp.mv (Opd.s 58), none⟩])))).seq
 (MC.reg
 [⟨some 59, MOp.bin .add (Opd.s 41)
 (Opd.c (AV.int .i64 1)), none⟩,
 ⟨some 41, MOp.mv (Opd.s 59), none⟩]))))
def M18b0l : List Bool := [true, false, false, false, false, false, true, false, true, true, true, false, false, false, false, false, false, false, false, false, false, false, false, false, false, false, false, false, false, false, false, false, false, false, false, false, false, false, false, false, true, true, false, false, false, false, false, false, false, false, false, false, false, false, false, false, false, false, false, false, false, false, false, false, false, false, false, false, false, false]
def M18r0 : MC :=
 ((MC.reg
 [⟨some 61, MOp.mv (Opd.s 6), none⟩,
 ⟨some 62, MOp.mv (Opd.s 8), none⟩,
 ⟨some 63, MOp.sls (Opd.s 61) none (some (Opd.s 62)), none⟩,
 ⟨some 64, MOp.call 53 [(0, Opd.s 63)], none⟩,
 ⟨some 60, MOp.mv (Opd.s 64), none⟩,
 ⟨some 65, MOp.ext 0 (Opd.s 60), none⟩,
 ⟨some 66, MOp.ext 1 (Opd.s 60), none⟩,
 ⟨some 12, MOp.mv (Opd.s 65), none⟩,
 ⟨some 13, MOp.mv (Opd.s 66), none⟩]).seq
 ((MC.reg
 [⟨some 67, MOp.mv (Opd.s 13), none⟩,
 ⟨some 68, MOp.mv (Opd.s 9), none⟩,
 ⟨some 69, MOp.eqv false (EqK.flat (EqF.one SK.b))
 (Opd.s 67) (Opd.s 68), none⟩,
 ⟨some 4, MOp.mv (Opd.s 69), none⟩]).seq
 MC.ret))
def M18 : MFun :=
 ⟨70, [MRes.tmp 0 4], (MC.reg
 [⟨some 4, MOp.mv (Opd.c (AV.bool false)), none⟩]).seq
 ((MC.reg
 [⟨some 14, MOp.call 20 [], none⟩,
 ⟨some 5, MOp.mv (Opd.s 14), none⟩]).seq
 (((MC.reg
 [⟨some 15, MOp.mv (Opd.s 5), none⟩,
 ⟨some 16, MOp.un .not (Opd.s 15), none⟩]).seq
 (MC.cond (Opd.s 16)
 ((MC.reg
 [⟨some 4, MOp.mv (Opd.c (AV.bool false)), none⟩]).seq
 MC.ret)
 MC.skip)).seq
 ((MC.reg
 [⟨some 17, MOp.mv (Opd.s 0), none⟩,
 ⟨some 18, MOp.call 50 [(2, Opd.s 17)], none⟩,
 ⟨some 0, MOp.mv (Opd.s 18), none⟩]).seq
 ((MC.reg
 [⟨some 20, MOp.mv (Opd.s 0), none⟩,
 ⟨some 21, MOp.call 51 [(2, Opd.s 20)], none⟩,
 ⟨some 19, MOp.mv (Opd.s 21), none⟩,
 ⟨some 22, MOp.ext 0 (Opd.s 19), none⟩,
 ⟨some 23, MOp.ext 1 (Opd.s 19), none⟩,
 ⟨some 6, MOp.mv (Opd.s 22), none⟩,
 ⟨some 7, MOp.mv (Opd.s 23), none⟩]).seq
 (((MC.reg
 [⟨some 24, MOp.mv (Opd.s 7), none⟩,
 ⟨some 25, MOp.un .not (Opd.s 24), none⟩,
 ⟨some 26, MOp.mv (Opd.s 25), none⟩,
 ⟨some 27, MOp.mv (Opd.s 6), some (26, false)⟩,
 ⟨some 28, MOp.lens (Opd.s 27), some (26, false)⟩,
 ⟨some 29, MOp.bin .eql (Opd.s 28)
 (Opd.c (AV.int .i64 0)), some (26, false)⟩,
 ⟨some 30, MOp.pick (Opd.s 26) (Opd.c (AV.bool true))
 (Opd.s 29), none⟩,
 ⟨some 31, MOp.mv (Opd.s 30), none⟩,
 ⟨some 32, MOp.mv (Opd.s 1), some (31, false)⟩,
 ⟨some 33, MOp.bin .lss (Opd.s 32)
 (Opd.c (AV.int .i64 0)), some (31, false)⟩,
 ⟨some 34, MOp.pick (Opd.s 31) (Opd.c (AV.bool true))
 (Opd.s 33), none⟩]).seq
 (MC.cond (Opd.s 34)
 ((MC.reg
 [⟨some 4, MOp.mv (Opd.c (AV.bool true)), none⟩]).seq
 MC.ret)
 MC.skip)).seq
 ((MC.reg
 [⟨some 35, MOp.mv (Opd.s 1), none⟩,
 ⟨some 36, MOp.mv (Opd.s 6), none⟩,
 ⟨some 37, MOp.lens (Opd.s 36), none⟩,
 ⟨some 38, MOp.bin .rem (Opd.s 35) (Opd.s 37), none⟩,
 ⟨some 8, MOp.mv (Opd.s 38), none⟩]).seq
 ((MC.reg
 [⟨some 9, MOp.mv (Opd.c (AV.bool false)), none⟩,
 ⟨some 10, MOp.mv (Opd.c (AV.int .i64 0)), none⟩]).seq
 (((MC.reg
 [⟨some 39, MOp.mv (Opd.s 0), none⟩,
 ⟨some 40, MOp.len (Opd.s 39), none⟩,
 ⟨some 41, MOp.mv (Opd.c (AV.int .i64 0)), none⟩]).seq
 (MC.block 0
 (MC.loop M18b0l M18b0))).seq
 M18r0)))))))) ⟩
theorem tab18 : tableOf Tryd.prog 18 = some M18 := by kernel_rfl
end Go.Proofs.YthcblggiojpmcaaDoor
