/- Functions of the program in the evaluator's form, written out by a program. No conditions. -/
import Derived.Test.YthcblggiojpmcaaDoorM4n
set_option linter.unusedVariables false
namespace Go.Proofs.YthcblggiojpmcaaDoor
open Go Go.Ab
def M12b0 : MC :=
 ((MC.reg
 [⟨some 33, MOp.nxt (Opd.s 32), none⟩,
 ⟨some 34, MOp.ext 0 (Opd.s 33), none⟩]).seq
 ((MC.cond (Opd.s 34) MC.skip (MC.exit 0)).seq
 (MC.block 1
 ((MC.reg
 [⟨some 35, MOp.ext 1 (Opd.s 33), none⟩,
 ⟨some 9, MOp.mv (Opd.s 35), none⟩]).seq
 (((MC.reg
 [⟨some 36, MOp.mv (Opd.s 9), none⟩,
 ⟨some 37, MOp.mv (Opd.s 6), none⟩,
 ⟨some 38, MOp.bin .eql (Opd.s 36) (Opd.s 37), none⟩]).seq
 (MC.cond (Opd.s 38)
 ((MC.reg
 [⟨some 39, MOp.mv (Opd.s 7), none⟩,
 ⟨some 40, MOp.call 22 [(0, Opd.s 39)], none⟩,
 ⟨some 4, MOp.mv (Opd.s 40), none⟩]).seq
 MC.ret)
 MC.skip)).seq
 (MC.reg
 [⟨some 41, MOp.mv (Opd.s 8), none⟩,
 ⟨some 42, MOp.mv (Opd.s 41), none⟩,
 ⟨some 43, MOp.mv (Opd.s 9), some (42, true)⟩,
 ⟨some 44, MOp.mv (Opd.s 6), some (42, true)⟩,
 ⟨some 45, MOp.bin .lss (Opd.s 43) (Opd.s 44), some (42, true)⟩,
 ⟨some 46, MOp.pick (Opd.s 42) (Opd.s 45)
 (Opd.c (AV.bool false)), none⟩,
 ⟨some 8, MOp.mv (Opd.s 46), none⟩]))))))
def M12b0l : List Bool := [true, false, false, false, false, false, true, true, true, false, false, false, false, false, false, false, false, false, false, false, false, false, false, false, false, false, false, false, false, false, false, false, true, false, false, false, false, false, false, false, false, false, false, false, false, false, false, false, false, false, false, false, false, false, false, false, false, false, false, false, false, false, false, false, false, false, false, false, false, false, false, false, false, false, false, false, false]
def M12r0 : MC :=
 (((MC.reg
 [⟨some 47, MOp.mv (Opd.s 6), none⟩,
 ⟨some 48, MOp.mv (Opd.s 0), none⟩,
 ⟨some 49, MOp.lens (Opd.s 48), none⟩,
 ⟨some 50, MOp.bin .eql (Opd.s 47) (Opd.s 49), none⟩]).seq
 (MC.cond (Opd.s 50)
 ((MC.reg
 [⟨some 51, MOp.mv (Opd.s 7), none⟩,
 ⟨some 52, MOp.call 22 [(0, Opd.s 51)], none⟩,
 ⟨some 4, MOp.mv (Opd.s 52), none⟩]).seq
 MC.ret)
 MC.skip)).seq
 ((MC.reg
 [⟨some 53, MOp.mv (Opd.s 7), none⟩,
 ⟨some 54, MOp.call 26
 [(0, Opd.s 53),
 (0, Opd.c (AV.int .i64 20))], none⟩,
 ⟨some 10, MOp.mv (Opd.s 54), none⟩]).seq
 ((MC.reg
 [⟨some 55, MOp.mv (Opd.s 7), none⟩,
 ⟨some 56, MOp.call 22 [(0, Opd.s 55)], none⟩,
 ⟨some 57, MOp.un .not (Opd.s 56), none⟩,
 ⟨some 58, MOp.mv (Opd.s 57), none⟩,
 ⟨some 59, MOp.mv (Opd.s 10), some (58, true)⟩,
 ⟨some 60, MOp.call 22 [(0, Opd.s 59)], some (58, true)⟩,
 ⟨some 61, MOp.pick (Opd.s 58) (Opd.s 60)
 (Opd.c (AV.bool false)), none⟩,
 ⟨some 62, MOp.mv (Opd.s 61), none⟩,
 ⟨some 63, MOp.mv (Opd.s 10), some (62, true)⟩,
 ⟨some 64, MOp.lens (Opd.s 63), some (62, true)⟩,
 ⟨some 65, MOp.mv (Opd.s 7), some (62, true)⟩,
 ⟨some 66, MOp.lens (Opd.s 65), some (62, true)⟩,
 ⟨some 67, MOp.bin .lss (Opd.s 64) (Opd.s 66), some (62, true)⟩,
 ⟨some 68, MOp.pick (Opd.s 62) (Opd.s 67)
 (Opd.c (AV.bool false)), none⟩,
 ⟨some 69, MOp.mv (Opd.s 68), none⟩,
 ⟨some 70, MOp.mv (Opd.s 0), some (69, true)⟩,
 ⟨some 71, MOp.mv (Opd.s 10), some (69, true)⟩,
 ⟨some 72, MOp.lens (Opd.s 71), some (69, true)⟩,
 ⟨some 73, MOp.sls (Opd.s 70) none (some (Opd.s 72)), some (69, true)⟩,
 ⟨some 74, MOp.mv (Opd.s 10), some (69, true)⟩,
 ⟨some 75, MOp.bin .eql (Opd.s 73) (Opd.s 74), some (69, true)⟩,
 ⟨some 76, MOp.pick (Opd.s 69) (Opd.s 75)
 (Opd.c (AV.bool false)), none⟩,
 ⟨some 4, MOp.mv (Opd.s 76), none⟩]).seq
 MC.ret)))
def M12 : MFun :=
 ⟨77, [MRes.tmp 0 4], (MC.reg
 [⟨some 4, MOp.mv (Opd.c (AV.bool false)), none⟩]).seq
 ((MC.reg
 [⟨some 11, MOp.call 20 [], none⟩,
 ⟨some 5, MOp.mv (Opd.s 11), none⟩]).seq
 (((MC.reg
 [⟨some 12, MOp.mv (Opd.s 5), none⟩,
 ⟨some 13, MOp.un .not (Opd.s 12), none⟩]).seq
 (MC.cond (Opd.s 13)
 ((MC.reg
 [⟨some 4, MOp.mv (Opd.c (AV.bool false)), none⟩]).seq
 MC.ret)
 MC.skip)).seq
 ((MC.reg
 [⟨some 14, MOp.mv (Opd.s 0), none⟩,
 ⟨some 15, MOp.call 21
 [(0, Opd.s 14), (0, Opd.c (AV.int .i64 20))], none⟩,
 ⟨some 0, MOp.mv (Opd.s 15), none⟩]).seq
 (((MC.reg
 [⟨some 16, MOp.mv (Opd.s 0), none⟩,
 ⟨some 17, MOp.call 22 [(0, Opd.s 16)], none⟩,
 ⟨some 18, MOp.un .not (Opd.s 17), none⟩,
 ⟨some 19, MOp.mv (Opd.s 18), none⟩,
 ⟨some 20, MOp.mv (Opd.s 1), some (19, false)⟩,
 ⟨some 21, MOp.bin .lss (Opd.s 20)
 (Opd.c (AV.int .i64 0)), some (19, false)⟩,
 ⟨some 22, MOp.pick (Opd.s 19) (Opd.c (AV.bool true)) (Opd.s 21), none⟩]).seq
 (MC.cond (Opd.s 22)
 ((MC.reg
 [⟨some 4, MOp.mv (Opd.c (AV.bool true)), none⟩]).seq
 MC.ret)
 MC.skip)).seq
 ((MC.reg
 [⟨some 23, MOp.mv (Opd.s 1), none⟩,
 ⟨some 24, MOp.mv (Opd.s 0), none⟩,
 ⟨some 25, MOp.lens (Opd.s 24), none⟩,
 ⟨some 26, MOp.bin .add (Opd.s 25)
 (Opd.c (AV.int .i64 1)), none⟩,
 ⟨some 27, MOp.bin .rem (Opd.s 23) (Opd.s 26), none⟩,
 ⟨some 6, MOp.mv (Opd.s 27), none⟩]).seq
 ((MC.reg
 [⟨some 28, MOp.mv (Opd.s 0), none⟩,
 ⟨some 29, MOp.mv (Opd.s 6), none⟩,
 ⟨some 30, MOp.sls (Opd.s 28) none (some (Opd.s 29)), none⟩,
 ⟨some 7, MOp.mv (Opd.s 30), none⟩]).seq
 ((MC.reg
 [⟨some 8, MOp.mv (Opd.c (AV.bool true)), none⟩]).seq
 (((MC.reg
 [⟨some 31, MOp.mv (Opd.s 0), none⟩,
 ⟨some 32, MOp.rng (Opd.s 31), none⟩]).seq
 (MC.block 0
 (MC.loop M12b0l M12b0))).seq
 M12r0)))))))) ⟩
theorem tab12 : tableOf Tryd.prog 12 = some M12 := by kernel_rfl
end Go.Proofs.YthcblggiojpmcaaDoor
