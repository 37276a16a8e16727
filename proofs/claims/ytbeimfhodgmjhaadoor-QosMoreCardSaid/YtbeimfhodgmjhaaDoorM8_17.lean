/- Functions of the program in the evaluator's form, written out by a program. No conditions. -/
import Derived.Test.YtbeimfhodgmjhaaDoorM8
set_option linter.unusedVariables false
namespace Go.Proofs.YtbeimfhodgmjhaaDoor
open Go Go.Ab
def M17b0 : MC :=
 (((MC.reg
 [⟨some 29, MOp.mv (Opd.s 11), none⟩,
 ⟨some 30, MOp.mv (Opd.s 1), none⟩,
 ⟨some 31, MOp.len (Opd.s 30), none⟩,
 ⟨some 32, MOp.bin .lss (Opd.s 29) (Opd.s 31), none⟩,
 ⟨some 33, MOp.mv (Opd.s 32), none⟩,
 ⟨some 34, MOp.mv (Opd.s 11), some (33, true)⟩,
 ⟨some 35, MOp.bin .lss (Opd.s 34)
 (Opd.c (AV.int .i64 2)), some (33, true)⟩,
 ⟨some 36, MOp.pick (Opd.s 33) (Opd.s 35)
 (Opd.c (AV.bool false)), none⟩]).seq
 (MC.cond (Opd.s 36) MC.skip (MC.exit 0))).seq
 ((MC.block 1
 (MC.draw
 [⟨some 39, MOp.mv (Opd.s 10), none⟩,
 ⟨some 40, MOp.mv (Opd.s 1), none⟩,
 ⟨some 41, MOp.mv (Opd.s 11), none⟩,
 ⟨some 42, MOp.ixa 2 (Opd.s 40) (Opd.s 41), none⟩,
 ⟨some 43, MOp.fa 0 (Opd.s 42), none⟩,
 ⟨some 44, MOp.load none (Opd.s 43), none⟩,
 ⟨some 45, MOp.mv (Opd.s 1), none⟩,
 ⟨some 46, MOp.mv (Opd.s 11), none⟩,
 ⟨some 47, MOp.ixa 2 (Opd.s 45) (Opd.s 46), none⟩,
 ⟨some 48, MOp.fa 1 (Opd.s 47), none⟩,
 ⟨some 49, MOp.load none (Opd.s 48), none⟩,
 ⟨some 50, MOp.call 22
 [(0, Opd.s 49),
 (0, Opd.c (AV.int .i64 10))], none⟩,
 ⟨some 51, MOp.build [AV.int .i64 0, AV.str []]
 [(0, 1, Opd.s 44), (1, 1, Opd.s 50)], none⟩,
 ⟨some 52, MOp.bsl false 2 1
 [AV.int .i64 0, AV.str []]
 [(0, 2, Opd.s 51)], none⟩,
 ⟨some 53, MOp.app false 2 24 (Opd.s 39) (Opd.s 52), none⟩,
 ⟨some 10, MOp.mv (Opd.s 53), none⟩]
 [0, 0, 0, 6, 14, 30, 0, 0, 192, 448, 960, 1984, 4094, 8190, 16383, 32767])).seq
 (MC.reg
 [⟨some 37, MOp.mv (Opd.s 11), none⟩,
 ⟨some 38, MOp.bin .add (Opd.s 37)
 (Opd.c (AV.int .i64 1)), none⟩,
 ⟨some 11, MOp.mv (Opd.s 38), none⟩])))
def M17b0l : List Bool := [false, true, true, true, false, false, false, false, true, false, true, true, false, false, false, false, false, false, false, false, false, false, false, false, false, false, false, false, false, false, false, false, false, false, false, false, false, false, false, false, false, false, false, false, false, false, false, false, false, false, false, false, false, false, false, false, false, false, false, false, false, false, false, false, false, false, false, false, false, false, false, false, false, false, false, false, false, false, false, false, false, false, false, false, false, false, false, false, false, false, false, false, false, false, false, false]
def M17r0 : MC :=
 ((MC.reg
 [⟨some 55, MOp.mv (Opd.s 10), none⟩,
 ⟨some 56, MOp.call 60 [(2, Opd.s 55)], none⟩,
 ⟨some 54, MOp.mv (Opd.s 56), none⟩,
 ⟨some 57, MOp.ext 0 (Opd.s 54), none⟩,
 ⟨some 58, MOp.ext 1 (Opd.s 54), none⟩,
 ⟨some 12, MOp.mv (Opd.s 57), none⟩,
 ⟨some 13, MOp.mv (Opd.s 58), none⟩]).seq
 (((MC.reg
 [⟨some 59, MOp.mv (Opd.s 13), none⟩,
 ⟨some 60, MOp.un .not (Opd.s 59), none⟩]).seq
 (MC.cond (Opd.s 60)
 ((MC.reg
 [⟨some 6, MOp.mv (Opd.c (AV.bool true)), none⟩]).seq
 MC.ret)
 MC.skip)).seq
 ((MC.reg
 [⟨some 62, MOp.mv (Opd.s 8), none⟩,
 ⟨some 63, MOp.mv (Opd.s 12), none⟩,
 ⟨some 64, MOp.bin .add (Opd.s 62) (Opd.s 63), none⟩,
 ⟨some 65, MOp.call 56 [(0, Opd.s 64)], none⟩,
 ⟨some 61, MOp.mv (Opd.s 65), none⟩,
 ⟨some 66, MOp.ext 0 (Opd.s 61), none⟩,
 ⟨some 67, MOp.ext 1 (Opd.s 61), none⟩,
 ⟨some 14, MOp.alloc
 [AV.int .u32 0,
 AV.int .u32 0,
 AV.int .i64 0,
 AV.int .i64 0,
 AV.int .i64 0,
 AV.int .i64 0,
 AV.int .i64 0,
 AV.int .i64 0,
 AV.int .i64 0], none⟩,
 ⟨none, MOp.store 9 (Opd.s 14) (Opd.s 66), none⟩,
 ⟨some 15, MOp.mv (Opd.s 67), none⟩]).seq
 ((MC.reg
 [⟨some 68, MOp.mv (Opd.s 2), none⟩,
 ⟨some 69, MOp.bin .rem (Opd.s 68)
 (Opd.c (AV.int .i64 5)), none⟩,
 ⟨some 70, MOp.bin .add (Opd.s 69)
 (Opd.c (AV.int .i64 5)), none⟩,
 ⟨some 71, MOp.bin .rem (Opd.s 70)
 (Opd.c (AV.int .i64 5)), none⟩,
 ⟨some 72, MOp.bin .mul (Opd.s 71)
 (Opd.c (AV.int .i64 3)), none⟩,
 ⟨some 73, MOp.bin .add
 (Opd.c (AV.int .i64 10)) (Opd.s 72), none⟩,
 ⟨some 16, MOp.mv (Opd.s 73), none⟩]).seq
 ((MC.draw
 [⟨some 75, MOp.mv (Opd.s 8), none⟩,
 ⟨some 76, MOp.mv (Opd.s 16), none⟩,
 ⟨some 77, MOp.sls (Opd.s 75) none (some (Opd.s 76)), none⟩,
 ⟨some 78, MOp.mv (Opd.s 8), none⟩,
 ⟨some 79, MOp.mv (Opd.s 16), none⟩,
 ⟨some 80, MOp.bin .add (Opd.s 79)
 (Opd.c (AV.int .i64 3)), none⟩,
 ⟨some 81, MOp.sls (Opd.s 78) (some (Opd.s 80)) none, none⟩,
 ⟨some 82, MOp.bin .add (Opd.s 77) (Opd.s 81), none⟩,
 ⟨some 83, MOp.call 56 [(0, Opd.s 82)], none⟩,
 ⟨some 74, MOp.mv (Opd.s 83), none⟩,
 ⟨some 84, MOp.ext 0 (Opd.s 74), none⟩,
 ⟨some 85, MOp.ext 1 (Opd.s 74), none⟩,
 ⟨some 17, MOp.alloc
 [AV.int .u32 0,
 AV.int .u32 0,
 AV.int .i64 0,
 AV.int .i64 0,
 AV.int .i64 0,
 AV.int .i64 0,
 AV.int .i64 0,
 AV.int .i64 0,
 AV.int .i64 0], none⟩,
 ⟨none, MOp.store 9 (Opd.s 17) (Opd.s 84), none⟩,
 ⟨some 18, MOp.mv (Opd.s 85), none⟩]
 [0, 0, 3, 0, 0, 16, 56, 127, 255, 511, 1023, 1023, 0, 6143, 16383]).seq
 ((MC.reg
 [⟨some 86, MOp.mv (Opd.s 15), none⟩,
 ⟨some 87, MOp.mv (Opd.s 86), none⟩,
 ⟨some 88, MOp.load (some 9) (Opd.s 14), some (87, true)⟩,
 ⟨some 89, MOp.load (some 9) (Opd.s 3), some (87, true)⟩,
 ⟨some 90, MOp.eqv false
 (EqK.flat
 (EqF.many
 [SK.i, SK.i, SK.i, SK.i, SK.i, SK.i,
 SK.i, SK.i, SK.i]))
 (Opd.s 88) (Opd.s 89), some (87, true)⟩,
 ⟨some 91, MOp.pick (Opd.s 87) (Opd.s 90)
 (Opd.c (AV.bool false)), none⟩,
 ⟨some 92, MOp.mv (Opd.s 91), none⟩,
 ⟨some 93, MOp.mv (Opd.s 18), some (92, true)⟩,
 ⟨some 94, MOp.un .not (Opd.s 93), some (92, true)⟩,
 ⟨some 95, MOp.pick (Opd.s 92) (Opd.s 94)
 (Opd.c (AV.bool false)), none⟩,
 ⟨some 6, MOp.mv (Opd.s 95), none⟩]).seq
 MC.ret))))))
def M17 : MFun :=
 ⟨96, [MRes.tmp 0 6], (MC.reg
 [⟨some 3, MOp.box (Opd.s 0), none⟩,
 ⟨some 6, MOp.mv (Opd.c (AV.bool false)), none⟩]).seq
 ((MC.reg
 [⟨some 19, MOp.call 21 [], none⟩,
 ⟨some 7, MOp.mv (Opd.s 19), none⟩]).seq
 (((MC.reg
 [⟨some 20, MOp.mv (Opd.s 7), none⟩,
 ⟨some 21, MOp.un .not (Opd.s 20), none⟩]).seq
 (MC.cond (Opd.s 21)
 ((MC.reg
 [⟨some 6, MOp.mv (Opd.c (AV.bool false)), none⟩]).seq
 MC.ret)
 MC.skip)).seq
 ((MC.reg
 [⟨some 23, MOp.load (some 9) (Opd.s 3), none⟩,
 ⟨some 24, MOp.call 54 [(0, Opd.s 23)], none⟩,
 ⟨some 22, MOp.mv (Opd.s 24), none⟩,
 ⟨some 25, MOp.ext 0 (Opd.s 22), none⟩,
 ⟨some 26, MOp.ext 1 (Opd.s 22), none⟩,
 ⟨some 8, MOp.mv (Opd.s 25), none⟩,
 ⟨some 9, MOp.mv (Opd.s 26), none⟩]).seq
 (((MC.reg
 [⟨some 27, MOp.mv (Opd.s 9), none⟩,
 ⟨some 28, MOp.un .not (Opd.s 27), none⟩]).seq
 (MC.cond (Opd.s 28)
 ((MC.reg
 [⟨some 6, MOp.mv (Opd.c (AV.bool true)), none⟩]).seq
 MC.ret)
 MC.skip)).seq
 ((MC.reg
 [⟨some 10, MOp.mv (Opd.c AV.nils), none⟩]).seq
 (((MC.reg
 [⟨some 11, MOp.mv (Opd.c (AV.int .i64 0)), none⟩]).seq
 (MC.block 0
 (MC.loop M17b0l M17b0))).seq
 M17r0)))))) ⟩
theorem tab17 : tableOf Tryd.prog 17 = some M17 := by kernel_rfl
end Go.Proofs.YtbeimfhodgmjhaaDoor
