/- Functions of the program in the evaluator's form, written out by a program. No conditions. -/
import Derived.Test.YtochnineebgbgaaDoorM12
set_option linter.unusedVariables false
namespace Go.Proofs.YtochnineebgbgaaDoor
open Go Go.Ab
def M4b0 : MC :=
 (((MC.reg
 [⟨some 17, MOp.mv (Opd.s 6), none⟩,
 ⟨some 18, MOp.mv (Opd.s 0), none⟩,
 ⟨some 19, MOp.len (Opd.s 18), none⟩,
 ⟨some 20, MOp.bin .lss (Opd.s 17) (Opd.s 19), none⟩,
 ⟨some 21, MOp.mv (Opd.s 20), none⟩,
 ⟨some 22, MOp.mv (Opd.s 6), some (21, true)⟩,
 ⟨some 23, MOp.bin .lss (Opd.s 22)
 (Opd.c (AV.int .i64 60)), some (21, true)⟩,
 ⟨some 24, MOp.pick (Opd.s 21) (Opd.s 23)
 (Opd.c (AV.bool false)), none⟩]).seq
 (MC.cond (Opd.s 24) MC.skip (MC.exit 0))).seq
 ((MC.block 1
 ((MC.draw
 [⟨some 28, MOp.mv (Opd.s 4), none⟩,
 ⟨some 29, MOp.mv (Opd.s 0), none⟩,
 ⟨some 30, MOp.mv (Opd.s 6), none⟩,
 ⟨some 31, MOp.ixa 12 (Opd.s 29) (Opd.s 30), none⟩,
 ⟨some 32, MOp.fa 1 (Opd.s 31), none⟩,
 ⟨some 33, MOp.load none (Opd.s 32), none⟩,
 ⟨some 34, MOp.mv (Opd.s 0), none⟩,
 ⟨some 35, MOp.mv (Opd.s 6), none⟩,
 ⟨some 36, MOp.ixa 12 (Opd.s 34) (Opd.s 35), none⟩,
 ⟨some 37, MOp.fa 2 (Opd.s 36), none⟩,
 ⟨some 38, MOp.load none (Opd.s 37), none⟩,
 ⟨some 39, MOp.call 28
 [(0, Opd.s 28), (0, Opd.s 33), (0, Opd.s 38)], none⟩,
 ⟨some 27, MOp.mv (Opd.s 39), none⟩,
 ⟨some 40, MOp.ext 0 (Opd.s 27), none⟩,
 ⟨some 41, MOp.ext 1 (Opd.s 27), none⟩,
 ⟨some 7, MOp.mv (Opd.s 40), none⟩,
 ⟨some 8, MOp.mv (Opd.s 41), none⟩]
 [0, 0, 0, 6, 14, 30, 0, 0, 192, 448, 960, 2047, 4095, 8191, 8191, 16383,
 65535]).seq
 ((MC.draw
 [⟨some 43, MOp.mv (Opd.s 5), none⟩,
 ⟨some 44, MOp.mv (Opd.s 0), none⟩,
 ⟨some 45, MOp.mv (Opd.s 6), none⟩,
 ⟨some 46, MOp.ixa 12 (Opd.s 44) (Opd.s 45), none⟩,
 ⟨some 47, MOp.fa 1 (Opd.s 46), none⟩,
 ⟨some 48, MOp.load none (Opd.s 47), none⟩,
 ⟨some 49, MOp.mv (Opd.s 0), none⟩,
 ⟨some 50, MOp.mv (Opd.s 6), none⟩,
 ⟨some 51, MOp.ixa 12 (Opd.s 49) (Opd.s 50), none⟩,
 ⟨some 52, MOp.fa 2 (Opd.s 51), none⟩,
 ⟨some 53, MOp.load none (Opd.s 52), none⟩,
 ⟨some 54, MOp.call 29
 [(0, Opd.s 43), (0, Opd.s 48), (0, Opd.s 53)], none⟩,
 ⟨some 42, MOp.mv (Opd.s 54), none⟩,
 ⟨some 55, MOp.ext 0 (Opd.s 42), none⟩,
 ⟨some 56, MOp.ext 1 (Opd.s 42), none⟩,
 ⟨some 9, MOp.mv (Opd.s 55), none⟩,
 ⟨some 10, MOp.mv (Opd.s 56), none⟩]
 [0, 0, 0, 6, 14, 30, 0, 0, 192, 448, 960, 2047, 4095, 8191, 8191, 16383,
 65535]).seq
 ((MC.draw
 [⟨some 57, MOp.mv (Opd.s 7), none⟩,
 ⟨some 58, MOp.mv (Opd.s 9), none⟩,
 ⟨some 59, MOp.bin .neq (Opd.s 57) (Opd.s 58), none⟩,
 ⟨some 60, MOp.mv (Opd.s 59), none⟩,
 ⟨some 61, MOp.mv (Opd.s 8), some (60, false)⟩,
 ⟨some 62, MOp.mv (Opd.s 10), some (60, false)⟩,
 ⟨some 63, MOp.eqv true (EqK.flat (EqF.one SK.b))
 (Opd.s 61) (Opd.s 62), some (60, false)⟩,
 ⟨some 64, MOp.pick (Opd.s 60) (Opd.c (AV.bool true))
 (Opd.s 63), none⟩,
 ⟨some 65, MOp.mv (Opd.s 64), none⟩,
 ⟨some 66, MOp.mv (Opd.s 4), some (65, false)⟩,
 ⟨some 67, MOp.call 30 [(0, Opd.s 66)], some (65, false)⟩,
 ⟨some 68, MOp.mv (Opd.s 5), some (65, false)⟩,
 ⟨some 69, MOp.nchk (Opd.s 68), some (65, false)⟩,
 ⟨some 70, MOp.fa 0 (Opd.s 69), some (65, false)⟩,
 ⟨some 71, MOp.load none (Opd.s 70), some (65, false)⟩,
 ⟨some 72, MOp.bin .neq (Opd.s 67) (Opd.s 71), some (65, false)⟩,
 ⟨some 73, MOp.pick (Opd.s 65) (Opd.c (AV.bool true))
 (Opd.s 72), none⟩,
 ⟨some 74, MOp.mv (Opd.s 73), none⟩,
 ⟨some 75, MOp.mv (Opd.s 4), some (74, false)⟩,
 ⟨some 76, MOp.call 31 [(0, Opd.s 75)], some (74, false)⟩,
 ⟨some 77, MOp.mv (Opd.s 5), some (74, false)⟩,
 ⟨some 78, MOp.nchk (Opd.s 77), some (74, false)⟩,
 ⟨some 79, MOp.fa 1 (Opd.s 78), some (74, false)⟩,
 ⟨some 80, MOp.load none (Opd.s 79), some (74, false)⟩,
 ⟨some 81, MOp.eqv true (EqK.flat (EqF.one SK.b))
 (Opd.s 76) (Opd.s 80), some (74, false)⟩,
 ⟨some 82, MOp.pick (Opd.s 74) (Opd.c (AV.bool true))
 (Opd.s 81), none⟩]
 [0, 0, 3, 7, 15, 15, 63, 127, 255, 511, 1023, 511, 2559, 6655, 14847, 32767,
 65535, 131071, 262143, 524287, 262143, 1310719, 3407871, 7602175, 16777215,
 33554431]).seq
 (MC.cond (Opd.s 82)
 ((MC.reg
 [⟨some 2, MOp.mv (Opd.c (AV.bool false)), none⟩]).seq
 MC.ret)
 MC.skip))))).seq
 (MC.reg
 [⟨some 25, MOp.mv (Opd.s 6), none⟩,
 ⟨some 26, MOp.bin .add (Opd.s 25)
 (Opd.c (AV.int .i64 1)), none⟩,
 ⟨some 6, MOp.mv (Opd.s 26), none⟩])))
def M4b0l : List Bool := [true, false, false, false, true, true, true, false, false, false, false, false, false, false, false, false, false, false, false, false, false, false, false, false, false, false, false, false, false, false, false, false, false, false, false, false, false, false, false, false, false, false, false, false, false, false, false, false, false, false, false, false, false, false, false, false, false, false, false, false, false, false, false, false, false, false, false, false, false, false, false, false, false, false, false, false, false, false, false, false, false, false, false]
def M4 : MFun :=
 ⟨83, [MRes.tmp 0 2], (MC.reg
 [⟨some 2, MOp.mv (Opd.c (AV.bool false)), none⟩]).seq
 ((MC.reg
 [⟨some 11, MOp.call 21 [], none⟩,
 ⟨some 3, MOp.mv (Opd.s 11), none⟩]).seq
 (((MC.reg
 [⟨some 12, MOp.mv (Opd.s 3), none⟩,
 ⟨some 13, MOp.un .not (Opd.s 12), none⟩]).seq
 (MC.cond (Opd.s 13)
 ((MC.reg
 [⟨some 2, MOp.mv (Opd.c (AV.bool false)), none⟩]).seq
 MC.ret)
 MC.skip)).seq
 ((MC.reg
 [⟨some 14, MOp.call 27 [], none⟩,
 ⟨some 15, MOp.build [AV.int .i64 0, AV.bool false] [], none⟩,
 ⟨some 16, MOp.box (Opd.s 15), none⟩,
 ⟨some 4, MOp.mv (Opd.s 14), none⟩,
 ⟨some 5, MOp.mv (Opd.s 16), none⟩]).seq
 (((MC.reg
 [⟨some 6, MOp.mv (Opd.c (AV.int .i64 0)), none⟩]).seq
 (MC.block 0
 (MC.loop M4b0l M4b0))).seq
 ((MC.reg
 [⟨some 2, MOp.mv (Opd.c (AV.bool true)), none⟩]).seq
 MC.ret))))) ⟩
theorem tab4 : tableOf Tryd.prog 4 = some M4 := by kernel_rfl
end Go.Proofs.YtochnineebgbgaaDoor
