/- Functions of the program in the evaluator's form, written out by a program. No conditions. -/
import Derived.Test.YtghfinbdgnggjaaM
set_option linter.unusedVariables false
namespace Go.Proofs.Ytghfinbdgnggjaa
open Go Go.Ab
def M9b0 : MC :=
 ((MC.reg
 [⟨some 76, MOp.bin .lss (Opd.s 75) (Opd.s 74), none⟩]).seq
 ((MC.cond (Opd.s 76) MC.skip (MC.exit 4)).seq
 ((MC.block 5
 ((MC.reg
 [⟨some 77, MOp.mv (Opd.s 75), none⟩,
 ⟨some 12, MOp.mv (Opd.s 77), none⟩]).seq
 ((MC.draw
 [⟨some 78, MOp.mv (Opd.s 11), none⟩,
 ⟨some 79, MOp.mv (Opd.s 12), none⟩,
 ⟨some 80, MOp.ixa 1 (Opd.s 78) (Opd.s 79), none⟩,
 ⟨some 81, MOp.load none (Opd.s 80), none⟩,
 ⟨some 82, MOp.conv Cv.b2s (Opd.s 81), none⟩,
 ⟨some 83, MOp.mv (Opd.s 7), none⟩,
 ⟨some 84, MOp.mv (Opd.s 12), none⟩,
 ⟨some 85, MOp.ixa 1 (Opd.s 83) (Opd.s 84), none⟩,
 ⟨some 86, MOp.load none (Opd.s 85), none⟩,
 ⟨some 87, MOp.bin .neq (Opd.s 82) (Opd.s 86), none⟩]
 [0, 0, 3, 7, 15, 0, 0, 96, 224, 511]).seq
 (MC.cond (Opd.s 87)
 ((MC.reg
 [⟨some 4, MOp.mv (Opd.c (AV.bool false)), none⟩]).seq
 MC.ret)
 MC.skip)))).seq
 (MC.reg
 [⟨some 88, MOp.bin .add (Opd.s 75)
 (Opd.c (AV.int .i64 1)), none⟩,
 ⟨some 75, MOp.mv (Opd.s 88), none⟩]))))
def M9b0l : List Bool := [false, false, false, false, false, false, false, true, false, false, false, true, false, false, false, false, false, false, false, false, false, false, false, false, false, false, false, false, false, false, false, false, false, false, false, false, false, false, false, false, false, false, false, false, false, false, false, false, false, false, false, false, false, false, false, false, false, false, false, false, false, false, false, false, false, false, false, false, false, false, false, false, false, false, true, true, false, false, false, false, false, false, false, false, false, false, false, false, false]
def M9b1 : MC :=
 (((MC.reg
 [⟨some 34, MOp.mv (Opd.s 10), none⟩,
 ⟨some 35, MOp.mv (Opd.s 1), none⟩,
 ⟨some 36, MOp.len (Opd.s 35), none⟩,
 ⟨some 37, MOp.bin .lss (Opd.s 34) (Opd.s 36), none⟩,
 ⟨some 38, MOp.mv (Opd.s 37), none⟩,
 ⟨some 39, MOp.mv (Opd.s 10), some (38, true)⟩,
 ⟨some 40, MOp.bin .lss (Opd.s 39)
 (Opd.c (AV.int .i64 5)), some (38, true)⟩,
 ⟨some 41, MOp.pick (Opd.s 38) (Opd.s 40)
 (Opd.c (AV.bool false)), none⟩]).seq
 (MC.cond (Opd.s 41) MC.skip (MC.exit 2))).seq
 ((MC.block 3
 ((MC.reg
 [⟨some 44, MOp.mv (Opd.s 1), none⟩,
 ⟨some 45, MOp.mv (Opd.s 10), none⟩,
 ⟨some 46, MOp.ixa 1 (Opd.s 44) (Opd.s 45), none⟩,
 ⟨some 47, MOp.load none (Opd.s 46), none⟩,
 ⟨some 48, MOp.bin .neq (Opd.s 47)
 (Opd.c
 (AV.int .u8 192)), none⟩]).seq
 (MC.cond (Opd.s 48)
 (MC.reg
 [⟨some 49, MOp.mv (Opd.s 6), none⟩,
 ⟨some 50, MOp.mv (Opd.s 1), none⟩,
 ⟨some 51, MOp.mv (Opd.s 10), none⟩,
 ⟨some 52, MOp.ixa 1 (Opd.s 50) (Opd.s 51), none⟩,
 ⟨some 53, MOp.load none (Opd.s 52), none⟩,
 ⟨some 54, MOp.bsl false 1 1
 [AV.int .u8 0]
 [(0, 1, Opd.s 53)], none⟩,
 ⟨some 55, MOp.app false 1 1 (Opd.s 49)
 (Opd.s 54), none⟩,
 ⟨some 6, MOp.mv (Opd.s 55), none⟩])
 MC.skip))).seq
 (MC.reg
 [⟨some 42, MOp.mv (Opd.s 10), none⟩,
 ⟨some 43, MOp.bin .add (Opd.s 42)
 (Opd.c (AV.int .i64 1)), none⟩,
 ⟨some 10, MOp.mv (Opd.s 43), none⟩])))
def M9b1l : List Bool := [true, true, false, false, false, false, true, true, true, true, true, false, false, false, false, false, false, false, false, false, false, false, false, false, false, false, false, false, false, false, false, false, false, false, false, false, false, false, false, false, false, false, false, false, false, false, false, false, false, false, false, false, false, false, false, false, false, false, false, false, false, false, false, false, false, false, false, false, false, false, false, false, false, false, false, false, false, false, false, false, false, false, false, false, false, false, false, false, false]
def M9r1 : MC :=
 ((MC.reg
 [⟨some 56, MOp.mv (Opd.s 6), none⟩,
 ⟨some 57, MOp.mv (Opd.s 9), none⟩,
 ⟨some 58, MOp.mv (Opd.s 8), none⟩,
 ⟨some 59, MOp.call 29 [(1, Opd.s 57), (0, Opd.s 58)], none⟩,
 ⟨some 60, MOp.app false 1 1 (Opd.s 56) (Opd.s 59), none⟩,
 ⟨some 6, MOp.mv (Opd.s 60), none⟩]).seq
 (MC.reg
 [⟨some 61, MOp.mv (Opd.s 7), none⟩,
 ⟨some 62, MOp.mv (Opd.s 9), none⟩,
 ⟨some 63, MOp.conv Cv.b2s (Opd.s 62), none⟩,
 ⟨some 64, MOp.bsl false 1 1 [AV.str []] [(0, 1, Opd.s 63)], none⟩,
 ⟨some 65, MOp.app false 1 16 (Opd.s 61) (Opd.s 64), none⟩,
 ⟨some 7, MOp.mv (Opd.s 65), none⟩]))
def M9b2 : MC :=
 (((MC.reg
 [⟨some 16, MOp.mv (Opd.s 8), none⟩,
 ⟨some 17, MOp.mv (Opd.s 0), none⟩,
 ⟨some 18, MOp.len (Opd.s 17), none⟩,
 ⟨some 19, MOp.bin .lss (Opd.s 16) (Opd.s 18), none⟩,
 ⟨some 20, MOp.mv (Opd.s 19), none⟩,
 ⟨some 21, MOp.mv (Opd.s 8), some (20, true)⟩,
 ⟨some 22, MOp.bin .lss (Opd.s 21)
 (Opd.c (AV.int .i64 8)), some (20, true)⟩,
 ⟨some 23, MOp.pick (Opd.s 20) (Opd.s 22)
 (Opd.c (AV.bool false)), none⟩]).seq
 (MC.cond (Opd.s 23) MC.skip (MC.exit 0))).seq
 ((MC.block 1
 ((MC.reg
 [⟨some 26, MOp.mv (Opd.s 0), none⟩,
 ⟨some 27, MOp.mv (Opd.s 8), none⟩,
 ⟨some 28, MOp.ixa 1 (Opd.s 26) (Opd.s 27), none⟩,
 ⟨some 29, MOp.load none (Opd.s 28), none⟩,
 ⟨some 30, MOp.call 20
 [(1, Opd.s 29),
 (0, Opd.c (AV.int .i64 30))], none⟩,
 ⟨some 9, MOp.mv (Opd.s 30), none⟩]).seq
 (((MC.reg
 [⟨some 31, MOp.mv (Opd.s 9), none⟩,
 ⟨some 32, MOp.len (Opd.s 31), none⟩,
 ⟨some 33, MOp.bin .eql (Opd.s 32)
 (Opd.c (AV.int .i64 0)), none⟩]).seq
 (MC.cond (Opd.s 33) (MC.exit 1) MC.skip)).seq
 (((MC.reg
 [⟨some 10, MOp.mv (Opd.c (AV.int .i64 0)), none⟩]).seq
 (MC.block 2
 (MC.loop M9b1l M9b1))).seq
 M9r1)))).seq
 (MC.reg
 [⟨some 24, MOp.mv (Opd.s 8), none⟩,
 ⟨some 25, MOp.bin .add (Opd.s 24)
 (Opd.c (AV.int .i64 1)), none⟩,
 ⟨some 8, MOp.mv (Opd.s 25), none⟩])))
def M9b2l : List Bool := [true, true, false, false, false, false, true, true, true, false, false, false, false, false, false, false, false, false, false, false, false, false, false, false, false, false, false, false, false, false, false, false, false, false, false, false, false, false, false, false, false, false, false, false, false, false, false, false, false, false, false, false, false, false, false, false, false, false, false, false, false, false, false, false, false, false, false, false, false, false, false, false, false, false, false, false, false, false, false, false, false, false, false, false, false, false, false, false, false]
def M9r0 : MC :=
 ((MC.reg
 [⟨some 4, MOp.mv (Opd.c (AV.bool true)), none⟩]).seq
 MC.ret)
def M9r2 : MC :=
 ((MC.reg
 [⟨some 66, MOp.mv (Opd.s 6), none⟩,
 ⟨some 67, MOp.call 35
 [(0, Opd.c (AV.int .i64 30)), (1, Opd.s 66)], none⟩,
 ⟨some 11, MOp.mv (Opd.s 67), none⟩]).seq
 (((MC.reg
 [⟨some 68, MOp.mv (Opd.s 11), none⟩,
 ⟨some 69, MOp.len (Opd.s 68), none⟩,
 ⟨some 70, MOp.mv (Opd.s 7), none⟩,
 ⟨some 71, MOp.len (Opd.s 70), none⟩,
 ⟨some 72, MOp.bin .neq (Opd.s 69) (Opd.s 71), none⟩]).seq
 (MC.cond (Opd.s 72)
 ((MC.reg
 [⟨some 4, MOp.mv (Opd.c (AV.bool false)), none⟩]).seq
 MC.ret)
 MC.skip)).seq
 (((MC.reg
 [⟨some 73, MOp.mv (Opd.s 11), none⟩,
 ⟨some 74, MOp.len (Opd.s 73), none⟩,
 ⟨some 75, MOp.mv (Opd.c (AV.int .i64 0)), none⟩]).seq
 (MC.block 4
 (MC.loop M9b0l M9b0))).seq
 M9r0)))
def M9 : MFun :=
 ⟨89, [MRes.tmp 0 4], (MC.reg
 [⟨some 4, MOp.mv (Opd.c (AV.bool false)), none⟩]).seq
 ((MC.reg
 [⟨some 13, MOp.call 19 [], none⟩,
 ⟨some 5, MOp.mv (Opd.s 13), none⟩]).seq
 (((MC.reg
 [⟨some 14, MOp.mv (Opd.s 5), none⟩,
 ⟨some 15, MOp.un .not (Opd.s 14), none⟩]).seq
 (MC.cond (Opd.s 15)
 ((MC.reg
 [⟨some 4, MOp.mv (Opd.c (AV.bool false)), none⟩]).seq
 MC.ret)
 MC.skip)).seq
 ((MC.reg
 [⟨some 6, MOp.mv (Opd.c AV.nils), none⟩]).seq
 ((MC.reg
 [⟨some 7, MOp.mv (Opd.c AV.nils), none⟩]).seq
 (((MC.reg
 [⟨some 8, MOp.mv (Opd.c (AV.int .i64 0)), none⟩]).seq
 (MC.block 0
 (MC.loop M9b2l M9b2))).seq
 M9r2))))) ⟩
def M18b0 : MC :=
 ((MC.reg
 [⟨some 47, MOp.bin .lss (Opd.s 46)
 (Opd.s 45), none⟩]).seq
 ((MC.cond (Opd.s 47) MC.skip
 (MC.exit 2)).seq
 ((MC.block 3
 ((MC.reg
 [⟨some 48, MOp.mv (Opd.s 46), none⟩,
 ⟨some 10, MOp.mv (Opd.s 48), none⟩]).seq
 (MC.reg
 [⟨some 49, MOp.mv (Opd.s 7), none⟩,
 ⟨some 50, MOp.mv (Opd.s 10), none⟩,
 ⟨some 51, MOp.ixa 1 (Opd.s 49) (Opd.s 50), none⟩,
 ⟨some 52, MOp.load none (Opd.s 51), none⟩,
 ⟨some 53, MOp.bin .xor (Opd.s 52)
 (Opd.c
 (AV.int .u8 255)), none⟩,
 ⟨some 54, MOp.ixa 1 (Opd.s 49) (Opd.s 50), none⟩,
 ⟨none, MOp.store 1 (Opd.s 54)
 (Opd.s 53), none⟩]))).seq
 (MC.reg
 [⟨some 55, MOp.bin .add (Opd.s 46)
 (Opd.c
 (AV.int .i64 1)), none⟩,
 ⟨some 46, MOp.mv (Opd.s 55), none⟩]))))
def M18b0l : List Bool := [true, false, false, false, true, true, false, true, false, false, false, false, false, false, false, false, false, false, false, false, true, true, false, false, false, false, false, false, false, false, false, false, false, false, false, false, false, false, false, false, false, false, false, false, false, true, true, false, false, false, false, false, false, false, false, false, false, false, false, false, false]
def M18b1 : MC :=
 ((MC.reg
 [⟨some 22, MOp.bin .lss (Opd.s 21) (Opd.s 20), none⟩]).seq
 ((MC.cond (Opd.s 22) MC.skip (MC.exit 0)).seq
 ((MC.block 1
 ((MC.reg
 [⟨some 23, MOp.mv (Opd.s 21), none⟩,
 ⟨some 6, MOp.mv (Opd.s 23), none⟩]).seq
 ((MC.reg
 [⟨some 25, MOp.mv (Opd.s 4), none⟩,
 ⟨some 26, MOp.mv (Opd.s 0), none⟩,
 ⟨some 27, MOp.mv (Opd.s 6), none⟩,
 ⟨some 28, MOp.ixa 1 (Opd.s 26) (Opd.s 27), none⟩,
 ⟨some 29, MOp.load none (Opd.s 28), none⟩,
 ⟨some 30, MOp.call 37 [(0, Opd.s 25), (0, Opd.s 29)], none⟩,
 ⟨some 24, MOp.mv (Opd.s 30), none⟩,
 ⟨some 31, MOp.ext 0 (Opd.s 24), none⟩,
 ⟨some 32, MOp.ext 1 (Opd.s 24), none⟩,
 ⟨some 33, MOp.ext 2 (Opd.s 24), none⟩,
 ⟨some 7, MOp.mv (Opd.s 31), none⟩,
 ⟨some 8, MOp.mv (Opd.s 32), none⟩,
 ⟨some 9, MOp.mv (Opd.s 33), none⟩]).seq
 ((MC.reg
 [⟨some 34, MOp.mv (Opd.s 9), none⟩,
 ⟨some 35, MOp.mv (Opd.s 34), none⟩,
 ⟨some 36, MOp.mv (Opd.s 8), some (35, true)⟩,
 ⟨some 37, MOp.bin .eql (Opd.s 36)
 (Opd.c (AV.int .i64 0)), some (35, true)⟩,
 ⟨some 38, MOp.pick (Opd.s 35) (Opd.s 37)
 (Opd.c (AV.bool false)), none⟩]).seq
 (MC.cond (Opd.s 38)
 ((MC.reg
 [⟨some 39, MOp.mv (Opd.s 5), none⟩,
 ⟨some 40, MOp.mv (Opd.s 7), none⟩,
 ⟨some 41, MOp.app true 1 1 (Opd.c AV.nils)
 (Opd.s 40), none⟩,
 ⟨some 42, MOp.bsl false 1 1 [AV.nils]
 [(0, 1, Opd.s 41)], none⟩,
 ⟨some 43, MOp.app false 1 24 (Opd.s 39) (Opd.s 42), none⟩,
 ⟨some 5, MOp.mv (Opd.s 43), none⟩]).seq
 ((MC.reg
 [⟨some 44, MOp.mv (Opd.s 7), none⟩,
 ⟨some 45, MOp.len (Opd.s 44), none⟩,
 ⟨some 46, MOp.mv
 (Opd.c (AV.int .i64 0)), none⟩]).seq
 (MC.block 2
 (MC.loop M18b0l M18b0))))
 MC.skip))))).seq
 (MC.reg
 [⟨some 56, MOp.bin .add (Opd.s 21)
 (Opd.c (AV.int .i64 1)), none⟩,
 ⟨some 21, MOp.mv (Opd.s 56), none⟩]))))
def M18b1l : List Bool := [true, false, false, false, true, true, false, false, false, false, false, false, false, false, false, false, false, false, false, false, true, true, false, false, false, false, false, false, false, false, false, false, false, false, false, false, false, false, false, false, false, false, false, false, false, false, false, false, false, false, false, false, false, false, false, false, false, false, false, false, false]
def M18r1 : MC :=
 ((MC.reg
 [⟨some 57, MOp.mv (Opd.s 5), none⟩,
 ⟨some 58, MOp.mv (Opd.s 0), none⟩,
 ⟨some 59, MOp.call 35
 [(0, Opd.c (AV.int .i64 50)), (1, Opd.s 58)], none⟩,
 ⟨some 60, MOp.call 40 [(1, Opd.s 57), (1, Opd.s 59)], none⟩,
 ⟨some 2, MOp.mv (Opd.s 60), none⟩]).seq
 MC.ret)
def M18 : MFun :=
 ⟨61, [MRes.tmp 0 2], (MC.reg
 [⟨some 2, MOp.mv (Opd.c (AV.bool false)), none⟩]).seq
 ((MC.reg
 [⟨some 11, MOp.call 19 [], none⟩,
 ⟨some 3, MOp.mv (Opd.s 11), none⟩]).seq
 (((MC.reg
 [⟨some 12, MOp.mv (Opd.s 3), none⟩,
 ⟨some 13, MOp.un .not (Opd.s 12), none⟩]).seq
 (MC.cond (Opd.s 13)
 ((MC.reg
 [⟨some 2, MOp.mv (Opd.c (AV.bool false)), none⟩]).seq
 MC.ret)
 MC.skip)).seq
 ((MC.reg
 [⟨some 14, MOp.mv (Opd.s 0), none⟩,
 ⟨some 15, MOp.call 20
 [(1, Opd.s 14), (0, Opd.c (AV.int .i64 200))], none⟩,
 ⟨some 0, MOp.mv (Opd.s 15), none⟩]).seq
 ((MC.reg
 [⟨some 16, MOp.call 36 [(0, Opd.c (AV.int .i64 50))], none⟩,
 ⟨some 4, MOp.mv (Opd.s 16), none⟩]).seq
 (((MC.reg
 [⟨some 17, MOp.mv (Opd.s 4), none⟩,
 ⟨some 18, MOp.eqv false EqK.ptr (Opd.s 17) (Opd.c AV.nilp), none⟩]).seq
 (MC.cond (Opd.s 18)
 ((MC.reg
 [⟨some 2, MOp.mv (Opd.c (AV.bool false)), none⟩]).seq
 MC.ret)
 MC.skip)).seq
 ((MC.reg
 [⟨some 5, MOp.mv (Opd.c AV.nils), none⟩]).seq
 (((MC.reg
 [⟨some 19, MOp.mv (Opd.s 0), none⟩,
 ⟨some 20, MOp.len (Opd.s 19), none⟩,
 ⟨some 21, MOp.mv (Opd.c (AV.int .i64 0)), none⟩]).seq
 (MC.block 0
 (MC.loop M18b1l M18b1))).seq
 M18r1))))))) ⟩
theorem tab9 : tableOf Try.prog 9 = some M9 := by kernel_rfl
theorem tab18 : tableOf Try.prog 18 = some M18 := by kernel_rfl
end Go.Proofs.Ytghfinbdgnggjaa
