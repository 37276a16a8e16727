/- Functions of the program in the evaluator's form, written out by a program. No conditions. -/
import Derived.Test.YtghfinbdgnggjaaM
set_option linter.unusedVariables false
namespace Go.Proofs.Ytghfinbdgnggjaa
open Go Go.Ab
def M8b0 : MC :=
 ((MC.reg
 [⟨some 55, MOp.bin .lss (Opd.s 54) (Opd.s 53), none⟩]).seq
 ((MC.cond (Opd.s 55) MC.skip (MC.exit 2)).seq
 ((MC.block 3
 ((MC.reg
 [⟨some 56, MOp.mv (Opd.s 54), none⟩,
 ⟨some 15, MOp.mv (Opd.s 56), none⟩]).seq
 ((MC.reg
 [⟨some 57, MOp.mv (Opd.s 10), none⟩,
 ⟨some 58, MOp.mv (Opd.s 15), none⟩,
 ⟨some 59, MOp.ixa 1 (Opd.s 57) (Opd.s 58), none⟩,
 ⟨some 60, MOp.load none (Opd.s 59), none⟩,
 ⟨some 61, MOp.bin .eql (Opd.s 60)
 (Opd.c (AV.int .u8 192)), none⟩,
 ⟨some 62, MOp.mv (Opd.s 61), none⟩,
 ⟨some 63, MOp.mv (Opd.s 10), some (62, false)⟩,
 ⟨some 64, MOp.mv (Opd.s 15), some (62, false)⟩,
 ⟨some 65, MOp.ixa 1 (Opd.s 63) (Opd.s 64), some (62, false)⟩,
 ⟨some 66, MOp.load none (Opd.s 65), some (62, false)⟩,
 ⟨some 67, MOp.bin .eql (Opd.s 66)
 (Opd.c (AV.int .u8 193)), some (62, false)⟩,
 ⟨some 68, MOp.pick (Opd.s 62)
 (Opd.c (AV.bool true)) (Opd.s 67), none⟩]).seq
 (MC.cond (Opd.s 68)
 (MC.reg
 [⟨some 69, MOp.mv (Opd.s 14), none⟩,
 ⟨some 70, MOp.bin .add (Opd.s 69)
 (Opd.c (AV.int .i64 1)), none⟩,
 ⟨some 14, MOp.mv (Opd.s 70), none⟩])
 MC.skip)))).seq
 (MC.reg
 [⟨some 71, MOp.bin .add (Opd.s 54)
 (Opd.c (AV.int .i64 1)), none⟩,
 ⟨some 54, MOp.mv (Opd.s 71), none⟩]))))
def M8b0l : List Bool := [true, false, false, false, false, false, false, false, false, false, true, false, true, false, true, false, false, false, false, false, false, false, false, false, false, false, false, false, false, false, false, false, false, false, false, false, false, false, false, false, false, false, false, false, false, false, false, false, false, false, false, false, false, true, true, false, false, false, false, false, false, false, false, false, false, false, false, false, false, false, false, false, false, false, false, false, false, false, false, false, false, false, false, false, false, false, false, false]
def M8b1 : MC :=
 ((MC.reg
 [⟨some 38, MOp.bin .lss (Opd.s 37) (Opd.s 36), none⟩]).seq
 ((MC.cond (Opd.s 38) MC.skip (MC.exit 0)).seq
 ((MC.block 1
 ((MC.reg
 [⟨some 39, MOp.mv (Opd.s 37), none⟩,
 ⟨some 13, MOp.mv (Opd.s 39), none⟩]).seq
 (MC.draw
 [⟨some 40, MOp.mv (Opd.s 12), none⟩,
 ⟨some 41, MOp.mv (Opd.s 40), none⟩,
 ⟨some 42, MOp.mv (Opd.s 11), some (41, false)⟩,
 ⟨some 43, MOp.mv (Opd.s 13), some (41, false)⟩,
 ⟨some 44, MOp.ixa 1 (Opd.s 42) (Opd.s 43), some (41, false)⟩,
 ⟨some 45, MOp.load none (Opd.s 44), some (41, false)⟩,
 ⟨some 46, MOp.conv Cv.b2s (Opd.s 45), some (41, false)⟩,
 ⟨some 47, MOp.mv (Opd.s 0), some (41, false)⟩,
 ⟨some 48, MOp.conv Cv.b2s (Opd.s 47), some (41, false)⟩,
 ⟨some 49, MOp.bin .eql (Opd.s 46) (Opd.s 48), some (41, false)⟩,
 ⟨some 50, MOp.pick (Opd.s 41)
 (Opd.c (AV.bool true)) (Opd.s 49), none⟩,
 ⟨some 12, MOp.mv (Opd.s 50), none⟩]
 [0, 1, 3, 3, 15, 31, 63, 3, 131, 511, 1023, 2047]))).seq
 (MC.reg
 [⟨some 51, MOp.bin .add (Opd.s 37)
 (Opd.c (AV.int .i64 1)), none⟩,
 ⟨some 37, MOp.mv (Opd.s 51), none⟩]))))
def M8b1l : List Bool := [true, false, false, false, false, false, false, false, false, false, true, true, true, false, false, false, false, false, false, false, false, false, false, false, false, false, false, false, false, false, false, false, false, false, false, false, true, true, false, false, false, false, false, false, false, false, false, false, false, false, false, false, false, false, false, false, false, false, false, false, false, false, false, false, false, false, false, false, false, false, false, false, false, false, false, false, false, false, false, false, false, false, false, false, false, false, false, false]
def M8 : MFun :=
 ⟨88, [MRes.tmp 0 8], (MC.reg
 [⟨some 8, MOp.mv (Opd.c (AV.bool false)), none⟩]).seq
 ((MC.reg
 [⟨some 16, MOp.call 19 [], none⟩,
 ⟨some 9, MOp.mv (Opd.s 16), none⟩]).seq
 (((MC.reg
 [⟨some 17, MOp.mv (Opd.s 9), none⟩,
 ⟨some 18, MOp.un .not (Opd.s 17), none⟩]).seq
 (MC.cond (Opd.s 18)
 ((MC.reg
 [⟨some 8, MOp.mv (Opd.c (AV.bool false)), none⟩]).seq
 MC.ret)
 MC.skip)).seq
 ((MC.reg
 [⟨some 19, MOp.mv (Opd.s 0), none⟩,
 ⟨some 20, MOp.call 20
 [(1, Opd.s 19), (0, Opd.c (AV.int .i64 90))], none⟩,
 ⟨some 21, MOp.mv (Opd.s 1), none⟩,
 ⟨some 22, MOp.call 20
 [(1, Opd.s 21), (0, Opd.c (AV.int .i64 30))], none⟩,
 ⟨some 23, MOp.mv (Opd.s 2), none⟩,
 ⟨some 24, MOp.call 20
 [(1, Opd.s 23), (0, Opd.c (AV.int .i64 30))], none⟩,
 ⟨some 0, MOp.mv (Opd.s 20), none⟩,
 ⟨some 1, MOp.mv (Opd.s 22), none⟩,
 ⟨some 2, MOp.mv (Opd.s 24), none⟩]).seq
 ((MC.reg
 [⟨some 25, MOp.mv (Opd.s 0), none⟩,
 ⟨some 26, MOp.mv (Opd.s 3), none⟩,
 ⟨some 27, MOp.call 29 [(1, Opd.s 25), (0, Opd.s 26)], none⟩,
 ⟨some 10, MOp.mv (Opd.s 27), none⟩]).seq
 ((MC.reg
 [⟨some 28, MOp.mv (Opd.s 1), none⟩,
 ⟨some 29, MOp.app false 1 1 (Opd.c AV.nils) (Opd.s 28), none⟩,
 ⟨some 30, MOp.mv (Opd.s 10), none⟩,
 ⟨some 31, MOp.app false 1 1 (Opd.s 29) (Opd.s 30), none⟩,
 ⟨some 32, MOp.mv (Opd.s 2), none⟩,
 ⟨some 33, MOp.app false 1 1 (Opd.s 31) (Opd.s 32), none⟩,
 ⟨some 34, MOp.call 35
 [(0, Opd.c (AV.int .i64 100)), (1, Opd.s 33)], none⟩,
 ⟨some 11, MOp.mv (Opd.s 34), none⟩]).seq
 ((MC.reg
 [⟨some 12, MOp.mv (Opd.c (AV.bool false)), none⟩]).seq
 (((MC.reg
 [⟨some 35, MOp.mv (Opd.s 11), none⟩,
 ⟨some 36, MOp.len (Opd.s 35), none⟩,
 ⟨some 37, MOp.mv (Opd.c (AV.int .i64 0)), none⟩]).seq
 (MC.block 0
 (MC.loop M8b1l M8b1))).seq
 ((MC.reg
 [⟨some 14, MOp.mv (Opd.c (AV.int .i64 0)), none⟩]).seq
 (((MC.reg
 [⟨some 52, MOp.mv (Opd.s 10), none⟩,
 ⟨some 53, MOp.len (Opd.s 52), none⟩,
 ⟨some 54, MOp.mv (Opd.c (AV.int .i64 0)), none⟩]).seq
 (MC.block 2
 (MC.loop M8b0l M8b0))).seq
 ((MC.reg
 [⟨some 72, MOp.mv (Opd.s 12), none⟩,
 ⟨some 73, MOp.mv (Opd.s 0), none⟩,
 ⟨some 74, MOp.len (Opd.s 73), none⟩,
 ⟨some 75, MOp.bin .gtr (Opd.s 74)
 (Opd.c (AV.int .i64 0)), none⟩,
 ⟨some 76, MOp.eqv false (EqK.flat (EqF.one SK.b))
 (Opd.s 72) (Opd.s 75), none⟩,
 ⟨some 77, MOp.mv (Opd.s 76), none⟩,
 ⟨some 78, MOp.mv (Opd.s 14), some (77, true)⟩,
 ⟨some 79, MOp.bin .eql (Opd.s 78)
 (Opd.c (AV.int .i64 2)), some (77, true)⟩,
 ⟨some 80, MOp.pick (Opd.s 77) (Opd.s 79)
 (Opd.c (AV.bool false)), none⟩,
 ⟨some 81, MOp.mv (Opd.s 80), none⟩,
 ⟨some 82, MOp.mv (Opd.s 0), some (81, true)⟩,
 ⟨some 83, MOp.call 33 [(1, Opd.s 82)], some (81, true)⟩,
 ⟨some 84, MOp.call 35
 [(0, Opd.c (AV.int .i64 100)),
 (1, Opd.s 83)], some (81, true)⟩,
 ⟨some 85, MOp.len (Opd.s 84), some (81, true)⟩,
 ⟨some 86, MOp.bin .eql (Opd.s 85)
 (Opd.c (AV.int .i64 0)), some (81, true)⟩,
 ⟨some 87, MOp.pick (Opd.s 81) (Opd.s 86)
 (Opd.c (AV.bool false)), none⟩,
 ⟨some 8, MOp.mv (Opd.s 87), none⟩]).seq
 MC.ret)))))))))) ⟩
def M10b0 : MC :=
 ((MC.reg
 [⟨some 54, MOp.bin .lss (Opd.s 53) (Opd.s 52), none⟩]).seq
 ((MC.cond (Opd.s 54) MC.skip (MC.exit 2)).seq
 ((MC.block 3
 ((MC.reg
 [⟨some 55, MOp.ixa 1 (Opd.s 51) (Opd.s 53), none⟩,
 ⟨some 56, MOp.load none (Opd.s 55), none⟩,
 ⟨some 14, MOp.mv (Opd.s 56), none⟩]).seq
 ((MC.reg
 [⟨some 58, MOp.mv (Opd.s 10), none⟩,
 ⟨some 59, MOp.mv (Opd.s 14), none⟩,
 ⟨some 60, MOp.call 37 [(0, Opd.s 58), (0, Opd.s 59)], none⟩,
 ⟨some 57, MOp.mv (Opd.s 60), none⟩,
 ⟨some 61, MOp.ext 0 (Opd.s 57), none⟩,
 ⟨some 62, MOp.ext 1 (Opd.s 57), none⟩,
 ⟨some 63, MOp.ext 2 (Opd.s 57), none⟩,
 ⟨some 15, MOp.mv (Opd.s 61), none⟩,
 ⟨some 16, MOp.mv (Opd.s 62), none⟩,
 ⟨some 17, MOp.mv (Opd.s 63), none⟩]).seq
 ((MC.reg
 [⟨some 64, MOp.mv (Opd.s 17), none⟩]).seq
 (MC.cond (Opd.s 64)
 ((MC.reg
 [⟨some 65, MOp.mv (Opd.s 11), none⟩,
 ⟨some 66, MOp.bin .add (Opd.s 65)
 (Opd.c
 (AV.int .i64 1)), none⟩,
 ⟨some 11, MOp.mv (Opd.s 66), none⟩]).seq
 ((MC.reg
 [⟨some 67, MOp.mv (Opd.s 16), none⟩,
 ⟨some 68, MOp.bin .neq (Opd.s 67)
 (Opd.c
 (AV.int .i64 0)), none⟩]).seq
 (MC.cond (Opd.s 68)
 (MC.reg
 [⟨some 69, MOp.mv (Opd.s 16), none⟩,
 ⟨some 12, MOp.mv (Opd.s 69), none⟩])
 MC.skip)))
 MC.skip))))).seq
 (MC.reg
 [⟨some 70, MOp.bin .add (Opd.s 53)
 (Opd.c (AV.int .i64 1)), none⟩,
 ⟨some 53, MOp.mv (Opd.s 70), none⟩]))))
def M10b0l : List Bool := [true, true, false, false, false, false, false, false, false, false, true, true, true, false, false, false, false, false, false, false, false, false, false, false, false, false, false, false, false, false, false, false, false, false, false, false, false, false, false, false, false, false, false, false, false, false, false, false, false, false, false, true, true, true, false, false, false, false, false, false, false, false, false, false, false, false, false, false, false, false, false, false, false, false, false, false, false, false, false, false, false, false, false, false, false, false, false, false, false]
def M10b1 : MC :=
 ((MC.reg
 [⟨some 36, MOp.bin .lss (Opd.s 35) (Opd.s 34), none⟩]).seq
 ((MC.cond (Opd.s 36) MC.skip (MC.exit 0)).seq
 ((MC.block 1
 ((MC.reg
 [⟨some 37, MOp.mv (Opd.s 35), none⟩,
 ⟨some 9, MOp.mv (Opd.s 37), none⟩]).seq
 (MC.reg
 [⟨some 38, MOp.mv (Opd.s 8), none⟩,
 ⟨some 39, MOp.mv (Opd.s 9), none⟩,
 ⟨some 40, MOp.mv (Opd.s 2), none⟩,
 ⟨some 41, MOp.ixa 1 (Opd.s 38) (Opd.s 39), none⟩,
 ⟨none, MOp.store 1 (Opd.s 41) (Opd.s 40), none⟩]))).seq
 (MC.reg
 [⟨some 42, MOp.bin .add (Opd.s 35)
 (Opd.c (AV.int .i64 1)), none⟩,
 ⟨some 35, MOp.mv (Opd.s 42), none⟩]))))
def M10b1l : List Bool := [true, true, true, false, false, false, false, false, true, false, false, false, false, false, false, false, false, false, false, false, false, false, false, false, false, false, false, false, false, false, false, false, false, false, true, true, false, false, false, false, false, false, false, false, false, false, false, false, false, false, false, false, false, false, false, false, false, false, false, false, false, false, false, false, false, false, false, false, false, false, false, false, false, false, false, false, false, false, false, false, false, false, false, false, false, false, false, false, false]
def M10 : MFun :=
 ⟨89, [MRes.tmp 0 6], (MC.reg
 [⟨some 6, MOp.mv (Opd.c (AV.bool false)), none⟩]).seq
 ((MC.reg
 [⟨some 18, MOp.call 19 [], none⟩,
 ⟨some 7, MOp.mv (Opd.s 18), none⟩]).seq
 (((MC.reg
 [⟨some 19, MOp.mv (Opd.s 7), none⟩,
 ⟨some 20, MOp.un .not (Opd.s 19), none⟩]).seq
 (MC.cond (Opd.s 20)
 ((MC.reg
 [⟨some 6, MOp.mv (Opd.c (AV.bool false)), none⟩]).seq
 MC.ret)
 MC.skip)).seq
 ((MC.reg
 [⟨some 21, MOp.mv (Opd.s 0), none⟩,
 ⟨some 22, MOp.bin .rem (Opd.s 21)
 (Opd.c (AV.int .i64 40)), none⟩,
 ⟨some 23, MOp.bin .add (Opd.s 22)
 (Opd.c (AV.int .i64 40)), none⟩,
 ⟨some 24, MOp.bin .rem (Opd.s 23)
 (Opd.c (AV.int .i64 40)), none⟩,
 ⟨some 25, MOp.bin .add (Opd.c (AV.int .i64 1))
 (Opd.s 24), none⟩,
 ⟨some 26, MOp.mv (Opd.s 1), none⟩,
 ⟨some 27, MOp.bin .rem (Opd.s 26)
 (Opd.c (AV.int .i64 60)), none⟩,
 ⟨some 28, MOp.bin .add (Opd.s 27)
 (Opd.c (AV.int .i64 60)), none⟩,
 ⟨some 29, MOp.bin .rem (Opd.s 28)
 (Opd.c (AV.int .i64 60)), none⟩,
 ⟨some 30, MOp.bin .add (Opd.c (AV.int .i64 1))
 (Opd.s 29), none⟩,
 ⟨some 0, MOp.mv (Opd.s 25), none⟩,
 ⟨some 1, MOp.mv (Opd.s 30), none⟩]).seq
 ((MC.reg
 [⟨some 31, MOp.mv (Opd.s 1), none⟩,
 ⟨some 32, MOp.mks 1 1 [AV.int .u8 0] (Opd.s 31)
 (Opd.s 31), none⟩,
 ⟨some 8, MOp.mv (Opd.s 32), none⟩]).seq
 (((MC.reg
 [⟨some 33, MOp.mv (Opd.s 8), none⟩,
 ⟨some 34, MOp.len (Opd.s 33), none⟩,
 ⟨some 35, MOp.mv (Opd.c (AV.int .i64 0)), none⟩]).seq
 (MC.block 0
 (MC.loop M10b1l M10b1))).seq
 ((MC.reg
 [⟨some 43, MOp.mv (Opd.s 0), none⟩,
 ⟨some 44, MOp.call 36 [(0, Opd.s 43)], none⟩,
 ⟨some 10, MOp.mv (Opd.s 44), none⟩]).seq
 (((MC.reg
 [⟨some 45, MOp.mv (Opd.s 10), none⟩,
 ⟨some 46, MOp.eqv false EqK.ptr (Opd.s 45) (Opd.c AV.nilp), none⟩]).seq
 (MC.cond (Opd.s 46)
 ((MC.reg
 [⟨some 6, MOp.mv (Opd.c (AV.bool false)), none⟩]).seq
 MC.ret)
 MC.skip)).seq
 ((MC.reg
 [⟨some 11, MOp.mv (Opd.c (AV.int .i64 0)), none⟩,
 ⟨some 12, MOp.mv (Opd.c (AV.int .i64 0)), none⟩]).seq
 (((MC.reg
 [⟨some 47, MOp.mv (Opd.s 8), none⟩,
 ⟨some 48, MOp.call 29
 [(1, Opd.s 47),
 (0, Opd.c (AV.int .i64 0))], none⟩,
 ⟨some 49, MOp.bsl true 1 1 [AV.int .u8 0]
 [(0, 1, Opd.c (AV.int .u8 1))], none⟩,
 ⟨some 50, MOp.call 29
 [(1, Opd.s 49),
 (0, Opd.c (AV.int .i64 2))], none⟩,
 ⟨some 51, MOp.app true 1 1 (Opd.s 48) (Opd.s 50), none⟩,
 ⟨some 52, MOp.len (Opd.s 51), none⟩,
 ⟨some 53, MOp.mv (Opd.c (AV.int .i64 0)), none⟩]).seq
 (MC.block 2
 (MC.loop M10b0l M10b0))).seq
 ((MC.reg
 [⟨some 71, MOp.mv (Opd.s 11), none⟩,
 ⟨some 72, MOp.bin .eql (Opd.s 71)
 (Opd.c (AV.int .i64 2)), none⟩,
 ⟨some 73, MOp.mv (Opd.s 72), none⟩,
 ⟨some 74, MOp.mv (Opd.s 12), some (73, true)⟩,
 ⟨some 75, MOp.bin .eql (Opd.s 74)
 (Opd.c (AV.int .i64 0)), some (73, true)⟩,
 ⟨some 76, MOp.mv (Opd.s 1), some (73, true)⟩,
 ⟨some 77, MOp.mv (Opd.s 0), some (73, true)⟩,
 ⟨some 78, MOp.bin .leq (Opd.s 76) (Opd.s 77), some (73, true)⟩,
 ⟨some 79, MOp.eqv false (EqK.flat (EqF.one SK.b))
 (Opd.s 75) (Opd.s 78), some (73, true)⟩,
 ⟨some 80, MOp.pick (Opd.s 73) (Opd.s 79)
 (Opd.c (AV.bool false)), none⟩,
 ⟨some 81, MOp.mv (Opd.s 80), none⟩,
 ⟨some 82, MOp.mv (Opd.s 12), some (81, true)⟩,
 ⟨some 83, MOp.bin .eql (Opd.s 82)
 (Opd.c (AV.int .i64 0)), some (81, true)⟩,
 ⟨some 84, MOp.mv (Opd.s 83), some (81, true)⟩,
 ⟨some 85, MOp.mv (Opd.s 12), some (84, false)⟩,
 ⟨some 86, MOp.bin .eql (Opd.s 85)
 (Opd.c (AV.int .i64 7)), some (84, false)⟩,
 ⟨some 87, MOp.pick (Opd.s 84) (Opd.c (AV.bool true))
 (Opd.s 86), some (81, true)⟩,
 ⟨some 88, MOp.pick (Opd.s 81) (Opd.s 87)
 (Opd.c (AV.bool false)), none⟩,
 ⟨some 6, MOp.mv (Opd.s 88), none⟩]).seq
 MC.ret)))))))))) ⟩
def M16b0 : MC :=
 ((MC.reg
 [⟨some 63, MOp.bin .lss (Opd.s 62) (Opd.s 61), none⟩]).seq
 ((MC.cond (Opd.s 63) MC.skip (MC.exit 0)).seq
 ((MC.block 1
 ((MC.reg
 [⟨some 64, MOp.ixa 1 (Opd.s 60) (Opd.s 62), none⟩,
 ⟨some 65, MOp.load none (Opd.s 64), none⟩,
 ⟨some 12, MOp.mv (Opd.s 65), none⟩]).seq
 ((MC.reg
 [⟨some 66, MOp.mv (Opd.s 12), none⟩,
 ⟨some 67, MOp.bin .eql (Opd.s 66)
 (Opd.c (AV.int .u8 192)), none⟩,
 ⟨some 68, MOp.mv (Opd.s 67), none⟩,
 ⟨some 69, MOp.mv (Opd.s 12), some (68, false)⟩,
 ⟨some 70, MOp.bin .eql (Opd.s 69)
 (Opd.c (AV.int .u8 193)), some (68, false)⟩,
 ⟨some 71, MOp.pick (Opd.s 68)
 (Opd.c (AV.bool true)) (Opd.s 70), none⟩,
 ⟨some 72, MOp.mv (Opd.s 71), none⟩,
 ⟨some 73, MOp.mv (Opd.s 12), some (72, false)⟩,
 ⟨some 74, MOp.bin .eql (Opd.s 73)
 (Opd.c (AV.int .u8 125)), some (72, false)⟩,
 ⟨some 75, MOp.pick (Opd.s 72)
 (Opd.c (AV.bool true)) (Opd.s 74), none⟩]).seq
 (MC.cond (Opd.s 75)
 ((MC.reg
 [⟨some 76, MOp.mv (Opd.s 10), none⟩,
 ⟨some 77, MOp.call 35
 [(0,
 Opd.c
 (AV.int .i64 100)),
 (1, Opd.s 76)], none⟩,
 ⟨some 78, MOp.mv (Opd.s 10), none⟩,
 ⟨some 79, MOp.call 41
 [(0,
 Opd.c
 (AV.int .i64 100)),
 (1, Opd.s 78)], none⟩,
 ⟨some 80, MOp.call 40
 [(1, Opd.s 77), (1, Opd.s 79)], none⟩,
 ⟨some 6, MOp.mv (Opd.s 80), none⟩]).seq
 MC.ret)
 MC.skip)))).seq
 (MC.reg
 [⟨some 81, MOp.bin .add (Opd.s 62)
 (Opd.c (AV.int .i64 1)), none⟩,
 ⟨some 62, MOp.mv (Opd.s 81), none⟩]))))
def M16b0l : List Bool := [false, false, false, false, false, false, false, false, false, false, true, false, false, false, false, false, false, false, false, false, false, false, false, false, false, false, false, false, false, false, false, false, false, false, false, false, false, false, false, false, false, false, false, false, false, false, false, false, false, false, false, false, false, false, false, false, false, false, false, false, true, true, true, false, false, false, false, false, false, false, false, false, false, false, false, false, false, false, false, false, false, false, false, false, false, false]
def M16 : MFun :=
 ⟨86, [MRes.tmp 0 6], (MC.reg
 [⟨some 6, MOp.mv (Opd.c (AV.bool false)), none⟩]).seq
 ((MC.reg
 [⟨some 13, MOp.call 19 [], none⟩,
 ⟨some 7, MOp.mv (Opd.s 13), none⟩]).seq
 (((MC.reg
 [⟨some 14, MOp.mv (Opd.s 7), none⟩,
 ⟨some 15, MOp.un .not (Opd.s 14), none⟩]).seq
 (MC.cond (Opd.s 15)
 ((MC.reg
 [⟨some 6, MOp.mv (Opd.c (AV.bool false)), none⟩]).seq
 MC.ret)
 MC.skip)).seq
 ((MC.reg
 [⟨some 16, MOp.mv (Opd.s 0), none⟩,
 ⟨some 17, MOp.call 20
 [(1, Opd.s 16), (0, Opd.c (AV.int .i64 60))], none⟩,
 ⟨some 0, MOp.mv (Opd.s 17), none⟩]).seq
 ((MC.reg
 [⟨some 18, MOp.mv (Opd.s 0), none⟩,
 ⟨some 19, MOp.call 29
 [(1, Opd.s 18), (0, Opd.c (AV.int .i64 0))], none⟩,
 ⟨some 8, MOp.mv (Opd.s 19), none⟩]).seq
 (((MC.reg
 [⟨some 20, MOp.mv (Opd.s 0), none⟩,
 ⟨some 21, MOp.len (Opd.s 20), none⟩,
 ⟨some 22, MOp.bin .eql (Opd.s 21)
 (Opd.c (AV.int .i64 0)), none⟩,
 ⟨some 23, MOp.mv (Opd.s 22), none⟩,
 ⟨some 24, MOp.mv (Opd.s 1), some (23, false)⟩,
 ⟨some 25, MOp.bin .lss (Opd.s 24)
 (Opd.c (AV.int .i64 0)), some (23, false)⟩,
 ⟨some 26, MOp.pick (Opd.s 23) (Opd.c (AV.bool true))
 (Opd.s 25), none⟩,
 ⟨some 27, MOp.mv (Opd.s 26), none⟩,
 ⟨some 28, MOp.mv (Opd.s 2), some (27, false)⟩,
 ⟨some 29, MOp.bin .eql (Opd.s 28)
 (Opd.c (AV.int .u8 0)), some (27, false)⟩,
 ⟨some 30, MOp.pick (Opd.s 27) (Opd.c (AV.bool true))
 (Opd.s 29), none⟩]).seq
 (MC.cond (Opd.s 30)
 ((MC.reg
 [⟨some 31, MOp.mv (Opd.s 8), none⟩,
 ⟨some 32, MOp.call 35
 [(0, Opd.c (AV.int .i64 100)),
 (1, Opd.s 31)], none⟩,
 ⟨some 33, MOp.len (Opd.s 32), none⟩,
 ⟨some 34, MOp.mv (Opd.s 0), none⟩,
 ⟨some 35, MOp.len (Opd.s 34), none⟩,
 ⟨some 36, MOp.bin .gtr (Opd.s 35)
 (Opd.c (AV.int .i64 0)), none⟩,
 ⟨some 37, MOp.call 39 [(0, Opd.s 36)], none⟩,
 ⟨some 38, MOp.bin .eql (Opd.s 33) (Opd.s 37), none⟩,
 ⟨some 6, MOp.mv (Opd.s 38), none⟩]).seq
 MC.ret)
 MC.skip)).seq
 ((MC.reg
 [⟨some 39, MOp.mv (Opd.s 1), none⟩,
 ⟨some 40, MOp.mv (Opd.s 8), none⟩,
 ⟨some 41, MOp.len (Opd.s 40), none⟩,
 ⟨some 42, MOp.bin .rem (Opd.s 39) (Opd.s 41), none⟩,
 ⟨some 9, MOp.mv (Opd.s 42), none⟩]).seq
 ((MC.reg
 [⟨some 43, MOp.mv (Opd.s 8), none⟩,
 ⟨some 44, MOp.app true 1 1 (Opd.c AV.nils) (Opd.s 43), none⟩,
 ⟨some 10, MOp.mv (Opd.s 44), none⟩]).seq
 ((MC.reg
 [⟨some 45, MOp.mv (Opd.s 10), none⟩,
 ⟨some 46, MOp.mv (Opd.s 9), none⟩,
 ⟨some 47, MOp.ixa 1 (Opd.s 45) (Opd.s 46), none⟩,
 ⟨some 48, MOp.load none (Opd.s 47), none⟩,
 ⟨some 49, MOp.mv (Opd.s 2), none⟩,
 ⟨some 50, MOp.bin .xor (Opd.s 48) (Opd.s 49), none⟩,
 ⟨some 51, MOp.ixa 1 (Opd.s 45) (Opd.s 46), none⟩,
 ⟨none, MOp.store 1 (Opd.s 51) (Opd.s 50), none⟩]).seq
 (((MC.draw
 [⟨some 52, MOp.mv (Opd.s 8), none⟩,
 ⟨some 53, MOp.mv (Opd.s 9), none⟩,
 ⟨some 54, MOp.ixa 1 (Opd.s 52) (Opd.s 53), none⟩,
 ⟨some 55, MOp.load none (Opd.s 54), none⟩,
 ⟨some 56, MOp.mv (Opd.s 10), none⟩,
 ⟨some 57, MOp.mv (Opd.s 9), none⟩,
 ⟨some 58, MOp.ixa 1 (Opd.s 56) (Opd.s 57), none⟩,
 ⟨some 59, MOp.load none (Opd.s 58), none⟩,
 ⟨some 60, MOp.bsl true 1 2
 [AV.int .u8 0,
 AV.int .u8 0]
 [(0, 1, Opd.s 55), (1, 1, Opd.s 59)], none⟩,
 ⟨some 61, MOp.len (Opd.s 60), none⟩,
 ⟨some 62, MOp.mv (Opd.c (AV.int .i64 0)), none⟩]
 [0, 0, 3, 7, 0, 0, 48, 112, 255, 511, 0]).seq
 (MC.block 0
 (MC.loop M16b0l M16b0))).seq
 ((MC.reg
 [⟨some 82, MOp.mv (Opd.s 10), none⟩,
 ⟨some 83, MOp.call 35
 [(0, Opd.c (AV.int .i64 100)),
 (1, Opd.s 82)], none⟩,
 ⟨some 84, MOp.len (Opd.s 83), none⟩,
 ⟨some 85, MOp.bin .eql (Opd.s 84)
 (Opd.c (AV.int .i64 0)), none⟩,
 ⟨some 6, MOp.mv (Opd.s 85), none⟩]).seq
 MC.ret)))))))))) ⟩
def M17 : MFun :=
 ⟨51, [MRes.tmp 0 6], (MC.reg
 [⟨some 6, MOp.mv (Opd.c (AV.bool false)), none⟩]).seq
 ((MC.reg
 [⟨some 11, MOp.call 19 [], none⟩,
 ⟨some 7, MOp.mv (Opd.s 11), none⟩]).seq
 (((MC.reg
 [⟨some 12, MOp.mv (Opd.s 7), none⟩,
 ⟨some 13, MOp.un .not (Opd.s 12), none⟩]).seq
 (MC.cond (Opd.s 13)
 ((MC.reg
 [⟨some 6, MOp.mv (Opd.c (AV.bool false)), none⟩]).seq
 MC.ret)
 MC.skip)).seq
 ((MC.reg
 [⟨some 14, MOp.mv (Opd.s 0), none⟩,
 ⟨some 15, MOp.call 20
 [(1, Opd.s 14), (0, Opd.c (AV.int .i64 40))], none⟩,
 ⟨some 16, MOp.mv (Opd.s 1), none⟩,
 ⟨some 17, MOp.call 20
 [(1, Opd.s 16), (0, Opd.c (AV.int .i64 40))], none⟩,
 ⟨some 0, MOp.mv (Opd.s 15), none⟩,
 ⟨some 1, MOp.mv (Opd.s 17), none⟩]).seq
 ((MC.reg
 [⟨some 18, MOp.mv (Opd.s 0), none⟩,
 ⟨some 19, MOp.call 29
 [(1, Opd.s 18), (0, Opd.c (AV.int .i64 1))], none⟩,
 ⟨some 8, MOp.mv (Opd.s 19), none⟩]).seq
 (((MC.reg
 [⟨some 20, MOp.mv (Opd.s 1), none⟩,
 ⟨some 21, MOp.len (Opd.s 20), none⟩,
 ⟨some 22, MOp.bin .eql (Opd.s 21)
 (Opd.c (AV.int .i64 0)), none⟩,
 ⟨some 23, MOp.mv (Opd.s 22), none⟩,
 ⟨some 24, MOp.mv (Opd.s 2), some (23, false)⟩,
 ⟨some 25, MOp.bin .lss (Opd.s 24)
 (Opd.c (AV.int .i64 0)), some (23, false)⟩,
 ⟨some 26, MOp.pick (Opd.s 23) (Opd.c (AV.bool true))
 (Opd.s 25), none⟩]).seq
 (MC.cond (Opd.s 26)
 ((MC.reg
 [⟨some 6, MOp.mv (Opd.c (AV.bool true)), none⟩]).seq
 MC.ret)
 MC.skip)).seq
 ((MC.reg
 [⟨some 27, MOp.mv (Opd.s 2), none⟩,
 ⟨some 28, MOp.mv (Opd.s 8), none⟩,
 ⟨some 29, MOp.len (Opd.s 28), none⟩,
 ⟨some 30, MOp.bin .rem (Opd.s 27) (Opd.s 29), none⟩,
 ⟨some 9, MOp.mv (Opd.s 30), none⟩]).seq
 ((MC.reg
 [⟨some 31, MOp.mv (Opd.s 8), none⟩,
 ⟨some 32, MOp.mv (Opd.s 9), none⟩,
 ⟨some 33, MOp.slc 1 (Opd.s 31) none (some (Opd.s 32)), none⟩,
 ⟨some 34, MOp.app false 1 1 (Opd.c AV.nils) (Opd.s 33), none⟩,
 ⟨some 35, MOp.mv (Opd.s 1), none⟩,
 ⟨some 36, MOp.call 29
 [(1, Opd.s 35), (0, Opd.c (AV.int .i64 0))], none⟩,
 ⟨some 37, MOp.app false 1 1 (Opd.s 34) (Opd.s 36), none⟩,
 ⟨some 38, MOp.call 35
 [(0, Opd.c (AV.int .i64 60)), (1, Opd.s 37)], none⟩,
 ⟨some 10, MOp.mv (Opd.s 38), none⟩]).seq
 ((MC.draw
 [⟨some 39, MOp.mv (Opd.s 10), none⟩,
 ⟨some 40, MOp.len (Opd.s 39), none⟩,
 ⟨some 41, MOp.bin .eql (Opd.s 40)
 (Opd.c (AV.int .i64 1)), none⟩,
 ⟨some 42, MOp.mv (Opd.s 41), none⟩,
 ⟨some 43, MOp.mv (Opd.s 10), some (42, true)⟩,
 ⟨some 44, MOp.ixa 1 (Opd.s 43)
 (Opd.c (AV.int .i64 0)), some (42, true)⟩,
 ⟨some 45, MOp.load none (Opd.s 44), some (42, true)⟩,
 ⟨some 46, MOp.conv Cv.b2s (Opd.s 45), some (42, true)⟩,
 ⟨some 47, MOp.mv (Opd.s 1), some (42, true)⟩,
 ⟨some 48, MOp.conv Cv.b2s (Opd.s 47), some (42, true)⟩,
 ⟨some 49, MOp.bin .eql (Opd.s 46) (Opd.s 48), some (42, true)⟩,
 ⟨some 50, MOp.pick (Opd.s 42) (Opd.s 49)
 (Opd.c (AV.bool false)), none⟩,
 ⟨some 6, MOp.mv (Opd.s 50), none⟩]
 [0, 1, 3, 7, 15, 31, 63, 127, 15, 271, 1023, 2047, 4095]).seq
 MC.ret)))))))) ⟩
def M35b0 : MC :=
 ((MC.reg
 [⟨some 17, MOp.bin .lss (Opd.s 16) (Opd.s 15), none⟩]).seq
 ((MC.cond (Opd.s 17) MC.skip (MC.exit 0)).seq
 ((MC.block 1
 ((MC.reg
 [⟨some 18, MOp.ixa 1 (Opd.s 14) (Opd.s 16), none⟩,
 ⟨some 19, MOp.load none (Opd.s 18), none⟩,
 ⟨some 8, MOp.mv (Opd.s 19), none⟩]).seq
 ((MC.reg
 [⟨some 21, MOp.mv (Opd.s 5), none⟩,
 ⟨some 22, MOp.mv (Opd.s 8), none⟩,
 ⟨some 23, MOp.call 37 [(0, Opd.s 21), (0, Opd.s 22)], none⟩,
 ⟨some 20, MOp.mv (Opd.s 23), none⟩,
 ⟨some 24, MOp.ext 0 (Opd.s 20), none⟩,
 ⟨some 25, MOp.ext 1 (Opd.s 20), none⟩,
 ⟨some 26, MOp.ext 2 (Opd.s 20), none⟩,
 ⟨some 9, MOp.mv (Opd.s 24), none⟩,
 ⟨some 10, MOp.mv (Opd.s 25), none⟩,
 ⟨some 11, MOp.mv (Opd.s 26), none⟩]).seq
 ((MC.reg
 [⟨some 27, MOp.mv (Opd.s 11), none⟩,
 ⟨some 28, MOp.mv (Opd.s 27), none⟩,
 ⟨some 29, MOp.mv (Opd.s 10), some (28, true)⟩,
 ⟨some 30, MOp.bin .eql (Opd.s 29)
 (Opd.c (AV.int .i64 0)), some (28, true)⟩,
 ⟨some 31, MOp.pick (Opd.s 28) (Opd.s 30)
 (Opd.c (AV.bool false)), none⟩]).seq
 (MC.cond (Opd.s 31)
 (MC.reg
 [⟨some 32, MOp.mv (Opd.s 6), none⟩,
 ⟨some 33, MOp.mv (Opd.s 9), none⟩,
 ⟨some 34, MOp.bsl false 1 1 [AV.nils] [(0, 1, Opd.s 33)], none⟩,
 ⟨some 35, MOp.app false 1 24 (Opd.s 32) (Opd.s 34), none⟩,
 ⟨some 6, MOp.mv (Opd.s 35), none⟩])
 MC.skip))))).seq
 (MC.reg
 [⟨some 36, MOp.bin .add (Opd.s 16)
 (Opd.c (AV.int .i64 1)), none⟩,
 ⟨some 16, MOp.mv (Opd.s 36), none⟩]))))
def M35b0l : List Bool := [false, false, false, false, false, true, true, false, false, false, false, false, false, false, true, true, true, false, false, false, false, false, false, false, false, false, false, false, false, false, false, false, false, false, false, false, false, false]
def M35 : MFun :=
 ⟨38, [MRes.tmp 1 4], (MC.reg
 [⟨some 4, MOp.mv (Opd.c AV.nils), none⟩]).seq
 ((MC.reg
 [⟨some 12, MOp.mv (Opd.s 0), none⟩,
 ⟨some 13, MOp.call 36 [(0, Opd.s 12)], none⟩,
 ⟨some 5, MOp.mv (Opd.s 13), none⟩]).seq
 ((MC.reg
 [⟨some 6, MOp.mv (Opd.c AV.nils), none⟩]).seq
 (((MC.reg
 [⟨some 14, MOp.mv (Opd.s 1), none⟩,
 ⟨some 15, MOp.len (Opd.s 14), none⟩,
 ⟨some 16, MOp.mv (Opd.c (AV.int .i64 0)), none⟩]).seq
 (MC.block 0
 (MC.loop M35b0l M35b0))).seq
 ((MC.reg
 [⟨some 37, MOp.mv (Opd.s 6), none⟩,
 ⟨some 4, MOp.mv (Opd.s 37), none⟩]).seq
 MC.ret)))) ⟩
def M36 : MFun :=
 ⟨8, [MRes.tmp 0 2], (MC.reg
 [⟨some 2, MOp.mv (Opd.c AV.nilp), none⟩]).seq
 ((MC.reg
 [⟨some 3, MOp.mv (Opd.s 0), none⟩,
 ⟨some 4, MOp.mx [Opd.s 3, Opd.c (AV.int .i64 1)], none⟩,
 ⟨some 5, MOp.mn [Opd.s 4, Opd.c (AV.int .i64 200)], none⟩,
 ⟨some 6, MOp.build
 [AV.int .i64 0, AV.nils, AV.bool false,
 AV.bool false]
 [(0, 1, Opd.s 5)], none⟩,
 ⟨some 7, MOp.box (Opd.s 6), none⟩,
 ⟨some 2, MOp.mv (Opd.s 7), none⟩]).seq
 MC.ret) ⟩
def M37 : MFun :=
 ⟨86, [MRes.tmp 1 4, MRes.tmp 0 5, MRes.tmp 0 6], (MC.reg
 [⟨some 4, MOp.mv (Opd.c AV.nils), none⟩,
 ⟨some 5, MOp.mv (Opd.c (AV.int .i64 0)), none⟩,
 ⟨some 6, MOp.mv (Opd.c (AV.bool false)), none⟩]).seq
 ((MC.block 0
 ((MC.reg
 [⟨some 8, MOp.mv (Opd.s 0), none⟩,
 ⟨some 9, MOp.eqv false EqK.ptr (Opd.s 8) (Opd.c AV.nilp), none⟩,
 ⟨some 7, MOp.mv (Opd.s 9), none⟩]).seq
 (MC.cond (Opd.s 7)
 ((MC.reg
 [⟨some 4, MOp.mv (Opd.c AV.nils), none⟩,
 ⟨some 5, MOp.mv (Opd.c (AV.int .i64 6)), none⟩,
 ⟨some 6, MOp.mv (Opd.c (AV.bool false)), none⟩]).seq
 MC.ret)
 ((MC.reg
 [⟨some 11, MOp.mv (Opd.s 1), none⟩,
 ⟨some 12, MOp.bin .eql (Opd.s 11)
 (Opd.c (AV.int .u8 192)), none⟩,
 ⟨some 10, MOp.mv (Opd.s 12), none⟩]).seq
 (MC.cond (Opd.s 10)
 ((MC.reg
 [⟨some 13, MOp.mv (Opd.s 0), none⟩,
 ⟨some 14, MOp.mv (Opd.s 0), none⟩,
 ⟨some 15, MOp.mv (Opd.s 0), none⟩,
 ⟨some 16, MOp.nchk (Opd.s 13), none⟩,
 ⟨some 17, MOp.fa 1 (Opd.s 16), none⟩,
 ⟨none, MOp.store 1 (Opd.s 17) (Opd.c AV.nils), none⟩,
 ⟨some 18, MOp.nchk (Opd.s 14), none⟩,
 ⟨some 19, MOp.fa 2 (Opd.s 18), none⟩,
 ⟨none, MOp.store 1 (Opd.s 19) (Opd.c (AV.bool true)), none⟩,
 ⟨some 20, MOp.nchk (Opd.s 15), none⟩,
 ⟨some 21, MOp.fa 3 (Opd.s 20), none⟩,
 ⟨none, MOp.store 1 (Opd.s 21) (Opd.c (AV.bool false)), none⟩]).seq
 ((MC.reg
 [⟨some 4, MOp.mv (Opd.c AV.nils), none⟩,
 ⟨some 5, MOp.mv (Opd.c (AV.int .i64 0)), none⟩,
 ⟨some 6, MOp.mv (Opd.c (AV.bool false)), none⟩]).seq
 MC.ret))
 ((MC.reg
 [⟨some 23, MOp.mv (Opd.s 0), none⟩,
 ⟨some 24, MOp.nchk (Opd.s 23), none⟩,
 ⟨some 25, MOp.fa 2 (Opd.s 24), none⟩,
 ⟨some 26, MOp.load none (Opd.s 25), none⟩,
 ⟨some 27, MOp.un .not (Opd.s 26), none⟩,
 ⟨some 22, MOp.mv (Opd.s 27), none⟩]).seq
 (MC.cond (Opd.s 22)
 ((MC.reg
 [⟨some 4, MOp.mv (Opd.c AV.nils), none⟩,
 ⟨some 5, MOp.mv (Opd.c (AV.int .i64 0)), none⟩,
 ⟨some 6, MOp.mv (Opd.c (AV.bool false)), none⟩]).seq
 MC.ret)
 ((MC.reg
 [⟨some 29, MOp.mv (Opd.s 1), none⟩,
 ⟨some 30, MOp.bin .eql (Opd.s 29)
 (Opd.c (AV.int .u8 193)), none⟩,
 ⟨some 28, MOp.mv (Opd.s 30), none⟩]).seq
 (MC.cond (Opd.s 28)
 ((MC.reg
 [⟨some 31, MOp.mv (Opd.s 0), none⟩,
 ⟨some 32, MOp.call 46 [(0, Opd.s 31)], none⟩,
 ⟨some 33, MOp.ext 0 (Opd.s 32), none⟩,
 ⟨some 34, MOp.ext 1 (Opd.s 32), none⟩,
 ⟨some 35, MOp.ext 2 (Opd.s 32), none⟩,
 ⟨some 4, MOp.mv (Opd.s 33), none⟩,
 ⟨some 5, MOp.mv (Opd.s 34), none⟩,
 ⟨some 6, MOp.mv (Opd.s 35), none⟩]).seq
 MC.ret)
 ((MC.reg
 [⟨some 37, MOp.mv (Opd.s 1), none⟩,
 ⟨some 38, MOp.bin .eql (Opd.s 37)
 (Opd.c (AV.int .u8 125)), none⟩,
 ⟨some 39, MOp.mv (Opd.s 38), none⟩,
 ⟨some 40, MOp.mv (Opd.s 0), some (39, true)⟩,
 ⟨some 41, MOp.nchk (Opd.s 40), some (39, true)⟩,
 ⟨some 42, MOp.fa 3 (Opd.s 41), some (39, true)⟩,
 ⟨some 43, MOp.load none (Opd.s 42), some (39, true)⟩,
 ⟨some 44, MOp.un .not (Opd.s 43), some (39, true)⟩,
 ⟨some 45, MOp.pick (Opd.s 39) (Opd.s 44)
 (Opd.c (AV.bool false)), none⟩,
 ⟨some 36, MOp.mv (Opd.s 45), none⟩]).seq
 (MC.cond (Opd.s 36)
 ((MC.reg
 [⟨some 46, MOp.mv (Opd.s 0), none⟩,
 ⟨some 47, MOp.nchk (Opd.s 46), none⟩,
 ⟨some 48, MOp.fa 3 (Opd.s 47), none⟩,
 ⟨none, MOp.store 1 (Opd.s 48)
 (Opd.c (AV.bool true)), none⟩]).seq
 ((MC.reg
 [⟨some 4, MOp.mv (Opd.c AV.nils), none⟩,
 ⟨some 5, MOp.mv (Opd.c (AV.int .i64 0)), none⟩,
 ⟨some 6, MOp.mv (Opd.c (AV.bool false)), none⟩]).seq
 MC.ret))
 ((MC.reg
 [⟨some 50, MOp.mv (Opd.s 0), none⟩,
 ⟨some 51, MOp.nchk (Opd.s 50), none⟩,
 ⟨some 52, MOp.fa 3 (Opd.s 51), none⟩,
 ⟨some 53, MOp.load none (Opd.s 52), none⟩,
 ⟨some 49, MOp.mv (Opd.s 53), none⟩]).seq
 (MC.cond (Opd.s 49)
 ((MC.reg
 [⟨some 54, MOp.mv (Opd.s 1), none⟩,
 ⟨some 55, MOp.bin .xor (Opd.s 54)
 (Opd.c (AV.int .u8 32)), none⟩,
 ⟨some 1, MOp.mv (Opd.s 55), none⟩]).seq
 (MC.reg
 [⟨some 56, MOp.mv (Opd.s 0), none⟩,
 ⟨some 57, MOp.nchk (Opd.s 56), none⟩,
 ⟨some 58, MOp.fa 3 (Opd.s 57), none⟩,
 ⟨none, MOp.store 1 (Opd.s 58)
 (Opd.c (AV.bool false)), none⟩]))
 MC.skip))))))))))))).seq
 ((MC.reg
 [⟨some 59, MOp.mv (Opd.s 0), none⟩,
 ⟨some 60, MOp.mv (Opd.s 0), none⟩,
 ⟨some 61, MOp.nchk (Opd.s 60), none⟩,
 ⟨some 62, MOp.fa 1 (Opd.s 61), none⟩,
 ⟨some 63, MOp.load none (Opd.s 62), none⟩,
 ⟨some 64, MOp.mv (Opd.s 1), none⟩,
 ⟨some 65, MOp.bsl false 1 1 [AV.int .u8 0] [(0, 1, Opd.s 64)], none⟩,
 ⟨some 66, MOp.app false 1 1 (Opd.s 63) (Opd.s 65), none⟩,
 ⟨some 67, MOp.nchk (Opd.s 59), none⟩,
 ⟨some 68, MOp.fa 1 (Opd.s 67), none⟩,
 ⟨none, MOp.store 1 (Opd.s 68) (Opd.s 66), none⟩]).seq
 (((MC.draw
 [⟨some 69, MOp.mv (Opd.s 0), none⟩,
 ⟨some 70, MOp.nchk (Opd.s 69), none⟩,
 ⟨some 71, MOp.fa 1 (Opd.s 70), none⟩,
 ⟨some 72, MOp.load none (Opd.s 71), none⟩,
 ⟨some 73, MOp.len (Opd.s 72), none⟩,
 ⟨some 74, MOp.mv (Opd.s 0), none⟩,
 ⟨some 75, MOp.nchk (Opd.s 74), none⟩,
 ⟨some 76, MOp.fa 0 (Opd.s 75), none⟩,
 ⟨some 77, MOp.load none (Opd.s 76), none⟩,
 ⟨some 78, MOp.bin .add (Opd.s 77)
 (Opd.c (AV.int .i64 2)), none⟩,
 ⟨some 79, MOp.bin .gtr (Opd.s 73) (Opd.s 78), none⟩]
 [0, 1, 3, 7, 15, 0, 32, 96, 224, 480, 1023]).seq
 (MC.cond (Opd.s 79)
 ((MC.reg
 [⟨some 80, MOp.mv (Opd.s 0), none⟩,
 ⟨some 81, MOp.mv (Opd.s 0), none⟩,
 ⟨some 82, MOp.nchk (Opd.s 80), none⟩,
 ⟨some 83, MOp.fa 1 (Opd.s 82), none⟩,
 ⟨none, MOp.store 1 (Opd.s 83) (Opd.c AV.nils), none⟩,
 ⟨some 84, MOp.nchk (Opd.s 81), none⟩,
 ⟨some 85, MOp.fa 2 (Opd.s 84), none⟩,
 ⟨none, MOp.store 1 (Opd.s 85) (Opd.c (AV.bool false)), none⟩]).seq
 ((MC.reg
 [⟨some 4, MOp.mv (Opd.c AV.nils), none⟩,
 ⟨some 5, MOp.mv (Opd.c (AV.int .i64 7)), none⟩,
 ⟨some 6, MOp.mv (Opd.c (AV.bool true)), none⟩]).seq
 MC.ret))
 MC.skip)).seq
 ((MC.reg
 [⟨some 4, MOp.mv (Opd.c AV.nils), none⟩,
 ⟨some 5, MOp.mv (Opd.c (AV.int .i64 0)), none⟩,
 ⟨some 6, MOp.mv (Opd.c (AV.bool false)), none⟩]).seq
 MC.ret)))) ⟩
def M38 : MFun :=
 ⟨11, [MRes.tmp 0 2], (MC.reg
 [⟨some 2, MOp.mv (Opd.c (AV.bool false)), none⟩]).seq
 ((MC.reg
 [⟨some 3, MOp.mv (Opd.s 0), none⟩,
 ⟨some 4, MOp.eqv true EqK.ptr (Opd.s 3) (Opd.c AV.nilp), none⟩,
 ⟨some 5, MOp.mv (Opd.s 4), none⟩,
 ⟨some 6, MOp.mv (Opd.s 0), some (5, true)⟩,
 ⟨some 7, MOp.nchk (Opd.s 6), some (5, true)⟩,
 ⟨some 8, MOp.fa 2 (Opd.s 7), some (5, true)⟩,
 ⟨some 9, MOp.load none (Opd.s 8), some (5, true)⟩,
 ⟨some 10, MOp.pick (Opd.s 5) (Opd.s 9) (Opd.c (AV.bool false)), none⟩,
 ⟨some 2, MOp.mv (Opd.s 10), none⟩]).seq
 MC.ret) ⟩
def M39 : MFun :=
 ⟨4, [MRes.tmp 0 2], (MC.reg
 [⟨some 2, MOp.mv (Opd.c (AV.int .i64 0)), none⟩]).seq
 (((MC.reg [⟨some 3, MOp.mv (Opd.s 0), none⟩]).seq
 (MC.cond (Opd.s 3)
 ((MC.reg
 [⟨some 2, MOp.mv (Opd.c (AV.int .i64 1)), none⟩]).seq
 MC.ret)
 MC.skip)).seq
 ((MC.reg
 [⟨some 2, MOp.mv (Opd.c (AV.int .i64 0)), none⟩]).seq
 MC.ret)) ⟩
def M40b0 : MC :=
 ((MC.reg
 [⟨some 14, MOp.bin .lss (Opd.s 13) (Opd.s 12), none⟩]).seq
 ((MC.cond (Opd.s 14) MC.skip (MC.exit 0)).seq
 ((MC.block 1
 ((MC.reg
 [⟨some 15, MOp.mv (Opd.s 13), none⟩,
 ⟨some 5, MOp.mv (Opd.s 15), none⟩]).seq
 ((MC.draw
 [⟨some 16, MOp.mv (Opd.s 0), none⟩,
 ⟨some 17, MOp.mv (Opd.s 5), none⟩,
 ⟨some 18, MOp.ixa 1 (Opd.s 16) (Opd.s 17), none⟩,
 ⟨some 19, MOp.load none (Opd.s 18), none⟩,
 ⟨some 20, MOp.conv Cv.b2s (Opd.s 19), none⟩,
 ⟨some 21, MOp.mv (Opd.s 1), none⟩,
 ⟨some 22, MOp.mv (Opd.s 5), none⟩,
 ⟨some 23, MOp.ixa 1 (Opd.s 21) (Opd.s 22), none⟩,
 ⟨some 24, MOp.load none (Opd.s 23), none⟩,
 ⟨some 25, MOp.conv Cv.b2s (Opd.s 24), none⟩,
 ⟨some 26, MOp.bin .neq (Opd.s 20) (Opd.s 25), none⟩]
 [0, 0, 3, 7, 15, 0, 0, 96, 224, 480, 1023]).seq
 (MC.cond (Opd.s 26)
 ((MC.reg
 [⟨some 4, MOp.mv (Opd.c (AV.bool false)), none⟩]).seq
 MC.ret)
 MC.skip)))).seq
 (MC.reg
 [⟨some 27, MOp.bin .add (Opd.s 13)
 (Opd.c (AV.int .i64 1)), none⟩,
 ⟨some 13, MOp.mv (Opd.s 27), none⟩]))))
def M40b0l : List Bool := [true, true, false, false, false, false, false, false, false, false, false, false, true, true, false, false, false, false, false, false, false, false, false, false, false, false, false, false]
def M40 : MFun :=
 ⟨28, [MRes.tmp 0 4], (MC.reg
 [⟨some 4, MOp.mv (Opd.c (AV.bool false)), none⟩]).seq
 (((MC.reg
 [⟨some 6, MOp.mv (Opd.s 0), none⟩,
 ⟨some 7, MOp.len (Opd.s 6), none⟩,
 ⟨some 8, MOp.mv (Opd.s 1), none⟩,
 ⟨some 9, MOp.len (Opd.s 8), none⟩,
 ⟨some 10, MOp.bin .neq (Opd.s 7) (Opd.s 9), none⟩]).seq
 (MC.cond (Opd.s 10)
 ((MC.reg
 [⟨some 4, MOp.mv (Opd.c (AV.bool false)), none⟩]).seq
 MC.ret)
 MC.skip)).seq
 (((MC.reg
 [⟨some 11, MOp.mv (Opd.s 0), none⟩,
 ⟨some 12, MOp.len (Opd.s 11), none⟩,
 ⟨some 13, MOp.mv (Opd.c (AV.int .i64 0)), none⟩]).seq
 (MC.block 0
 (MC.loop M40b0l M40b0))).seq
 ((MC.reg
 [⟨some 4, MOp.mv (Opd.c (AV.bool true)), none⟩]).seq
 MC.ret))) ⟩
def M41b0 : MC :=
 (((MC.reg
 [⟨some 13, MOp.mv (Opd.s 7), none⟩,
 ⟨some 14, MOp.mv (Opd.s 1), none⟩,
 ⟨some 15, MOp.len (Opd.s 14), none⟩,
 ⟨some 16, MOp.bin .lss (Opd.s 13) (Opd.s 15), none⟩]).seq
 (MC.cond (Opd.s 16) MC.skip (MC.exit 0))).seq
 ((MC.block 1
 ((MC.reg
 [⟨some 20, MOp.mv (Opd.s 5), none⟩,
 ⟨some 21, MOp.mv (Opd.s 1), none⟩,
 ⟨some 22, MOp.mv (Opd.s 7), none⟩,
 ⟨some 23, MOp.ixa 1 (Opd.s 21) (Opd.s 22), none⟩,
 ⟨some 24, MOp.load none (Opd.s 23), none⟩,
 ⟨some 25, MOp.call 48 [(0, Opd.s 20), (0, Opd.s 24)], none⟩,
 ⟨some 19, MOp.mv (Opd.s 25), none⟩,
 ⟨some 26, MOp.ext 0 (Opd.s 19), none⟩,
 ⟨some 27, MOp.ext 1 (Opd.s 19), none⟩,
 ⟨some 28, MOp.ext 2 (Opd.s 19), none⟩,
 ⟨some 8, MOp.mv (Opd.s 26), none⟩,
 ⟨some 9, MOp.mv (Opd.s 27), none⟩,
 ⟨some 10, MOp.mv (Opd.s 28), none⟩]).seq
 ((MC.reg
 [⟨some 29, MOp.mv (Opd.s 10), none⟩,
 ⟨some 30, MOp.mv (Opd.s 29), none⟩,
 ⟨some 31, MOp.mv (Opd.s 9), some (30, true)⟩,
 ⟨some 32, MOp.bin .eql (Opd.s 31)
 (Opd.c (AV.int .i64 0)), some (30, true)⟩,
 ⟨some 33, MOp.pick (Opd.s 30) (Opd.s 32)
 (Opd.c (AV.bool false)), none⟩]).seq
 (MC.cond (Opd.s 33)
 (MC.reg
 [⟨some 34, MOp.mv (Opd.s 6), none⟩,
 ⟨some 35, MOp.mv (Opd.s 8), none⟩,
 ⟨some 36, MOp.bsl false 1 1 [AV.nils] [(0, 1, Opd.s 35)], none⟩,
 ⟨some 37, MOp.app false 1 24 (Opd.s 34) (Opd.s 36), none⟩,
 ⟨some 6, MOp.mv (Opd.s 37), none⟩])
 MC.skip)))).seq
 (MC.reg
 [⟨some 17, MOp.mv (Opd.s 7), none⟩,
 ⟨some 18, MOp.bin .add (Opd.s 17)
 (Opd.c (AV.int .i64 1)), none⟩,
 ⟨some 7, MOp.mv (Opd.s 18), none⟩])))
def M41b0l : List Bool := [false, true, false, false, false, true, true, true, false, false, false, false, false, false, false, false, false, false, false, false, false, false, false, false, false, false, false, false, false, false, false, false, false, false, false, false, false, false, false]
def M41 : MFun :=
 ⟨39, [MRes.tmp 1 4], (MC.reg
 [⟨some 4, MOp.mv (Opd.c AV.nils), none⟩]).seq
 ((MC.reg
 [⟨some 11, MOp.mv (Opd.s 0), none⟩,
 ⟨some 12, MOp.call 47 [(0, Opd.s 11)], none⟩,
 ⟨some 5, MOp.mv (Opd.s 12), none⟩]).seq
 ((MC.reg
 [⟨some 6, MOp.mv (Opd.c AV.nils), none⟩]).seq
 (((MC.reg
 [⟨some 7, MOp.mv (Opd.c (AV.int .i64 0)), none⟩]).seq
 (MC.block 0
 (MC.loop M41b0l M41b0))).seq
 ((MC.reg
 [⟨some 38, MOp.mv (Opd.s 6), none⟩,
 ⟨some 4, MOp.mv (Opd.s 38), none⟩]).seq
 MC.ret)))) ⟩
def M46 : MFun :=
 ⟨41, [MRes.tmp 1 2, MRes.tmp 0 3, MRes.tmp 0 4], (MC.reg
 [⟨some 2, MOp.mv (Opd.c AV.nils), none⟩,
 ⟨some 3, MOp.mv (Opd.c (AV.int .i64 0)), none⟩,
 ⟨some 4, MOp.mv (Opd.c (AV.bool false)), none⟩]).seq
 ((MC.draw
 [⟨some 7, MOp.mv (Opd.s 0), none⟩,
 ⟨some 8, MOp.nchk (Opd.s 7), none⟩,
 ⟨some 9, MOp.fa 1 (Opd.s 8), none⟩,
 ⟨some 10, MOp.load none (Opd.s 9), none⟩,
 ⟨some 11, MOp.mv (Opd.s 0), none⟩,
 ⟨some 12, MOp.nchk (Opd.s 11), none⟩,
 ⟨some 13, MOp.fa 3 (Opd.s 12), none⟩,
 ⟨some 14, MOp.load none (Opd.s 13), none⟩,
 ⟨some 5, MOp.mv (Opd.s 10), none⟩,
 ⟨some 6, MOp.mv (Opd.s 14), none⟩]
 [0, 1, 3, 7, 0, 16, 48, 112, 15, 511]).seq
 ((MC.reg
 [⟨some 15, MOp.mv (Opd.s 0), none⟩,
 ⟨some 16, MOp.mv (Opd.s 0), none⟩,
 ⟨some 17, MOp.mv (Opd.s 0), none⟩,
 ⟨some 18, MOp.nchk (Opd.s 15), none⟩,
 ⟨some 19, MOp.fa 1 (Opd.s 18), none⟩,
 ⟨none, MOp.store 1 (Opd.s 19) (Opd.c AV.nils), none⟩,
 ⟨some 20, MOp.nchk (Opd.s 16), none⟩,
 ⟨some 21, MOp.fa 2 (Opd.s 20), none⟩,
 ⟨none, MOp.store 1 (Opd.s 21) (Opd.c (AV.bool false)), none⟩,
 ⟨some 22, MOp.nchk (Opd.s 17), none⟩,
 ⟨some 23, MOp.fa 3 (Opd.s 22), none⟩,
 ⟨none, MOp.store 1 (Opd.s 23) (Opd.c (AV.bool false)), none⟩]).seq
 ((MC.block 0
 ((MC.reg
 [⟨some 25, MOp.mv (Opd.s 6), none⟩,
 ⟨some 24, MOp.mv (Opd.s 25), none⟩]).seq
 (MC.cond (Opd.s 24)
 ((MC.reg
 [⟨some 2, MOp.mv (Opd.c AV.nils), none⟩,
 ⟨some 3, MOp.mv (Opd.c (AV.int .i64 9)), none⟩,
 ⟨some 4, MOp.mv (Opd.c (AV.bool true)), none⟩]).seq
 MC.ret)
 ((MC.reg
 [⟨some 27, MOp.mv (Opd.s 5), none⟩,
 ⟨some 28, MOp.len (Opd.s 27), none⟩,
 ⟨some 29, MOp.bin .leq (Opd.s 28)
 (Opd.c (AV.int .i64 2)), none⟩,
 ⟨some 30, MOp.mv (Opd.s 29), none⟩,
 ⟨some 31, MOp.mv (Opd.s 5), some (30, false)⟩,
 ⟨some 32, MOp.call 27 [(1, Opd.s 31)], some (30, false)⟩,
 ⟨some 33, MOp.un .not (Opd.s 32), some (30, false)⟩,
 ⟨some 34, MOp.pick (Opd.s 30) (Opd.c (AV.bool true))
 (Opd.s 33), none⟩,
 ⟨some 26, MOp.mv (Opd.s 34), none⟩]).seq
 (MC.cond (Opd.s 26)
 ((MC.reg
 [⟨some 2, MOp.mv (Opd.c AV.nils), none⟩,
 ⟨some 3, MOp.mv (Opd.c (AV.int .i64 8)), none⟩,
 ⟨some 4, MOp.mv (Opd.c (AV.bool true)), none⟩]).seq
 MC.ret)
 MC.skip))))).seq
 ((MC.reg
 [⟨some 35, MOp.mv (Opd.s 5), none⟩,
 ⟨some 36, MOp.mv (Opd.s 5), none⟩,
 ⟨some 37, MOp.len (Opd.s 36), none⟩,
 ⟨some 38, MOp.bin .sub (Opd.s 37)
 (Opd.c (AV.int .i64 2)), none⟩,
 ⟨some 39, MOp.slc 1 (Opd.s 35) none (some (Opd.s 38)), none⟩,
 ⟨some 40, MOp.call 42 [(1, Opd.s 39)], none⟩,
 ⟨some 2, MOp.mv (Opd.s 40), none⟩,
 ⟨some 3, MOp.mv (Opd.c (AV.int .i64 0)), none⟩,
 ⟨some 4, MOp.mv (Opd.c (AV.bool true)), none⟩]).seq
 MC.ret)))) ⟩
def M47 : MFun :=
 ⟨8, [MRes.tmp 0 2], (MC.reg
 [⟨some 2, MOp.mv (Opd.c AV.nilp), none⟩]).seq
 ((MC.reg
 [⟨some 3, MOp.mv (Opd.s 0), none⟩,
 ⟨some 4, MOp.mn [Opd.s 3, Opd.c (AV.int .i64 200)], none⟩,
 ⟨some 5, MOp.mx [Opd.c (AV.int .i64 1), Opd.s 4], none⟩,
 ⟨some 6, MOp.build
 [AV.int .i64 0, AV.bool false, AV.bool false,
 AV.nils]
 [(0, 1, Opd.s 5)], none⟩,
 ⟨some 7, MOp.box (Opd.s 6), none⟩,
 ⟨some 2, MOp.mv (Opd.s 7), none⟩]).seq
 MC.ret) ⟩
def M48 : MFun :=
 ⟨82, [MRes.tmp 1 4, MRes.tmp 0 5, MRes.tmp 0 6], (MC.reg
 [⟨some 4, MOp.mv (Opd.c AV.nils), none⟩,
 ⟨some 5, MOp.mv (Opd.c (AV.int .i64 0)), none⟩,
 ⟨some 6, MOp.mv (Opd.c (AV.bool false)), none⟩]).seq
 ((MC.block 0
 ((MC.reg
 [⟨some 8, MOp.mv (Opd.s 1), none⟩,
 ⟨some 9, MOp.bin .eql (Opd.s 8)
 (Opd.c (AV.int .u8 192)), none⟩,
 ⟨some 7, MOp.mv (Opd.s 9), none⟩]).seq
 (MC.cond (Opd.s 7)
 ((MC.reg
 [⟨some 10, MOp.mv (Opd.s 0), none⟩,
 ⟨some 11, MOp.mv (Opd.s 0), none⟩,
 ⟨some 12, MOp.mv (Opd.s 0), none⟩,
 ⟨some 13, MOp.nchk (Opd.s 10), none⟩,
 ⟨some 14, MOp.fa 1 (Opd.s 13), none⟩,
 ⟨none, MOp.store 1 (Opd.s 14) (Opd.c (AV.bool true)), none⟩,
 ⟨some 15, MOp.nchk (Opd.s 11), none⟩,
 ⟨some 16, MOp.fa 2 (Opd.s 15), none⟩,
 ⟨none, MOp.store 1 (Opd.s 16) (Opd.c (AV.bool false)), none⟩,
 ⟨some 17, MOp.nchk (Opd.s 12), none⟩,
 ⟨some 18, MOp.fa 3 (Opd.s 17), none⟩,
 ⟨none, MOp.store 1 (Opd.s 18) (Opd.c AV.nils), none⟩]).seq
 ((MC.reg
 [⟨some 4, MOp.mv (Opd.c AV.nils), none⟩,
 ⟨some 5, MOp.mv (Opd.c (AV.int .i64 0)), none⟩,
 ⟨some 6, MOp.mv (Opd.c (AV.bool false)), none⟩]).seq
 MC.ret))
 ((MC.reg
 [⟨some 20, MOp.mv (Opd.s 0), none⟩,
 ⟨some 21, MOp.nchk (Opd.s 20), none⟩,
 ⟨some 22, MOp.fa 1 (Opd.s 21), none⟩,
 ⟨some 23, MOp.load none (Opd.s 22), none⟩,
 ⟨some 24, MOp.un .not (Opd.s 23), none⟩,
 ⟨some 19, MOp.mv (Opd.s 24), none⟩]).seq
 (MC.cond (Opd.s 19)
 ((MC.reg
 [⟨some 4, MOp.mv (Opd.c AV.nils), none⟩,
 ⟨some 5, MOp.mv (Opd.c (AV.int .i64 0)), none⟩,
 ⟨some 6, MOp.mv (Opd.c (AV.bool false)), none⟩]).seq
 MC.ret)
 ((MC.reg
 [⟨some 26, MOp.mv (Opd.s 1), none⟩,
 ⟨some 27, MOp.bin .eql (Opd.s 26)
 (Opd.c (AV.int .u8 193)), none⟩,
 ⟨some 25, MOp.mv (Opd.s 27), none⟩]).seq
 (MC.cond (Opd.s 25)
 ((MC.reg
 [⟨some 28, MOp.mv (Opd.s 0), none⟩,
 ⟨some 29, MOp.call 51 [(0, Opd.s 28)], none⟩,
 ⟨some 30, MOp.ext 0 (Opd.s 29), none⟩,
 ⟨some 31, MOp.ext 1 (Opd.s 29), none⟩,
 ⟨some 32, MOp.ext 2 (Opd.s 29), none⟩,
 ⟨some 4, MOp.mv (Opd.s 30), none⟩,
 ⟨some 5, MOp.mv (Opd.s 31), none⟩,
 ⟨some 6, MOp.mv (Opd.s 32), none⟩]).seq
 MC.ret)
 ((MC.reg
 [⟨some 34, MOp.mv (Opd.s 1), none⟩,
 ⟨some 35, MOp.bin .eql (Opd.s 34)
 (Opd.c (AV.int .u8 125)), none⟩,
 ⟨some 36, MOp.mv (Opd.s 35), none⟩,
 ⟨some 37, MOp.mv (Opd.s 0), some (36, true)⟩,
 ⟨some 38, MOp.nchk (Opd.s 37), some (36, true)⟩,
 ⟨some 39, MOp.fa 2 (Opd.s 38), some (36, true)⟩,
 ⟨some 40, MOp.load none (Opd.s 39), some (36, true)⟩,
 ⟨some 41, MOp.un .not (Opd.s 40), some (36, true)⟩,
 ⟨some 42, MOp.pick (Opd.s 36) (Opd.s 41)
 (Opd.c (AV.bool false)), none⟩,
 ⟨some 33, MOp.mv (Opd.s 42), none⟩]).seq
 (MC.cond (Opd.s 33)
 ((MC.reg
 [⟨some 43, MOp.mv (Opd.s 0), none⟩,
 ⟨some 44, MOp.nchk (Opd.s 43), none⟩,
 ⟨some 45, MOp.fa 2 (Opd.s 44), none⟩,
 ⟨none, MOp.store 1 (Opd.s 45) (Opd.c (AV.bool true)), none⟩]).seq
 ((MC.reg
 [⟨some 4, MOp.mv (Opd.c AV.nils), none⟩,
 ⟨some 5, MOp.mv (Opd.c (AV.int .i64 0)), none⟩,
 ⟨some 6, MOp.mv (Opd.c (AV.bool false)), none⟩]).seq
 MC.ret))
 MC.skip))))))))).seq
 (((MC.reg
 [⟨some 46, MOp.mv (Opd.s 0), none⟩,
 ⟨some 47, MOp.nchk (Opd.s 46), none⟩,
 ⟨some 48, MOp.fa 2 (Opd.s 47), none⟩,
 ⟨some 49, MOp.load none (Opd.s 48), none⟩]).seq
 (MC.cond (Opd.s 49)
 (MC.reg
 [⟨some 50, MOp.mv (Opd.s 1), none⟩,
 ⟨some 51, MOp.bin .xor (Opd.s 50)
 (Opd.c (AV.int .u8 32)), none⟩,
 ⟨some 1, MOp.mv (Opd.s 51), none⟩])
 MC.skip)).seq
 ((MC.reg
 [⟨some 52, MOp.mv (Opd.s 0), none⟩,
 ⟨some 53, MOp.nchk (Opd.s 52), none⟩,
 ⟨some 54, MOp.fa 2 (Opd.s 53), none⟩,
 ⟨none, MOp.store 1 (Opd.s 54) (Opd.c (AV.bool false)), none⟩]).seq
 ((MC.reg
 [⟨some 55, MOp.mv (Opd.s 0), none⟩,
 ⟨some 56, MOp.mv (Opd.s 0), none⟩,
 ⟨some 57, MOp.nchk (Opd.s 56), none⟩,
 ⟨some 58, MOp.fa 3 (Opd.s 57), none⟩,
 ⟨some 59, MOp.load none (Opd.s 58), none⟩,
 ⟨some 60, MOp.mv (Opd.s 1), none⟩,
 ⟨some 61, MOp.bsl false 1 1 [AV.int .u8 0]
 [(0, 1, Opd.s 60)], none⟩,
 ⟨some 62, MOp.app false 1 1 (Opd.s 59) (Opd.s 61), none⟩,
 ⟨some 63, MOp.nchk (Opd.s 55), none⟩,
 ⟨some 64, MOp.fa 3 (Opd.s 63), none⟩,
 ⟨none, MOp.store 1 (Opd.s 64) (Opd.s 62), none⟩]).seq
 (((MC.draw
 [⟨some 65, MOp.mv (Opd.s 0), none⟩,
 ⟨some 66, MOp.nchk (Opd.s 65), none⟩,
 ⟨some 67, MOp.fa 3 (Opd.s 66), none⟩,
 ⟨some 68, MOp.load none (Opd.s 67), none⟩,
 ⟨some 69, MOp.len (Opd.s 68), none⟩,
 ⟨some 70, MOp.mv (Opd.s 0), none⟩,
 ⟨some 71, MOp.nchk (Opd.s 70), none⟩,
 ⟨some 72, MOp.fa 0 (Opd.s 71), none⟩,
 ⟨some 73, MOp.load none (Opd.s 72), none⟩,
 ⟨some 74, MOp.bin .add (Opd.s 73)
 (Opd.c (AV.int .i64 2)), none⟩,
 ⟨some 75, MOp.bin .gtr (Opd.s 69) (Opd.s 74), none⟩]
 [0, 1, 3, 7, 15, 0, 32, 96, 224, 480, 1023]).seq
 (MC.cond (Opd.s 75)
 ((MC.reg
 [⟨some 76, MOp.mv (Opd.s 0), none⟩,
 ⟨some 77, MOp.mv (Opd.s 0), none⟩,
 ⟨some 78, MOp.nchk (Opd.s 76), none⟩,
 ⟨some 79, MOp.fa 1 (Opd.s 78), none⟩,
 ⟨none, MOp.store 1 (Opd.s 79) (Opd.c (AV.bool false)), none⟩,
 ⟨some 80, MOp.nchk (Opd.s 77), none⟩,
 ⟨some 81, MOp.fa 3 (Opd.s 80), none⟩,
 ⟨none, MOp.store 1 (Opd.s 81) (Opd.c AV.nils), none⟩]).seq
 ((MC.reg
 [⟨some 4, MOp.mv (Opd.c AV.nils), none⟩,
 ⟨some 5, MOp.mv (Opd.c (AV.int .i64 7)), none⟩,
 ⟨some 6, MOp.mv (Opd.c (AV.bool true)), none⟩]).seq
 MC.ret))
 MC.skip)).seq
 ((MC.reg
 [⟨some 4, MOp.mv (Opd.c AV.nils), none⟩,
 ⟨some 5, MOp.mv (Opd.c (AV.int .i64 0)), none⟩,
 ⟨some 6, MOp.mv (Opd.c (AV.bool false)), none⟩]).seq
 MC.ret)))))) ⟩
def M51 : MFun :=
 ⟨40, [MRes.tmp 1 2, MRes.tmp 0 3, MRes.tmp 0 4], (MC.reg
 [⟨some 2, MOp.mv (Opd.c AV.nils), none⟩,
 ⟨some 3, MOp.mv (Opd.c (AV.int .i64 0)), none⟩,
 ⟨some 4, MOp.mv (Opd.c (AV.bool false)), none⟩]).seq
 ((MC.draw
 [⟨some 7, MOp.mv (Opd.s 0), none⟩,
 ⟨some 8, MOp.nchk (Opd.s 7), none⟩,
 ⟨some 9, MOp.fa 3 (Opd.s 8), none⟩,
 ⟨some 10, MOp.load none (Opd.s 9), none⟩,
 ⟨some 11, MOp.mv (Opd.s 0), none⟩,
 ⟨some 12, MOp.nchk (Opd.s 11), none⟩,
 ⟨some 13, MOp.fa 2 (Opd.s 12), none⟩,
 ⟨some 14, MOp.load none (Opd.s 13), none⟩,
 ⟨some 5, MOp.mv (Opd.s 10), none⟩,
 ⟨some 6, MOp.mv (Opd.s 14), none⟩]
 [0, 1, 3, 7, 0, 16, 48, 112, 15, 511]).seq
 ((MC.reg
 [⟨some 15, MOp.mv (Opd.s 0), none⟩,
 ⟨some 16, MOp.mv (Opd.s 0), none⟩,
 ⟨some 17, MOp.mv (Opd.s 0), none⟩,
 ⟨some 18, MOp.nchk (Opd.s 15), none⟩,
 ⟨some 19, MOp.fa 1 (Opd.s 18), none⟩,
 ⟨none, MOp.store 1 (Opd.s 19) (Opd.c (AV.bool false)), none⟩,
 ⟨some 20, MOp.nchk (Opd.s 16), none⟩,
 ⟨some 21, MOp.fa 2 (Opd.s 20), none⟩,
 ⟨none, MOp.store 1 (Opd.s 21) (Opd.c (AV.bool false)), none⟩,
 ⟨some 22, MOp.nchk (Opd.s 17), none⟩,
 ⟨some 23, MOp.fa 3 (Opd.s 22), none⟩,
 ⟨none, MOp.store 1 (Opd.s 23) (Opd.c AV.nils), none⟩]).seq
 ((MC.block 0
 ((MC.reg
 [⟨some 25, MOp.mv (Opd.s 6), none⟩,
 ⟨some 24, MOp.mv (Opd.s 25), none⟩]).seq
 (MC.cond (Opd.s 24)
 ((MC.reg
 [⟨some 2, MOp.mv (Opd.c AV.nils), none⟩,
 ⟨some 3, MOp.mv (Opd.c (AV.int .i64 9)), none⟩,
 ⟨some 4, MOp.mv (Opd.c (AV.bool true)), none⟩]).seq
 MC.ret)
 ((MC.reg
 [⟨some 27, MOp.mv (Opd.s 5), none⟩,
 ⟨some 28, MOp.len (Opd.s 27), none⟩,
 ⟨some 29, MOp.bin .lss (Opd.s 28)
 (Opd.c (AV.int .i64 3)), none⟩,
 ⟨some 30, MOp.mv (Opd.s 29), none⟩,
 ⟨some 31, MOp.mv (Opd.s 5), some (30, false)⟩,
 ⟨some 32, MOp.call 28 [(1, Opd.s 31)], some (30, false)⟩,
 ⟨some 33, MOp.un .not (Opd.s 32), some (30, false)⟩,
 ⟨some 34, MOp.pick (Opd.s 30) (Opd.c (AV.bool true))
 (Opd.s 33), none⟩,
 ⟨some 26, MOp.mv (Opd.s 34), none⟩]).seq
 (MC.cond (Opd.s 26)
 ((MC.reg
 [⟨some 2, MOp.mv (Opd.c AV.nils), none⟩,
 ⟨some 3, MOp.mv (Opd.c (AV.int .i64 8)), none⟩,
 ⟨some 4, MOp.mv (Opd.c (AV.bool true)), none⟩]).seq
 MC.ret)
 MC.skip))))).seq
 ((MC.reg
 [⟨some 35, MOp.mv (Opd.s 5), none⟩,
 ⟨some 36, MOp.mv (Opd.s 5), none⟩,
 ⟨some 37, MOp.len (Opd.s 36), none⟩,
 ⟨some 38, MOp.bin .sub (Opd.s 37)
 (Opd.c (AV.int .i64 2)), none⟩,
 ⟨some 39, MOp.slc 1 (Opd.s 35) none (some (Opd.s 38)), none⟩,
 ⟨some 2, MOp.mv (Opd.s 39), none⟩,
 ⟨some 3, MOp.mv (Opd.c (AV.int .i64 0)), none⟩,
 ⟨some 4, MOp.mv (Opd.c (AV.bool true)), none⟩]).seq
 MC.ret)))) ⟩
theorem tab8 : tableOf Try.prog 8 = some M8 := by kernel_rfl
theorem tab10 : tableOf Try.prog 10 = some M10 := by kernel_rfl
theorem tab16 : tableOf Try.prog 16 = some M16 := by kernel_rfl
theorem tab17 : tableOf Try.prog 17 = some M17 := by kernel_rfl
theorem tab35 : tableOf Try.prog 35 = some M35 := by kernel_rfl
theorem tab36 : tableOf Try.prog 36 = some M36 := by kernel_rfl
theorem tab37 : tableOf Try.prog 37 = some M37 := by kernel_rfl
theorem tab38 : tableOf Try.prog 38 = some M38 := by kernel_rfl
theorem tab39 : tableOf Try.prog 39 = some M39 := by kernel_rfl
theorem tab40 : tableOf Try.prog 40 = some M40 := by kernel_rfl
theorem tab41 : tableOf Try.prog 41 = some M41 := by kernel_rfl
theorem tab46 : tableOf Try.prog 46 = some M46 := by kernel_rfl
theorem tab47 : tableOf Try.prog 47 = some M47 := by kernel_rfl
theorem tab48 : tableOf Try.prog 48 = some M48 := by kernel_rfl
theorem tab51 : tableOf Try.prog 51 = some M51 := by kernel_rfl
end Go.Proofs.Ytghfinbdgnggjaa
