/- Functions of the program in the evaluator's form, written out by a program. No conditions. -/
import Derived.Test.YtochnineebgbgaaDoorM12
set_option linter.unusedVariables false
namespace Go.Proofs.YtochnineebgbgaaDoor
open Go Go.Ab
def M8b0 : MC :=
 (((MC.reg
 [⟨some 35, MOp.mv (Opd.s 11), none⟩,
 ⟨some 36, MOp.mv (Opd.s 1), none⟩,
 ⟨some 37, MOp.bin .lss (Opd.s 35) (Opd.s 36), none⟩]).seq
 (MC.cond (Opd.s 37) MC.skip (MC.exit 0))).seq
 ((MC.block 1
 (MC.reg
 [⟨some 40, MOp.mv (Opd.s 10), none⟩,
 ⟨some 41, MOp.call 33
 [(0, Opd.s 40),
 (0, Opd.c (AV.str [(120 : UInt8)]))], none⟩])).seq
 (MC.reg
 [⟨some 38, MOp.mv (Opd.s 11), none⟩,
 ⟨some 39, MOp.bin .add (Opd.s 38)
 (Opd.c (AV.int .i64 1)), none⟩,
 ⟨some 11, MOp.mv (Opd.s 39), none⟩])))
def M8b0l : List Bool := [false, true, true, true, false, false, false, false, false, false, true, true, false, false, false, false, false, false, false, false, false, false, false, false, false, false, false, false, false, false, false, false, false, false, false, false, false, false, false, false, false, false, false, false, false, false, false, false, false, false, false, false, false, false, false, false, false, false, false, false, false, false, false, false, false, false, false, false, false, false, false, false, false, false, false, false, false, false, false, false, false, false, false, false, false, false, false, false, false, false, false, false, false]
def M8 : MFun :=
 ⟨93, [MRes.tmp 0 8], (MC.reg
 [⟨some 8, MOp.mv (Opd.c (AV.bool false)), none⟩]).seq
 ((MC.reg
 [⟨some 17, MOp.call 21 [], none⟩,
 ⟨some 9, MOp.mv (Opd.s 17), none⟩]).seq
 (((MC.reg
 [⟨some 18, MOp.mv (Opd.s 9), none⟩,
 ⟨some 19, MOp.un .not (Opd.s 18), none⟩]).seq
 (MC.cond (Opd.s 19)
 ((MC.reg
 [⟨some 8, MOp.mv (Opd.c (AV.bool false)), none⟩]).seq
 MC.ret)
 MC.skip)).seq
 ((MC.reg
 [⟨some 20, MOp.mv (Opd.s 0), none⟩,
 ⟨some 21, MOp.bin .rem (Opd.s 20)
 (Opd.c (AV.int .i64 7)), none⟩,
 ⟨some 22, MOp.bin .add (Opd.s 21)
 (Opd.c (AV.int .i64 7)), none⟩,
 ⟨some 23, MOp.bin .rem (Opd.s 22)
 (Opd.c (AV.int .i64 7)), none⟩,
 ⟨some 24, MOp.bin .add (Opd.c (AV.int .i64 1))
 (Opd.s 23), none⟩,
 ⟨some 25, MOp.mv (Opd.s 1), none⟩,
 ⟨some 26, MOp.bin .rem (Opd.s 25)
 (Opd.c (AV.int .i64 9)), none⟩,
 ⟨some 27, MOp.bin .add (Opd.s 26)
 (Opd.c (AV.int .i64 9)), none⟩,
 ⟨some 28, MOp.bin .rem (Opd.s 27)
 (Opd.c (AV.int .i64 9)), none⟩,
 ⟨some 29, MOp.mv (Opd.s 3), none⟩,
 ⟨some 30, MOp.bin .rem (Opd.s 29)
 (Opd.c (AV.int .i64 8)), none⟩,
 ⟨some 31, MOp.bin .add (Opd.s 30)
 (Opd.c (AV.int .i64 8)), none⟩,
 ⟨some 32, MOp.bin .rem (Opd.s 31)
 (Opd.c (AV.int .i64 8)), none⟩,
 ⟨some 0, MOp.mv (Opd.s 24), none⟩,
 ⟨some 1, MOp.mv (Opd.s 28), none⟩,
 ⟨some 3, MOp.mv (Opd.s 32), none⟩]).seq
 ((MC.reg
 [⟨some 33, MOp.mv (Opd.s 0), none⟩,
 ⟨some 34, MOp.call 32 [(0, Opd.s 33)], none⟩,
 ⟨some 10, MOp.mv (Opd.s 34), none⟩]).seq
 (((MC.reg
 [⟨some 11, MOp.mv (Opd.c (AV.int .i64 0)), none⟩]).seq
 (MC.block 0
 (MC.loop M8b0l M8b0))).seq
 ((MC.reg
 [⟨some 12, MOp.mv (Opd.c (AV.int .i64 0)), none⟩]).seq
 (((MC.reg
 [⟨some 42, MOp.mv (Opd.s 2), none⟩,
 ⟨some 43, MOp.bin .and (Opd.s 42)
 (Opd.c (AV.int .i64 1)), none⟩,
 ⟨some 44, MOp.bin .eql (Opd.s 43)
 (Opd.c (AV.int .i64 1)), none⟩]).seq
 (MC.cond (Opd.s 44)
 ((MC.reg
 [⟨some 46, MOp.mv (Opd.s 10), none⟩,
 ⟨some 47, MOp.call 35 [(0, Opd.s 46)], none⟩,
 ⟨some 45, MOp.mv (Opd.s 47), none⟩,
 ⟨some 48, MOp.ext 0 (Opd.s 45), none⟩,
 ⟨some 49, MOp.ext 1 (Opd.s 45), none⟩,
 ⟨some 13, MOp.mv (Opd.s 48), none⟩,
 ⟨some 14, MOp.mv (Opd.s 49), none⟩]).seq
 (MC.reg
 [⟨some 50, MOp.mv (Opd.s 13), none⟩,
 ⟨some 51, MOp.len (Opd.s 50), none⟩,
 ⟨some 12, MOp.mv (Opd.s 51), none⟩]))
 MC.skip)).seq
 ((MC.reg
 [⟨some 53, MOp.mv (Opd.s 10), none⟩,
 ⟨some 54, MOp.mv (Opd.s 3), none⟩,
 ⟨some 55, MOp.call 36 [(0, Opd.s 53), (0, Opd.s 54)], none⟩,
 ⟨some 52, MOp.mv (Opd.s 55), none⟩,
 ⟨some 56, MOp.ext 0 (Opd.s 52), none⟩,
 ⟨some 57, MOp.ext 1 (Opd.s 52), none⟩,
 ⟨some 15, MOp.mv (Opd.s 56), none⟩,
 ⟨some 16, MOp.mv (Opd.s 57), none⟩]).seq
 ((MC.reg
 [⟨some 58, MOp.mv (Opd.s 16), none⟩,
 ⟨some 59, MOp.mv (Opd.s 3), none⟩,
 ⟨some 60, MOp.mv (Opd.s 12), none⟩,
 ⟨some 61, MOp.bin .leq (Opd.s 59) (Opd.s 60), none⟩,
 ⟨some 62, MOp.eqv false (EqK.flat (EqF.one SK.b))
 (Opd.s 58) (Opd.s 61), none⟩,
 ⟨some 63, MOp.mv (Opd.s 62), none⟩,
 ⟨some 64, MOp.mv (Opd.s 16), some (63, true)⟩,
 ⟨some 65, MOp.un .not (Opd.s 64), some (63, true)⟩,
 ⟨some 66, MOp.mv (Opd.s 65), some (63, true)⟩,
 ⟨some 67, MOp.mv (Opd.s 15), some (66, true)⟩,
 ⟨some 68, MOp.bin .eql (Opd.s 67)
 (Opd.c (AV.int .i64 0)), some (66, true)⟩,
 ⟨some 69, MOp.pick (Opd.s 66) (Opd.s 68)
 (Opd.c (AV.bool false)), some (63, true)⟩,
 ⟨some 70, MOp.mv (Opd.s 69), some (63, true)⟩,
 ⟨some 71, MOp.mv (Opd.s 10), some (70, true)⟩,
 ⟨some 72, MOp.call 37 [(0, Opd.s 71)], some (70, true)⟩,
 ⟨some 73, MOp.mv (Opd.s 1), some (70, true)⟩,
 ⟨some 74, MOp.bin .eql (Opd.s 72) (Opd.s 73), some (70, true)⟩,
 ⟨some 75, MOp.pick (Opd.s 70) (Opd.s 74)
 (Opd.c (AV.bool false)), some (63, true)⟩,
 ⟨some 76, MOp.mv (Opd.s 75), some (63, true)⟩,
 ⟨some 77, MOp.mv (Opd.s 16), some (76, false)⟩,
 ⟨some 78, MOp.mv (Opd.s 77), some (76, false)⟩,
 ⟨some 79, MOp.mv (Opd.s 15), some (78, true)⟩,
 ⟨some 80, MOp.mv (Opd.s 3), some (78, true)⟩,
 ⟨some 81, MOp.bin .eql (Opd.s 79) (Opd.s 80), some (78, true)⟩,
 ⟨some 82, MOp.pick (Opd.s 78) (Opd.s 81)
 (Opd.c (AV.bool false)), some (76, false)⟩,
 ⟨some 83, MOp.mv (Opd.s 82), some (76, false)⟩,
 ⟨some 84, MOp.mv (Opd.s 10), some (83, true)⟩,
 ⟨some 85, MOp.call 37 [(0, Opd.s 84)], some (83, true)⟩,
 ⟨some 86, MOp.mv (Opd.s 1), some (83, true)⟩,
 ⟨some 87, MOp.mv (Opd.s 3), some (83, true)⟩,
 ⟨some 88, MOp.bin .sub (Opd.s 86) (Opd.s 87), some (83, true)⟩,
 ⟨some 89, MOp.bin .eql (Opd.s 85) (Opd.s 88), some (83, true)⟩,
 ⟨some 90, MOp.pick (Opd.s 83) (Opd.s 89)
 (Opd.c (AV.bool false)), some (76, false)⟩,
 ⟨some 91, MOp.pick (Opd.s 76) (Opd.c (AV.bool true))
 (Opd.s 90), some (63, true)⟩,
 ⟨some 92, MOp.pick (Opd.s 63) (Opd.s 91)
 (Opd.c (AV.bool false)), none⟩,
 ⟨some 8, MOp.mv (Opd.s 92), none⟩]).seq
 MC.ret))))))))) ⟩
def M12b0 : MC :=
 (((MC.reg
 [⟨some 31, MOp.mv (Opd.s 9), none⟩,
 ⟨some 32, MOp.mv (Opd.s 1), none⟩,
 ⟨some 33, MOp.bin .lss (Opd.s 31) (Opd.s 32), none⟩]).seq
 (MC.cond (Opd.s 33) MC.skip (MC.exit 0))).seq
 ((MC.block 1
 (MC.reg
 [⟨some 36, MOp.mv (Opd.s 8), none⟩,
 ⟨some 37, MOp.call 33
 [(0, Opd.s 36),
 (0, Opd.c (AV.str [(120 : UInt8)]))], none⟩])).seq
 (MC.reg
 [⟨some 34, MOp.mv (Opd.s 9), none⟩,
 ⟨some 35, MOp.bin .add (Opd.s 34)
 (Opd.c (AV.int .i64 1)), none⟩,
 ⟨some 9, MOp.mv (Opd.s 35), none⟩])))
def M12b0l : List Bool := [false, true, true, false, false, false, false, false, true, true, false, false, false, false, false, false, false, false, false, false, false, false, false, false, false, false, false, false, false, false, false, false, false, false, false, false, false, false, false, false, false, false, false, false, false, false, false, false, false, false, false, false, false, false, false, false, false, false, false, false, false, false, false, false, false, false, false, false, false, false, false, false, false, false, false, false, false, false, false, false, false, false, false, false, false, false, false, false, false]
def M12 : MFun :=
 ⟨89, [MRes.tmp 0 6], (MC.reg
 [⟨some 6, MOp.mv (Opd.c (AV.bool false)), none⟩]).seq
 ((MC.reg
 [⟨some 17, MOp.call 21 [], none⟩,
 ⟨some 7, MOp.mv (Opd.s 17), none⟩]).seq
 (((MC.reg
 [⟨some 18, MOp.mv (Opd.s 7), none⟩,
 ⟨some 19, MOp.un .not (Opd.s 18), none⟩]).seq
 (MC.cond (Opd.s 19)
 ((MC.reg
 [⟨some 6, MOp.mv (Opd.c (AV.bool false)), none⟩]).seq
 MC.ret)
 MC.skip)).seq
 ((MC.reg
 [⟨some 20, MOp.mv (Opd.s 0), none⟩,
 ⟨some 21, MOp.bin .rem (Opd.s 20)
 (Opd.c (AV.int .i64 7)), none⟩,
 ⟨some 22, MOp.bin .add (Opd.s 21)
 (Opd.c (AV.int .i64 7)), none⟩,
 ⟨some 23, MOp.bin .rem (Opd.s 22)
 (Opd.c (AV.int .i64 7)), none⟩,
 ⟨some 24, MOp.bin .add (Opd.c (AV.int .i64 1))
 (Opd.s 23), none⟩,
 ⟨some 25, MOp.mv (Opd.s 1), none⟩,
 ⟨some 26, MOp.bin .rem (Opd.s 25)
 (Opd.c (AV.int .i64 9)), none⟩,
 ⟨some 27, MOp.bin .add (Opd.s 26)
 (Opd.c (AV.int .i64 9)), none⟩,
 ⟨some 28, MOp.bin .rem (Opd.s 27)
 (Opd.c (AV.int .i64 9)), none⟩,
 ⟨some 0, MOp.mv (Opd.s 24), none⟩,
 ⟨some 1, MOp.mv (Opd.s 28), none⟩]).seq
 ((MC.reg
 [⟨some 29, MOp.mv (Opd.s 0), none⟩,
 ⟨some 30, MOp.call 32 [(0, Opd.s 29)], none⟩,
 ⟨some 8, MOp.mv (Opd.s 30), none⟩]).seq
 (((MC.reg
 [⟨some 9, MOp.mv (Opd.c (AV.int .i64 0)), none⟩]).seq
 (MC.block 0
 (MC.loop M12b0l M12b0))).seq
 ((MC.reg
 [⟨some 39, MOp.mv (Opd.s 8), none⟩,
 ⟨some 40, MOp.call 35 [(0, Opd.s 39)], none⟩,
 ⟨some 38, MOp.mv (Opd.s 40), none⟩,
 ⟨some 41, MOp.ext 0 (Opd.s 38), none⟩,
 ⟨some 42, MOp.ext 1 (Opd.s 38), none⟩,
 ⟨some 10, MOp.mv (Opd.s 41), none⟩,
 ⟨some 11, MOp.mv (Opd.s 42), none⟩]).seq
 ((MC.reg
 [⟨some 43, MOp.mv (Opd.s 2), none⟩,
 ⟨some 44, MOp.mv (Opd.s 10), none⟩,
 ⟨some 45, MOp.len (Opd.s 44), none⟩,
 ⟨some 46, MOp.bin .add (Opd.s 45)
 (Opd.c (AV.int .i64 1)), none⟩,
 ⟨some 47, MOp.bin .rem (Opd.s 43) (Opd.s 46), none⟩,
 ⟨some 48, MOp.mv (Opd.s 10), none⟩,
 ⟨some 49, MOp.len (Opd.s 48), none⟩,
 ⟨some 50, MOp.bin .add (Opd.s 47) (Opd.s 49), none⟩,
 ⟨some 51, MOp.bin .add (Opd.s 50)
 (Opd.c (AV.int .i64 1)), none⟩,
 ⟨some 52, MOp.mv (Opd.s 10), none⟩,
 ⟨some 53, MOp.len (Opd.s 52), none⟩,
 ⟨some 54, MOp.bin .add (Opd.s 53)
 (Opd.c (AV.int .i64 1)), none⟩,
 ⟨some 55, MOp.bin .rem (Opd.s 51) (Opd.s 54), none⟩,
 ⟨some 12, MOp.mv (Opd.s 55), none⟩]).seq
 ((MC.reg
 [⟨some 57, MOp.mv (Opd.s 8), none⟩,
 ⟨some 58, MOp.mv (Opd.s 12), none⟩,
 ⟨some 59, MOp.call 36 [(0, Opd.s 57), (0, Opd.s 58)], none⟩,
 ⟨some 56, MOp.mv (Opd.s 59), none⟩,
 ⟨some 60, MOp.ext 0 (Opd.s 56), none⟩,
 ⟨some 61, MOp.ext 1 (Opd.s 56), none⟩,
 ⟨some 13, MOp.mv (Opd.s 60), none⟩,
 ⟨some 14, MOp.mv (Opd.s 61), none⟩]).seq
 ((MC.reg
 [⟨some 63, MOp.mv (Opd.s 8), none⟩,
 ⟨some 64, MOp.mv (Opd.s 12), none⟩,
 ⟨some 65, MOp.call 36 [(0, Opd.s 63), (0, Opd.s 64)], none⟩,
 ⟨some 62, MOp.mv (Opd.s 65), none⟩,
 ⟨some 66, MOp.ext 0 (Opd.s 62), none⟩,
 ⟨some 67, MOp.ext 1 (Opd.s 62), none⟩,
 ⟨some 15, MOp.mv (Opd.s 66), none⟩,
 ⟨some 16, MOp.mv (Opd.s 67), none⟩]).seq
 ((MC.reg
 [⟨some 68, MOp.mv (Opd.s 14), none⟩,
 ⟨some 69, MOp.mv (Opd.s 68), none⟩,
 ⟨some 70, MOp.mv (Opd.s 13), some (69, true)⟩,
 ⟨some 71, MOp.mv (Opd.s 12), some (69, true)⟩,
 ⟨some 72, MOp.bin .eql (Opd.s 70) (Opd.s 71), some (69, true)⟩,
 ⟨some 73, MOp.pick (Opd.s 69) (Opd.s 72)
 (Opd.c (AV.bool false)), none⟩,
 ⟨some 74, MOp.mv (Opd.s 73), none⟩,
 ⟨some 75, MOp.mv (Opd.s 16), some (74, true)⟩,
 ⟨some 76, MOp.pick (Opd.s 74) (Opd.s 75)
 (Opd.c (AV.bool false)), none⟩,
 ⟨some 77, MOp.mv (Opd.s 76), none⟩,
 ⟨some 78, MOp.mv (Opd.s 15), some (77, true)⟩,
 ⟨some 79, MOp.bin .eql (Opd.s 78)
 (Opd.c (AV.int .i64 0)), some (77, true)⟩,
 ⟨some 80, MOp.pick (Opd.s 77) (Opd.s 79)
 (Opd.c (AV.bool false)), none⟩,
 ⟨some 81, MOp.mv (Opd.s 80), none⟩,
 ⟨some 82, MOp.mv (Opd.s 8), some (81, true)⟩,
 ⟨some 83, MOp.call 37 [(0, Opd.s 82)], some (81, true)⟩,
 ⟨some 84, MOp.mv (Opd.s 1), some (81, true)⟩,
 ⟨some 85, MOp.mv (Opd.s 12), some (81, true)⟩,
 ⟨some 86, MOp.bin .sub (Opd.s 84) (Opd.s 85), some (81, true)⟩,
 ⟨some 87, MOp.bin .eql (Opd.s 83) (Opd.s 86), some (81, true)⟩,
 ⟨some 88, MOp.pick (Opd.s 81) (Opd.s 87)
 (Opd.c (AV.bool false)), none⟩,
 ⟨some 6, MOp.mv (Opd.s 88), none⟩]).seq
 MC.ret)))))))))) ⟩
def M33 : MFun :=
 ⟨25, [MRes.tmp 0 4], (MC.reg
 [⟨some 4, MOp.mv (Opd.c (AV.int .i64 0)), none⟩]).seq
 ((MC.block 0
 ((MC.reg
 [⟨some 6, MOp.mv (Opd.s 0), none⟩,
 ⟨some 7, MOp.eqv false EqK.ptr (Opd.s 6) (Opd.c AV.nilp), none⟩,
 ⟨some 5, MOp.mv (Opd.s 7), none⟩]).seq
 (MC.cond (Opd.s 5)
 ((MC.reg
 [⟨some 4, MOp.mv (Opd.c (AV.int .i64 6)), none⟩]).seq
 MC.ret)
 ((MC.reg
 [⟨some 9, MOp.mv (Opd.s 0), none⟩,
 ⟨some 10, MOp.nchk (Opd.s 9), none⟩,
 ⟨some 11, MOp.fa 1 (Opd.s 10), none⟩,
 ⟨some 12, MOp.load none (Opd.s 11), none⟩,
 ⟨some 13, MOp.len (Opd.s 12), none⟩,
 ⟨some 14, MOp.bin .geq (Opd.s 13)
 (Opd.c (AV.int .i64 8)), none⟩,
 ⟨some 8, MOp.mv (Opd.s 14), none⟩]).seq
 (MC.cond (Opd.s 8)
 ((MC.reg
 [⟨some 4, MOp.mv (Opd.c (AV.int .i64 3)), none⟩]).seq
 MC.ret)
 MC.skip))))).seq
 ((MC.reg
 [⟨some 15, MOp.mv (Opd.s 0), none⟩,
 ⟨some 16, MOp.mv (Opd.s 0), none⟩,
 ⟨some 17, MOp.nchk (Opd.s 16), none⟩,
 ⟨some 18, MOp.fa 1 (Opd.s 17), none⟩,
 ⟨some 19, MOp.load none (Opd.s 18), none⟩,
 ⟨some 20, MOp.mv (Opd.s 1), none⟩,
 ⟨some 21, MOp.bsl false 1 1 [AV.str []] [(0, 1, Opd.s 20)], none⟩,
 ⟨some 22, MOp.app false 1 16 (Opd.s 19) (Opd.s 21), none⟩,
 ⟨some 23, MOp.nchk (Opd.s 15), none⟩,
 ⟨some 24, MOp.fa 1 (Opd.s 23), none⟩,
 ⟨none, MOp.store 1 (Opd.s 24) (Opd.s 22), none⟩]).seq
 ((MC.reg
 [⟨some 4, MOp.mv (Opd.c (AV.int .i64 0)), none⟩]).seq
 MC.ret))) ⟩
def M35b0 : MC :=
 ((MC.reg
 [⟨some 30, MOp.bin .lss (Opd.s 29) (Opd.s 28), none⟩]).seq
 ((MC.cond (Opd.s 30) MC.skip (MC.exit 0)).seq
 ((MC.block 1
 ((MC.reg
 [⟨some 31, MOp.mv (Opd.s 29), none⟩,
 ⟨some 6, MOp.mv (Opd.s 31), none⟩]).seq
 (MC.reg
 [⟨some 32, MOp.mv (Opd.s 5), none⟩,
 ⟨some 33, MOp.mv (Opd.s 0), none⟩,
 ⟨some 34, MOp.nchk (Opd.s 33), none⟩,
 ⟨some 35, MOp.fa 2 (Opd.s 34), none⟩,
 ⟨some 36, MOp.load none (Opd.s 35), none⟩,
 ⟨some 37, MOp.mv (Opd.s 6), none⟩,
 ⟨some 38, MOp.call 22 [(0, Opd.s 36), (0, Opd.s 37)], none⟩,
 ⟨some 39, MOp.bsl false 1 1 [AV.int .i64 0]
 [(0, 1, Opd.s 38)], none⟩,
 ⟨some 40, MOp.app false 1 8 (Opd.s 32) (Opd.s 39), none⟩,
 ⟨some 5, MOp.mv (Opd.s 40), none⟩]))).seq
 (MC.reg
 [⟨some 41, MOp.bin .add (Opd.s 29)
 (Opd.c (AV.int .i64 1)), none⟩,
 ⟨some 29, MOp.mv (Opd.s 41), none⟩]))))
def M35b0l : List Bool := [true, false, false, false, true, true, false, false, false, false, false, false, false, false, false, false, false, false, false, false, false, false, false, false, false, false, false, false, true, true, false, false, false, false, false, false, false, false, false, false, false, false, false, false, false, false, false, false, false, false]
def M35 : MFun :=
 ⟨50, [MRes.tmp 1 2, MRes.tmp 1 3], (MC.reg
 [⟨some 2, MOp.mv (Opd.c AV.nils), none⟩,
 ⟨some 3, MOp.mv (Opd.c AV.nils), none⟩]).seq
 (((MC.reg
 [⟨some 7, MOp.mv (Opd.s 0), none⟩,
 ⟨some 8, MOp.eqv false EqK.ptr (Opd.s 7) (Opd.c AV.nilp), none⟩]).seq
 (MC.cond (Opd.s 8)
 ((MC.reg
 [⟨some 2, MOp.mv (Opd.c AV.nils), none⟩,
 ⟨some 3, MOp.mv (Opd.c AV.nils), none⟩]).seq
 MC.ret)
 MC.skip)).seq
 ((MC.draw
 [⟨some 9, MOp.mv (Opd.s 0), none⟩,
 ⟨some 10, MOp.nchk (Opd.s 9), none⟩,
 ⟨some 11, MOp.fa 0 (Opd.s 10), none⟩,
 ⟨some 12, MOp.load none (Opd.s 11), none⟩,
 ⟨some 13, MOp.mv (Opd.s 0), none⟩,
 ⟨some 14, MOp.nchk (Opd.s 13), none⟩,
 ⟨some 15, MOp.fa 1 (Opd.s 14), none⟩,
 ⟨some 16, MOp.load none (Opd.s 15), none⟩,
 ⟨some 17, MOp.len (Opd.s 16), none⟩,
 ⟨some 18, MOp.mn [Opd.s 12, Opd.s 17], none⟩,
 ⟨some 4, MOp.mv (Opd.s 18), none⟩]
 [0, 1, 3, 7, 0, 16, 48, 112, 240, 511, 1023]).seq
 ((MC.reg
 [⟨some 19, MOp.mv (Opd.s 0), none⟩,
 ⟨some 20, MOp.mv (Opd.s 0), none⟩,
 ⟨some 21, MOp.nchk (Opd.s 20), none⟩,
 ⟨some 22, MOp.fa 3 (Opd.s 21), none⟩,
 ⟨some 23, MOp.load none (Opd.s 22), none⟩,
 ⟨some 24, MOp.mv (Opd.s 4), none⟩,
 ⟨some 25, MOp.mx [Opd.s 23, Opd.s 24], none⟩,
 ⟨some 26, MOp.nchk (Opd.s 19), none⟩,
 ⟨some 27, MOp.fa 3 (Opd.s 26), none⟩,
 ⟨none, MOp.store 1 (Opd.s 27) (Opd.s 25), none⟩]).seq
 ((MC.reg
 [⟨some 5, MOp.mv (Opd.c AV.nils), none⟩]).seq
 (((MC.reg
 [⟨some 28, MOp.mv (Opd.s 4), none⟩,
 ⟨some 29, MOp.mv (Opd.c (AV.int .i64 0)), none⟩]).seq
 (MC.block 0
 (MC.loop M35b0l M35b0))).seq
 ((MC.reg
 [⟨some 42, MOp.mv (Opd.s 5), none⟩,
 ⟨some 43, MOp.mv (Opd.s 0), none⟩,
 ⟨some 44, MOp.nchk (Opd.s 43), none⟩,
 ⟨some 45, MOp.fa 1 (Opd.s 44), none⟩,
 ⟨some 46, MOp.load none (Opd.s 45), none⟩,
 ⟨some 47, MOp.mv (Opd.s 4), none⟩,
 ⟨some 48, MOp.slc 1 (Opd.s 46) none (some (Opd.s 47)), none⟩,
 ⟨some 49, MOp.call 61 [(1, Opd.s 48)], none⟩,
 ⟨some 2, MOp.mv (Opd.s 42), none⟩,
 ⟨some 3, MOp.mv (Opd.s 49), none⟩]).seq
 MC.ret)))))) ⟩
def M36 : MFun :=
 ⟨60, [MRes.tmp 0 4, MRes.tmp 0 5], (MC.reg
 [⟨some 4, MOp.mv (Opd.c (AV.int .i64 0)), none⟩,
 ⟨some 5, MOp.mv (Opd.c (AV.bool false)), none⟩]).seq
 (((MC.draw
 [⟨some 7, MOp.mv (Opd.s 0), none⟩,
 ⟨some 8, MOp.eqv false EqK.ptr (Opd.s 7) (Opd.c AV.nilp), none⟩,
 ⟨some 9, MOp.mv (Opd.s 8), none⟩,
 ⟨some 10, MOp.mv (Opd.s 1), some (9, false)⟩,
 ⟨some 11, MOp.bin .lss (Opd.s 10)
 (Opd.c (AV.int .i64 0)), some (9, false)⟩,
 ⟨some 12, MOp.pick (Opd.s 9) (Opd.c (AV.bool true)) (Opd.s 11), none⟩,
 ⟨some 13, MOp.mv (Opd.s 12), none⟩,
 ⟨some 14, MOp.mv (Opd.s 1), some (13, false)⟩,
 ⟨some 15, MOp.bin .gtr (Opd.s 14)
 (Opd.c (AV.int .i64 7)), some (13, false)⟩,
 ⟨some 16, MOp.pick (Opd.s 13) (Opd.c (AV.bool true)) (Opd.s 15), none⟩,
 ⟨some 17, MOp.mv (Opd.s 16), none⟩,
 ⟨some 18, MOp.mv (Opd.s 1), some (17, false)⟩,
 ⟨some 19, MOp.mv (Opd.s 0), some (17, false)⟩,
 ⟨some 20, MOp.nchk (Opd.s 19), some (17, false)⟩,
 ⟨some 21, MOp.fa 2 (Opd.s 20), some (17, false)⟩,
 ⟨some 22, MOp.load none (Opd.s 21), some (17, false)⟩,
 ⟨some 23, MOp.mv (Opd.s 0), some (17, false)⟩,
 ⟨some 24, MOp.nchk (Opd.s 23), some (17, false)⟩,
 ⟨some 25, MOp.fa 3 (Opd.s 24), some (17, false)⟩,
 ⟨some 26, MOp.load none (Opd.s 25), some (17, false)⟩,
 ⟨some 27, MOp.bin .add (Opd.s 26)
 (Opd.c (AV.int .i64 1)), some (17, false)⟩,
 ⟨some 28, MOp.call 25 [(0, Opd.s 18), (0, Opd.s 22), (0, Opd.s 27)], some (17, false)⟩,
 ⟨some 29, MOp.un .not (Opd.s 28), some (17, false)⟩,
 ⟨some 30, MOp.pick (Opd.s 17) (Opd.c (AV.bool true)) (Opd.s 29), none⟩]
 [0, 1, 3, 7, 15, 31, 63, 127, 255, 511, 1023, 2047, 2047, 6143, 14335, 30719, 2047, 67583, 198655,
 460799, 985087, 2097151, 4194303, 8388607]).seq
 (MC.cond (Opd.s 30)
 ((MC.reg
 [⟨some 4, MOp.mv (Opd.c (AV.int .i64 0)), none⟩,
 ⟨some 5, MOp.mv (Opd.c (AV.bool false)), none⟩]).seq
 MC.ret)
 MC.skip)).seq
 ((MC.reg
 [⟨some 31, MOp.mv (Opd.s 1), none⟩,
 ⟨some 32, MOp.mv (Opd.s 0), none⟩,
 ⟨some 33, MOp.nchk (Opd.s 32), none⟩,
 ⟨some 34, MOp.fa 2 (Opd.s 33), none⟩,
 ⟨some 35, MOp.load none (Opd.s 34), none⟩,
 ⟨some 36, MOp.call 24 [(0, Opd.s 31), (0, Opd.s 35)], none⟩,
 ⟨some 6, MOp.mv (Opd.s 36), none⟩]).seq
 ((MC.reg
 [⟨some 37, MOp.mv (Opd.s 0), none⟩,
 ⟨some 38, MOp.mv (Opd.s 0), none⟩,
 ⟨some 39, MOp.nchk (Opd.s 38), none⟩,
 ⟨some 40, MOp.fa 1 (Opd.s 39), none⟩,
 ⟨some 41, MOp.load none (Opd.s 40), none⟩,
 ⟨some 42, MOp.mv (Opd.s 6), none⟩,
 ⟨some 43, MOp.slc 1 (Opd.s 41) (some (Opd.s 42)) none, none⟩,
 ⟨some 44, MOp.nchk (Opd.s 37), none⟩,
 ⟨some 45, MOp.fa 1 (Opd.s 44), none⟩,
 ⟨none, MOp.store 1 (Opd.s 45) (Opd.s 43), none⟩]).seq
 ((MC.reg
 [⟨some 46, MOp.mv (Opd.s 0), none⟩,
 ⟨some 47, MOp.mv (Opd.s 0), none⟩,
 ⟨some 48, MOp.mv (Opd.s 1), none⟩,
 ⟨some 49, MOp.mv (Opd.s 0), none⟩,
 ⟨some 50, MOp.nchk (Opd.s 49), none⟩,
 ⟨some 51, MOp.fa 3 (Opd.s 50), none⟩,
 ⟨some 52, MOp.load none (Opd.s 51), none⟩,
 ⟨some 53, MOp.mv (Opd.s 6), none⟩,
 ⟨some 54, MOp.bin .sub (Opd.s 52) (Opd.s 53), none⟩,
 ⟨some 55, MOp.nchk (Opd.s 46), none⟩,
 ⟨some 56, MOp.fa 2 (Opd.s 55), none⟩,
 ⟨none, MOp.store 1 (Opd.s 56) (Opd.s 48), none⟩,
 ⟨some 57, MOp.nchk (Opd.s 47), none⟩,
 ⟨some 58, MOp.fa 3 (Opd.s 57), none⟩,
 ⟨none, MOp.store 1 (Opd.s 58) (Opd.s 54), none⟩]).seq
 ((MC.reg
 [⟨some 59, MOp.mv (Opd.s 6), none⟩,
 ⟨some 4, MOp.mv (Opd.s 59), none⟩,
 ⟨some 5, MOp.mv (Opd.c (AV.bool true)), none⟩]).seq
 MC.ret))))) ⟩
def M37 : MFun :=
 ⟨10, [MRes.tmp 0 2], (MC.reg
 [⟨some 2, MOp.mv (Opd.c (AV.int .i64 0)), none⟩]).seq
 (((MC.reg
 [⟨some 3, MOp.mv (Opd.s 0), none⟩,
 ⟨some 4, MOp.eqv false EqK.ptr (Opd.s 3) (Opd.c AV.nilp), none⟩]).seq
 (MC.cond (Opd.s 4)
 ((MC.reg
 [⟨some 2, MOp.mv (Opd.c (AV.int .i64 0)), none⟩]).seq
 MC.ret)
 MC.skip)).seq
 ((MC.reg
 [⟨some 5, MOp.mv (Opd.s 0), none⟩,
 ⟨some 6, MOp.nchk (Opd.s 5), none⟩,
 ⟨some 7, MOp.fa 1 (Opd.s 6), none⟩,
 ⟨some 8, MOp.load none (Opd.s 7), none⟩,
 ⟨some 9, MOp.len (Opd.s 8), none⟩,
 ⟨some 2, MOp.mv (Opd.s 9), none⟩]).seq
 MC.ret)) ⟩
def M38 : MFun :=
 ⟨9, [MRes.tmp 0 2], (MC.reg
 [⟨some 2, MOp.mv (Opd.c (AV.int .i64 0)), none⟩]).seq
 (((MC.reg
 [⟨some 3, MOp.mv (Opd.s 0), none⟩,
 ⟨some 4, MOp.eqv false EqK.ptr (Opd.s 3) (Opd.c AV.nilp), none⟩]).seq
 (MC.cond (Opd.s 4)
 ((MC.reg
 [⟨some 2, MOp.mv (Opd.c (AV.int .i64 0)), none⟩]).seq
 MC.ret)
 MC.skip)).seq
 ((MC.reg
 [⟨some 5, MOp.mv (Opd.s 0), none⟩,
 ⟨some 6, MOp.nchk (Opd.s 5), none⟩,
 ⟨some 7, MOp.fa 2 (Opd.s 6), none⟩,
 ⟨some 8, MOp.load none (Opd.s 7), none⟩,
 ⟨some 2, MOp.mv (Opd.s 8), none⟩]).seq
 MC.ret)) ⟩
def M47 : MFun :=
 ⟨9, [MRes.tmp 0 2], (MC.reg
 [⟨some 2, MOp.mv (Opd.c (AV.int .i64 0)), none⟩]).seq
 (((MC.reg
 [⟨some 3, MOp.mv (Opd.s 0), none⟩,
 ⟨some 4, MOp.eqv false EqK.ptr (Opd.s 3) (Opd.c AV.nilp), none⟩]).seq
 (MC.cond (Opd.s 4)
 ((MC.reg
 [⟨some 2, MOp.mv (Opd.c (AV.int .i64 0)), none⟩]).seq
 MC.ret)
 MC.skip)).seq
 ((MC.reg
 [⟨some 5, MOp.mv (Opd.s 0), none⟩,
 ⟨some 6, MOp.nchk (Opd.s 5), none⟩,
 ⟨some 7, MOp.fa 0 (Opd.s 6), none⟩,
 ⟨some 8, MOp.load none (Opd.s 7), none⟩,
 ⟨some 2, MOp.mv (Opd.s 8), none⟩]).seq
 MC.ret)) ⟩
def M61 : MFun :=
 ⟨8, [MRes.tmp 1 2], (MC.reg
 [⟨some 2, MOp.mv (Opd.c AV.nils), none⟩]).seq
 (((MC.reg
 [⟨some 3, MOp.mv (Opd.s 0), none⟩,
 ⟨some 4, MOp.eqv false EqK.slc (Opd.s 3) (Opd.c AV.nils), none⟩]).seq
 (MC.cond (Opd.s 4)
 ((MC.reg
 [⟨some 2, MOp.mv (Opd.c AV.nils), none⟩]).seq
 MC.ret)
 MC.skip)).seq
 ((MC.reg
 [⟨some 5, MOp.bsl false 1 0 [] [], none⟩,
 ⟨some 6, MOp.mv (Opd.s 0), none⟩,
 ⟨some 7, MOp.app false 1 16 (Opd.s 5) (Opd.s 6), none⟩,
 ⟨some 2, MOp.mv (Opd.s 7), none⟩]).seq
 MC.ret)) ⟩
theorem tab8 : tableOf Tryd.prog 8 = some M8 := by kernel_rfl
theorem tab12 : tableOf Tryd.prog 12 = some M12 := by kernel_rfl
theorem tab33 : tableOf Tryd.prog 33 = some M33 := by kernel_rfl
theorem tab35 : tableOf Tryd.prog 35 = some M35 := by kernel_rfl
theorem tab36 : tableOf Tryd.prog 36 = some M36 := by kernel_rfl
theorem tab37 : tableOf Tryd.prog 37 = some M37 := by kernel_rfl
theorem tab38 : tableOf Tryd.prog 38 = some M38 := by kernel_rfl
theorem tab47 : tableOf Tryd.prog 47 = some M47 := by kernel_rfl
theorem tab61 : tableOf Tryd.prog 61 = some M61 := by kernel_rfl
end Go.Proofs.YtochnineebgbgaaDoor
