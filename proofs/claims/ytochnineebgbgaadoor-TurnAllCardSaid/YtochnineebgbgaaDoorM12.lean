/- Functions of the program in the evaluator's form, written out by a program. No conditions. -/
import Derived.Test.YtochnineebgbgaaDoorTabs
set_option linter.unusedVariables false
namespace Go.Proofs.YtochnineebgbgaaDoor
open Go Go.Ab
def oks : List (Nat × EqF) :=
 []
def M3 : MFun :=
 ⟨52, [MRes.tmp 0 6], (MC.reg
 [⟨some 6, MOp.mv (Opd.c (AV.bool false)), none⟩]).seq
 ((MC.reg
 [⟨some 8, MOp.call 21 [], none⟩,
 ⟨some 7, MOp.mv (Opd.s 8), none⟩]).seq
 (((MC.reg
 [⟨some 9, MOp.mv (Opd.s 7), none⟩,
 ⟨some 10, MOp.un .not (Opd.s 9), none⟩]).seq
 (MC.cond (Opd.s 10)
 ((MC.reg
 [⟨some 6, MOp.mv (Opd.c (AV.bool false)), none⟩]).seq
 MC.ret)
 MC.skip)).seq
 ((MC.reg
 [⟨some 11, MOp.mv (Opd.s 0), none⟩,
 ⟨some 12, MOp.bin .rem (Opd.s 11)
 (Opd.c (AV.int .i64 1099511627776)), none⟩,
 ⟨some 13, MOp.mv (Opd.s 1), none⟩,
 ⟨some 14, MOp.bin .rem (Opd.s 13)
 (Opd.c (AV.int .i64 1099511627776)), none⟩,
 ⟨some 0, MOp.mv (Opd.s 12), none⟩,
 ⟨some 1, MOp.mv (Opd.s 14), none⟩]).seq
 (((MC.reg
 [⟨some 15, MOp.mv (Opd.s 0), none⟩,
 ⟨some 16, MOp.mv (Opd.s 1), none⟩,
 ⟨some 17, MOp.call 22 [(0, Opd.s 15), (0, Opd.s 16)], none⟩,
 ⟨some 18, MOp.mv (Opd.s 0), none⟩,
 ⟨some 19, MOp.mv (Opd.s 1), none⟩,
 ⟨some 20, MOp.bin .add (Opd.s 18) (Opd.s 19), none⟩,
 ⟨some 21, MOp.call 23 [(0, Opd.s 20)], none⟩,
 ⟨some 22, MOp.bin .neq (Opd.s 17) (Opd.s 21), none⟩,
 ⟨some 23, MOp.mv (Opd.s 22), none⟩,
 ⟨some 24, MOp.mv (Opd.s 0), some (23, false)⟩,
 ⟨some 25, MOp.mv (Opd.s 1), some (23, false)⟩,
 ⟨some 26, MOp.call 24 [(0, Opd.s 24), (0, Opd.s 25)], some (23, false)⟩,
 ⟨some 27, MOp.mv (Opd.s 0), some (23, false)⟩,
 ⟨some 28, MOp.mv (Opd.s 1), some (23, false)⟩,
 ⟨some 29, MOp.bin .sub (Opd.s 27) (Opd.s 28), some (23, false)⟩,
 ⟨some 30, MOp.call 23 [(0, Opd.s 29)], some (23, false)⟩,
 ⟨some 31, MOp.bin .neq (Opd.s 26) (Opd.s 30), some (23, false)⟩,
 ⟨some 32, MOp.pick (Opd.s 23) (Opd.c (AV.bool true)) (Opd.s 31), none⟩,
 ⟨some 33, MOp.mv (Opd.s 32), none⟩,
 ⟨some 34, MOp.mv (Opd.s 0), some (33, false)⟩,
 ⟨some 35, MOp.mv (Opd.s 1), some (33, false)⟩,
 ⟨some 36, MOp.call 24 [(0, Opd.s 34), (0, Opd.s 35)], some (33, false)⟩,
 ⟨some 37, MOp.mv (Opd.s 1), some (33, false)⟩,
 ⟨some 38, MOp.call 22 [(0, Opd.s 36), (0, Opd.s 37)], some (33, false)⟩,
 ⟨some 39, MOp.mv (Opd.s 0), some (33, false)⟩,
 ⟨some 40, MOp.call 23 [(0, Opd.s 39)], some (33, false)⟩,
 ⟨some 41, MOp.bin .neq (Opd.s 38) (Opd.s 40), some (33, false)⟩,
 ⟨some 42, MOp.pick (Opd.s 33) (Opd.c (AV.bool true)) (Opd.s 41), none⟩]).seq
 (MC.cond (Opd.s 42)
 ((MC.reg
 [⟨some 6, MOp.mv (Opd.c (AV.bool false)), none⟩]).seq
 MC.ret)
 MC.skip)).seq
 ((MC.reg
 [⟨some 43, MOp.mv (Opd.s 0), none⟩,
 ⟨some 44, MOp.mv (Opd.s 1), none⟩,
 ⟨some 45, MOp.mv (Opd.s 2), none⟩,
 ⟨some 46, MOp.call 25 [(0, Opd.s 43), (0, Opd.s 44), (0, Opd.s 45)], none⟩,
 ⟨some 47, MOp.mv (Opd.s 0), none⟩,
 ⟨some 48, MOp.mv (Opd.s 1), none⟩,
 ⟨some 49, MOp.mv (Opd.s 2), none⟩,
 ⟨some 50, MOp.call 26 [(0, Opd.s 47), (0, Opd.s 48), (0, Opd.s 49)], none⟩,
 ⟨some 51, MOp.eqv false (EqK.flat (EqF.one SK.b)) (Opd.s 46)
 (Opd.s 50), none⟩,
 ⟨some 6, MOp.mv (Opd.s 51), none⟩]).seq
 MC.ret))))) ⟩
def M5b0 : MC :=
 (((MC.reg
 [⟨some 21, MOp.mv (Opd.s 9), none⟩,
 ⟨some 22, MOp.bin .lss (Opd.s 21)
 (Opd.c (AV.int .i64 8)), none⟩]).seq
 (MC.cond (Opd.s 22) MC.skip (MC.exit 0))).seq
 ((MC.block 1
 ((MC.reg
 [⟨some 25, MOp.mv (Opd.s 9), none⟩,
 ⟨some 26, MOp.mv (Opd.s 0), none⟩,
 ⟨some 27, MOp.mv (Opd.s 2), none⟩,
 ⟨some 28, MOp.call 25
 [(0, Opd.s 25), (0, Opd.s 26), (0, Opd.s 27)], none⟩]).seq
 (MC.cond (Opd.s 28)
 (MC.reg
 [⟨some 29, MOp.mv (Opd.s 8), none⟩,
 ⟨some 30, MOp.bin .add (Opd.s 29)
 (Opd.c (AV.int .i64 1)), none⟩,
 ⟨some 8, MOp.mv (Opd.s 30), none⟩])
 MC.skip))).seq
 (MC.reg
 [⟨some 23, MOp.mv (Opd.s 9), none⟩,
 ⟨some 24, MOp.bin .add (Opd.s 23)
 (Opd.c (AV.int .i64 1)), none⟩,
 ⟨some 9, MOp.mv (Opd.s 24), none⟩])))
def M5b0l : List Bool := [true, true, true, false, false, false, false, false, true, true, false, false, false, false, false, false, false, false, false, false, false, false, false, false, false, false, false, false, false, false, false, false, false, false, false, false, false, false, false, false, false, false, false, false, false, false, false, false, false, false, false, false, false, false, false, false, false, false, false, false, false, false, false, false, false, false, false, false, false, false, false, false, false]
def M5 : MFun :=
 ⟨73, [MRes.tmp 0 6], (MC.reg
 [⟨some 6, MOp.mv (Opd.c (AV.bool false)), none⟩]).seq
 ((MC.reg
 [⟨some 10, MOp.call 21 [], none⟩,
 ⟨some 7, MOp.mv (Opd.s 10), none⟩]).seq
 (((MC.reg
 [⟨some 11, MOp.mv (Opd.s 7), none⟩,
 ⟨some 12, MOp.un .not (Opd.s 11), none⟩]).seq
 (MC.cond (Opd.s 12)
 ((MC.reg
 [⟨some 6, MOp.mv (Opd.c (AV.bool false)), none⟩]).seq
 MC.ret)
 MC.skip)).seq
 ((MC.reg
 [⟨some 13, MOp.mv (Opd.s 0), none⟩,
 ⟨some 14, MOp.bin .and (Opd.s 13)
 (Opd.c (AV.int .i64 1023)), none⟩,
 ⟨some 15, MOp.mv (Opd.s 1), none⟩,
 ⟨some 16, MOp.bin .and (Opd.s 15)
 (Opd.c (AV.int .i64 1023)), none⟩,
 ⟨some 17, MOp.mv (Opd.s 2), none⟩,
 ⟨some 18, MOp.bin .rem (Opd.s 17)
 (Opd.c (AV.int .i64 12)), none⟩,
 ⟨some 19, MOp.bin .add (Opd.s 18)
 (Opd.c (AV.int .i64 12)), none⟩,
 ⟨some 20, MOp.bin .rem (Opd.s 19)
 (Opd.c (AV.int .i64 12)), none⟩,
 ⟨some 0, MOp.mv (Opd.s 14), none⟩,
 ⟨some 1, MOp.mv (Opd.s 16), none⟩,
 ⟨some 2, MOp.mv (Opd.s 20), none⟩]).seq
 ((MC.reg
 [⟨some 8, MOp.mv (Opd.c (AV.int .i64 0)), none⟩]).seq
 (((MC.reg
 [⟨some 9, MOp.mv (Opd.c (AV.int .i64 0)), none⟩]).seq
 (MC.block 0
 (MC.loop M5b0l M5b0))).seq
 ((MC.reg
 [⟨some 31, MOp.mv (Opd.s 0), none⟩,
 ⟨some 32, MOp.call 22
 [(0, Opd.s 31), (0, Opd.c (AV.int .i64 8))], none⟩,
 ⟨some 33, MOp.mv (Opd.s 0), none⟩,
 ⟨some 34, MOp.call 22
 [(0, Opd.s 33), (0, Opd.c (AV.int .i64 0))], none⟩,
 ⟨some 35, MOp.bin .eql (Opd.s 32) (Opd.s 34), none⟩,
 ⟨some 36, MOp.mv (Opd.s 35), none⟩,
 ⟨some 37, MOp.mv (Opd.s 0), some (36, true)⟩,
 ⟨some 38, MOp.mv (Opd.s 1), some (36, true)⟩,
 ⟨some 39, MOp.call 22 [(0, Opd.s 37), (0, Opd.s 38)], some (36, true)⟩,
 ⟨some 40, MOp.call 22
 [(0, Opd.s 39), (0, Opd.c (AV.int .i64 0))], some (36, true)⟩,
 ⟨some 41, MOp.mv (Opd.s 1), some (36, true)⟩,
 ⟨some 42, MOp.mv (Opd.s 0), some (36, true)⟩,
 ⟨some 43, MOp.call 22 [(0, Opd.s 41), (0, Opd.s 42)], some (36, true)⟩,
 ⟨some 44, MOp.bin .eql (Opd.s 40) (Opd.s 43), some (36, true)⟩,
 ⟨some 45, MOp.pick (Opd.s 36) (Opd.s 44) (Opd.c (AV.bool false)), none⟩,
 ⟨some 46, MOp.mv (Opd.s 45), none⟩,
 ⟨some 47, MOp.mv (Opd.s 0), some (46, true)⟩,
 ⟨some 48, MOp.mv (Opd.s 0), some (46, true)⟩,
 ⟨some 49, MOp.call 24 [(0, Opd.s 47), (0, Opd.s 48)], some (46, true)⟩,
 ⟨some 50, MOp.bin .eql (Opd.s 49)
 (Opd.c (AV.int .i64 0)), some (46, true)⟩,
 ⟨some 51, MOp.pick (Opd.s 46) (Opd.s 50) (Opd.c (AV.bool false)), none⟩,
 ⟨some 52, MOp.mv (Opd.s 51), none⟩,
 ⟨some 53, MOp.mv (Opd.s 8), some (52, true)⟩,
 ⟨some 54, MOp.mv (Opd.s 2), some (52, true)⟩,
 ⟨some 55, MOp.mn [Opd.s 54, Opd.c (AV.int .i64 8)], some (52, true)⟩,
 ⟨some 56, MOp.bin .eql (Opd.s 53) (Opd.s 55), some (52, true)⟩,
 ⟨some 57, MOp.pick (Opd.s 52) (Opd.s 56) (Opd.c (AV.bool false)), none⟩,
 ⟨some 58, MOp.mv (Opd.s 57), none⟩,
 ⟨some 59, MOp.mv (Opd.s 0), some (58, true)⟩,
 ⟨some 60, MOp.mv (Opd.s 0), some (58, true)⟩,
 ⟨some 61, MOp.call 25
 [(0, Opd.s 59), (0, Opd.s 60),
 (0, Opd.c (AV.int .i64 1))], some (58, true)⟩,
 ⟨some 62, MOp.pick (Opd.s 58) (Opd.s 61) (Opd.c (AV.bool false)), none⟩,
 ⟨some 63, MOp.mv (Opd.s 62), none⟩,
 ⟨some 64, MOp.mv (Opd.s 0), some (63, true)⟩,
 ⟨some 65, MOp.mv (Opd.s 1), some (63, true)⟩,
 ⟨some 66, MOp.call 24 [(0, Opd.s 64), (0, Opd.s 65)], some (63, true)⟩,
 ⟨some 67, MOp.mv (Opd.s 1), some (63, true)⟩,
 ⟨some 68, MOp.mv (Opd.s 0), some (63, true)⟩,
 ⟨some 69, MOp.call 24 [(0, Opd.s 67), (0, Opd.s 68)], some (63, true)⟩,
 ⟨some 70, MOp.call 22 [(0, Opd.s 66), (0, Opd.s 69)], some (63, true)⟩,
 ⟨some 71, MOp.bin .eql (Opd.s 70)
 (Opd.c (AV.int .i64 0)), some (63, true)⟩,
 ⟨some 72, MOp.pick (Opd.s 63) (Opd.s 71) (Opd.c (AV.bool false)), none⟩,
 ⟨some 6, MOp.mv (Opd.s 72), none⟩]).seq
 MC.ret)))))) ⟩
def M9b0 : MC :=
 (((MC.reg
 [⟨some 14, MOp.mv (Opd.s 6), none⟩,
 ⟨some 15, MOp.mv (Opd.s 0), none⟩,
 ⟨some 16, MOp.len (Opd.s 15), none⟩,
 ⟨some 17, MOp.bin .lss (Opd.s 14) (Opd.s 16), none⟩,
 ⟨some 18, MOp.mv (Opd.s 17), none⟩,
 ⟨some 19, MOp.mv (Opd.s 6), some (18, true)⟩,
 ⟨some 20, MOp.bin .lss (Opd.s 19)
 (Opd.c (AV.int .i64 60)), some (18, true)⟩,
 ⟨some 21, MOp.pick (Opd.s 18) (Opd.s 20)
 (Opd.c (AV.bool false)), none⟩]).seq
 (MC.cond (Opd.s 21) MC.skip (MC.exit 0))).seq
 ((MC.block 1
 ((MC.reg
 [⟨some 24, MOp.mv (Opd.s 0), none⟩,
 ⟨some 25, MOp.mv (Opd.s 6), none⟩,
 ⟨some 26, MOp.ixa 1 (Opd.s 24) (Opd.s 25), none⟩,
 ⟨some 27, MOp.load none (Opd.s 26), none⟩,
 ⟨some 28, MOp.bin .rem (Opd.s 27)
 (Opd.c (AV.int .i64 8)), none⟩,
 ⟨some 29, MOp.bin .add (Opd.s 28)
 (Opd.c (AV.int .i64 8)), none⟩,
 ⟨some 30, MOp.bin .rem (Opd.s 29)
 (Opd.c (AV.int .i64 8)), none⟩,
 ⟨some 7, MOp.mv (Opd.s 30), none⟩]).seq
 ((MC.reg
 [⟨some 32, MOp.mv (Opd.s 4), none⟩,
 ⟨some 33, MOp.mv (Opd.s 7), none⟩,
 ⟨some 34, MOp.mv (Opd.s 6), none⟩,
 ⟨some 35, MOp.call 34 [(0, Opd.s 34)], none⟩,
 ⟨some 36, MOp.call 28
 [(0, Opd.s 32), (0, Opd.s 33), (0, Opd.s 35)], none⟩,
 ⟨some 31, MOp.mv (Opd.s 36), none⟩,
 ⟨some 37, MOp.ext 0 (Opd.s 31), none⟩,
 ⟨some 38, MOp.ext 1 (Opd.s 31), none⟩,
 ⟨some 8, MOp.mv (Opd.s 37), none⟩,
 ⟨some 9, MOp.mv (Opd.s 38), none⟩]).seq
 (((MC.reg
 [⟨some 39, MOp.mv (Opd.s 9), none⟩,
 ⟨some 40, MOp.mv (Opd.s 7), none⟩,
 ⟨some 41, MOp.mv (Opd.s 5), none⟩,
 ⟨some 42, MOp.bin .rem (Opd.s 41)
 (Opd.c (AV.int .i64 8)), none⟩,
 ⟨some 43, MOp.bin .eql (Opd.s 40) (Opd.s 42), none⟩,
 ⟨some 44, MOp.eqv true
 (EqK.flat (EqF.one SK.b)) (Opd.s 39)
 (Opd.s 43), none⟩,
 ⟨some 45, MOp.mv (Opd.s 44), none⟩,
 ⟨some 46, MOp.mv (Opd.s 9), some (45, false)⟩,
 ⟨some 47, MOp.mv (Opd.s 46), some (45, false)⟩,
 ⟨some 48, MOp.mv (Opd.s 8), some (47, true)⟩,
 ⟨some 49, MOp.mv (Opd.s 6), some (47, true)⟩,
 ⟨some 50, MOp.call 34 [(0, Opd.s 49)], some (47, true)⟩,
 ⟨some 51, MOp.bin .neq (Opd.s 48) (Opd.s 50), some (47, true)⟩,
 ⟨some 52, MOp.pick (Opd.s 47) (Opd.s 51)
 (Opd.c (AV.bool false)), some (45, false)⟩,
 ⟨some 53, MOp.pick (Opd.s 45)
 (Opd.c (AV.bool true)) (Opd.s 52), none⟩]).seq
 (MC.cond (Opd.s 53)
 ((MC.reg
 [⟨some 2, MOp.mv (Opd.c (AV.bool false)), none⟩]).seq
 MC.ret)
 MC.skip)).seq
 (((MC.reg
 [⟨some 54, MOp.mv (Opd.s 9), none⟩]).seq
 (MC.cond (Opd.s 54)
 (MC.reg
 [⟨some 55, MOp.mv (Opd.s 5), none⟩,
 ⟨some 56, MOp.bin .add (Opd.s 55)
 (Opd.c (AV.int .i64 1)), none⟩,
 ⟨some 5, MOp.mv (Opd.s 56), none⟩])
 MC.skip)).seq
 ((MC.reg
 [⟨some 57, MOp.mv (Opd.s 4), none⟩,
 ⟨some 58, MOp.call 30 [(0, Opd.s 57)], none⟩,
 ⟨some 59, MOp.mv (Opd.s 5), none⟩,
 ⟨some 60, MOp.bin .rem (Opd.s 59)
 (Opd.c (AV.int .i64 8)), none⟩,
 ⟨some 61, MOp.bin .neq (Opd.s 58) (Opd.s 60), none⟩,
 ⟨some 62, MOp.mv (Opd.s 61), none⟩,
 ⟨some 63, MOp.mv (Opd.s 4), some (62, false)⟩,
 ⟨some 64, MOp.call 31 [(0, Opd.s 63)], some (62, false)⟩,
 ⟨some 65, MOp.mv (Opd.s 9), some (62, false)⟩,
 ⟨some 66, MOp.eqv false
 (EqK.flat (EqF.one SK.b)) (Opd.s 64)
 (Opd.s 65), some (62, false)⟩,
 ⟨some 67, MOp.pick (Opd.s 62)
 (Opd.c (AV.bool true)) (Opd.s 66), none⟩]).seq
 (MC.cond (Opd.s 67)
 ((MC.reg
 [⟨some 2, MOp.mv (Opd.c (AV.bool false)), none⟩]).seq
 MC.ret)
 MC.skip))))))).seq
 (MC.reg
 [⟨some 22, MOp.mv (Opd.s 6), none⟩,
 ⟨some 23, MOp.bin .add (Opd.s 22)
 (Opd.c (AV.int .i64 1)), none⟩,
 ⟨some 6, MOp.mv (Opd.s 23), none⟩])))
def M9b0l : List Bool := [true, false, false, false, true, true, true, false, false, false, false, false, false, false, false, false, false, false, false, false, false, false, false, false, false, false, false, false, false, false, false, false, false, false, false, false, false, false, false, false, false, false, false, false, false, false, false, false, false, false, false, false, false, false, false, false, false, false, false, false, false, false, false, false, false, false, false, false, false, false, false, false, false]
def M9 : MFun :=
 ⟨73, [MRes.tmp 0 2], (MC.reg
 [⟨some 2, MOp.mv (Opd.c (AV.bool false)), none⟩]).seq
 ((MC.reg
 [⟨some 10, MOp.call 21 [], none⟩,
 ⟨some 3, MOp.mv (Opd.s 10), none⟩]).seq
 (((MC.reg
 [⟨some 11, MOp.mv (Opd.s 3), none⟩,
 ⟨some 12, MOp.un .not (Opd.s 11), none⟩]).seq
 (MC.cond (Opd.s 12)
 ((MC.reg
 [⟨some 2, MOp.mv (Opd.c (AV.bool false)), none⟩]).seq
 MC.ret)
 MC.skip)).seq
 ((MC.reg
 [⟨some 13, MOp.call 27 [], none⟩,
 ⟨some 4, MOp.mv (Opd.s 13), none⟩]).seq
 ((MC.reg
 [⟨some 5, MOp.mv (Opd.c (AV.int .i64 0)), none⟩]).seq
 (((MC.reg
 [⟨some 6, MOp.mv (Opd.c (AV.int .i64 0)), none⟩]).seq
 (MC.block 0
 (MC.loop M9b0l M9b0))).seq
 ((MC.reg
 [⟨some 68, MOp.mv (Opd.s 4), none⟩,
 ⟨some 69, MOp.call 30 [(0, Opd.s 68)], none⟩,
 ⟨some 70, MOp.mv (Opd.s 5), none⟩,
 ⟨some 71, MOp.bin .rem (Opd.s 70)
 (Opd.c (AV.int .i64 8)), none⟩,
 ⟨some 72, MOp.bin .eql (Opd.s 69) (Opd.s 71), none⟩,
 ⟨some 2, MOp.mv (Opd.s 72), none⟩]).seq
 MC.ret)))))) ⟩
def M15 : MFun :=
 ⟨54, [MRes.tmp 0 2], (MC.reg
 [⟨some 2, MOp.mv (Opd.c (AV.bool false)), none⟩]).seq
 ((MC.reg
 [⟨some 9, MOp.call 21 [], none⟩,
 ⟨some 3, MOp.mv (Opd.s 9), none⟩]).seq
 (((MC.reg
 [⟨some 10, MOp.mv (Opd.s 3), none⟩,
 ⟨some 11, MOp.un .not (Opd.s 10), none⟩]).seq
 (MC.cond (Opd.s 11)
 ((MC.reg
 [⟨some 2, MOp.mv (Opd.c (AV.bool false)), none⟩]).seq
 MC.ret)
 MC.skip)).seq
 ((MC.reg
 [⟨some 12, MOp.mv (Opd.s 0), none⟩,
 ⟨some 13, MOp.bin .rem (Opd.s 12)
 (Opd.c (AV.int .i64 8)), none⟩,
 ⟨some 14, MOp.bin .add (Opd.s 13)
 (Opd.c (AV.int .i64 8)), none⟩,
 ⟨some 15, MOp.bin .rem (Opd.s 14)
 (Opd.c (AV.int .i64 8)), none⟩,
 ⟨some 0, MOp.mv (Opd.s 15), none⟩]).seq
 ((MC.reg
 [⟨some 16, MOp.build
 [AV.int .i64 0, AV.int .i64 0,
 AV.int .i64 0, AV.int .i64 0,
 AV.int .i64 0]
 [(2, 1, Opd.c (AV.int .i64 1)),
 (3, 1, Opd.c (AV.int .i64 8))], none⟩,
 ⟨some 17, MOp.call 39
 [(0, Opd.c (AV.int .i64 2)), (0, Opd.s 16)], none⟩,
 ⟨some 4, MOp.mv (Opd.s 17), none⟩]).seq
 ((MC.reg
 [⟨some 19, MOp.mv (Opd.s 4), none⟩,
 ⟨some 20, MOp.mv (Opd.s 0), none⟩,
 ⟨some 21, MOp.build
 [AV.int .i64 0, AV.int .i64 0,
 AV.bool false, AV.int .i64 0,
 AV.int .i64 0, AV.int .i64 0,
 AV.int .i64 0, AV.bool false, AV.str []]
 [(2, 1, Opd.c (AV.bool true)),
 (3, 1, Opd.c (AV.int .i64 1)), (6, 1, Opd.s 20),
 (7, 1, Opd.c (AV.bool true)),
 (8, 1, Opd.c (AV.str [(113 : UInt8)]))], none⟩,
 ⟨some 22, MOp.call 49 [(0, Opd.s 19), (0, Opd.s 21)], none⟩,
 ⟨some 18, MOp.mv (Opd.s 22), none⟩,
 ⟨some 23, MOp.ext 0 (Opd.s 18), none⟩,
 ⟨some 24, MOp.ext 1 (Opd.s 18), none⟩,
 ⟨some 5, MOp.mv (Opd.s 23), none⟩,
 ⟨some 6, MOp.mv (Opd.s 24), none⟩]).seq
 ((MC.reg
 [⟨some 25, MOp.mv (Opd.s 4), none⟩,
 ⟨some 26, MOp.call 42 [(0, Opd.s 25)], none⟩,
 ⟨some 7, MOp.mv (Opd.s 26), none⟩]).seq
 (((MC.reg
 [⟨some 27, MOp.mv (Opd.s 7), none⟩,
 ⟨some 28, MOp.len (Opd.s 27), none⟩,
 ⟨some 29, MOp.bin .neq (Opd.s 28)
 (Opd.c (AV.int .i64 1)), none⟩,
 ⟨some 30, MOp.mv (Opd.s 29), none⟩,
 ⟨some 31, MOp.mv (Opd.s 6), some (30, false)⟩,
 ⟨some 32, MOp.mv (Opd.s 0), some (30, false)⟩,
 ⟨some 33, MOp.bin .eql (Opd.s 32)
 (Opd.c (AV.int .i64 0)), some (30, false)⟩,
 ⟨some 34, MOp.eqv true (EqK.flat (EqF.one SK.b)) (Opd.s 31)
 (Opd.s 33), some (30, false)⟩,
 ⟨some 35, MOp.pick (Opd.s 30) (Opd.c (AV.bool true))
 (Opd.s 34), none⟩,
 ⟨some 36, MOp.mv (Opd.s 35), none⟩,
 ⟨some 37, MOp.mv (Opd.s 6), some (36, false)⟩,
 ⟨some 38, MOp.mv (Opd.s 37), some (36, false)⟩,
 ⟨some 39, MOp.mv (Opd.s 5), some (38, true)⟩,
 ⟨some 40, MOp.bin .neq (Opd.s 39)
 (Opd.c (AV.str [(113 : UInt8)])), some (38, true)⟩,
 ⟨some 41, MOp.pick (Opd.s 38) (Opd.s 40)
 (Opd.c (AV.bool false)), some (36, false)⟩,
 ⟨some 42, MOp.pick (Opd.s 36) (Opd.c (AV.bool true))
 (Opd.s 41), none⟩]).seq
 (MC.cond (Opd.s 42)
 ((MC.reg
 [⟨some 2, MOp.mv (Opd.c (AV.bool false)), none⟩]).seq
 MC.ret)
 MC.skip)).seq
 ((MC.reg
 [⟨some 8, MOp.mv (Opd.c (AV.int .i64 0)), none⟩]).seq
 (((MC.reg
 [⟨some 43, MOp.mv (Opd.s 0), none⟩,
 ⟨some 44, MOp.bin .neq (Opd.s 43)
 (Opd.c (AV.int .i64 0)), none⟩]).seq
 (MC.cond (Opd.s 44)
 (MC.reg
 [⟨some 8, MOp.mv (Opd.c (AV.int .i64 2)), none⟩])
 MC.skip)).seq
 ((MC.draw
 [⟨some 45, MOp.mv (Opd.s 7), none⟩,
 ⟨some 46, MOp.ixa 9 (Opd.s 45)
 (Opd.c (AV.int .i64 0)), none⟩,
 ⟨some 47, MOp.load (some 9) (Opd.s 46), none⟩,
 ⟨some 48, MOp.mv (Opd.s 8), none⟩,
 ⟨some 49, MOp.mv (Opd.s 0), none⟩,
 ⟨some 50, MOp.bin .eql (Opd.s 49)
 (Opd.c (AV.int .i64 0)), none⟩,
 ⟨some 51, MOp.call 45 [(0, Opd.s 50)], none⟩,
 ⟨some 52, MOp.build
 [AV.int .i64 0,
 AV.int .i64 0, AV.bool false,
 AV.int .i64 0,
 AV.int .i64 0,
 AV.int .i64 0,
 AV.int .i64 0, AV.bool false,
 AV.str []]
 [(3, 1, Opd.c (AV.int .i64 2)),
 (4, 1, Opd.s 48), (5, 1, Opd.s 51),
 (7, 1, Opd.c (AV.bool true))], none⟩,
 ⟨some 53, MOp.eqv false
 (EqK.flat
 (EqF.many
 [SK.i, SK.i, SK.b, SK.i, SK.i, SK.i,
 SK.i, SK.b, SK.s]))
 (Opd.s 47) (Opd.s 52), none⟩,
 ⟨some 2, MOp.mv (Opd.s 53), none⟩]
 [0, 1, 3, 0, 0, 16, 48, 120, 255, 511]).seq
 MC.ret)))))))))) ⟩
def M22 : MFun :=
 ⟨13, [MRes.tmp 0 4], (MC.reg
 [⟨some 4, MOp.mv (Opd.c (AV.int .i64 0)), none⟩]).seq
 ((MC.reg
 [⟨some 5, MOp.mv (Opd.s 0), none⟩,
 ⟨some 6, MOp.bin .rem (Opd.s 5)
 (Opd.c (AV.int .i64 8)), none⟩,
 ⟨some 7, MOp.mv (Opd.s 1), none⟩,
 ⟨some 8, MOp.bin .rem (Opd.s 7)
 (Opd.c (AV.int .i64 8)), none⟩,
 ⟨some 9, MOp.bin .add (Opd.s 6) (Opd.s 8), none⟩,
 ⟨some 10, MOp.bin .rem (Opd.s 9)
 (Opd.c (AV.int .i64 8)), none⟩,
 ⟨some 11, MOp.bin .add (Opd.s 10)
 (Opd.c (AV.int .i64 8)), none⟩,
 ⟨some 12, MOp.bin .rem (Opd.s 11)
 (Opd.c (AV.int .i64 8)), none⟩,
 ⟨some 4, MOp.mv (Opd.s 12), none⟩]).seq
 MC.ret) ⟩
def M23 : MFun :=
 ⟨7, [MRes.tmp 0 2], (MC.reg
 [⟨some 2, MOp.mv (Opd.c (AV.int .i64 0)), none⟩]).seq
 ((MC.reg
 [⟨some 3, MOp.mv (Opd.s 0), none⟩,
 ⟨some 4, MOp.bin .rem (Opd.s 3)
 (Opd.c (AV.int .i64 8)), none⟩,
 ⟨some 5, MOp.bin .add (Opd.s 4)
 (Opd.c (AV.int .i64 8)), none⟩,
 ⟨some 6, MOp.bin .rem (Opd.s 5)
 (Opd.c (AV.int .i64 8)), none⟩,
 ⟨some 2, MOp.mv (Opd.s 6), none⟩]).seq
 MC.ret) ⟩
def M24 : MFun :=
 ⟨10, [MRes.tmp 0 4], (MC.reg
 [⟨some 4, MOp.mv (Opd.c (AV.int .i64 0)), none⟩]).seq
 ((MC.reg
 [⟨some 5, MOp.mv (Opd.s 0), none⟩,
 ⟨some 6, MOp.mv (Opd.s 1), none⟩,
 ⟨some 7, MOp.bin .rem (Opd.s 6)
 (Opd.c (AV.int .i64 8)), none⟩,
 ⟨some 8, MOp.un .neg (Opd.s 7), none⟩,
 ⟨some 9, MOp.call 22 [(0, Opd.s 5), (0, Opd.s 8)], none⟩,
 ⟨some 4, MOp.mv (Opd.s 9), none⟩]).seq
 MC.ret) ⟩
def M25 : MFun :=
 ⟨14, [MRes.tmp 0 6], (MC.reg
 [⟨some 6, MOp.mv (Opd.c (AV.bool false)), none⟩]).seq
 ((MC.reg
 [⟨some 7, MOp.mv (Opd.s 0), none⟩,
 ⟨some 8, MOp.mv (Opd.s 1), none⟩,
 ⟨some 9, MOp.call 24 [(0, Opd.s 7), (0, Opd.s 8)], none⟩,
 ⟨some 10, MOp.mv (Opd.s 2), none⟩,
 ⟨some 11, MOp.mx [Opd.s 10, Opd.c (AV.int .i64 0)], none⟩,
 ⟨some 12, MOp.mn [Opd.s 11, Opd.c (AV.int .i64 8)], none⟩,
 ⟨some 13, MOp.bin .lss (Opd.s 9) (Opd.s 12), none⟩,
 ⟨some 6, MOp.mv (Opd.s 13), none⟩]).seq
 MC.ret) ⟩
def M26b0 : MC :=
 (((MC.reg
 [⟨some 8, MOp.mv (Opd.s 7), none⟩,
 ⟨some 9, MOp.mv (Opd.s 2), none⟩,
 ⟨some 10, MOp.mx [Opd.s 9, Opd.c (AV.int .i64 0)], none⟩,
 ⟨some 11, MOp.mn
 [Opd.s 10, Opd.c (AV.int .i64 8)], none⟩,
 ⟨some 12, MOp.bin .lss (Opd.s 8) (Opd.s 11), none⟩]).seq
 (MC.cond (Opd.s 12) MC.skip (MC.exit 0))).seq
 ((MC.block 1
 ((MC.reg
 [⟨some 15, MOp.mv (Opd.s 1), none⟩,
 ⟨some 16, MOp.call 23 [(0, Opd.s 15)], none⟩,
 ⟨some 17, MOp.mv (Opd.s 7), none⟩,
 ⟨some 18, MOp.bin .add (Opd.s 16) (Opd.s 17), none⟩,
 ⟨some 19, MOp.call 23 [(0, Opd.s 18)], none⟩,
 ⟨some 20, MOp.mv (Opd.s 0), none⟩,
 ⟨some 21, MOp.call 23 [(0, Opd.s 20)], none⟩,
 ⟨some 22, MOp.bin .eql (Opd.s 19) (Opd.s 21), none⟩]).seq
 (MC.cond (Opd.s 22)
 ((MC.reg
 [⟨some 6, MOp.mv (Opd.c (AV.bool true)), none⟩]).seq
 MC.ret)
 MC.skip))).seq
 (MC.reg
 [⟨some 13, MOp.mv (Opd.s 7), none⟩,
 ⟨some 14, MOp.bin .add (Opd.s 13)
 (Opd.c (AV.int .i64 1)), none⟩,
 ⟨some 7, MOp.mv (Opd.s 14), none⟩])))
def M26b0l : List Bool := [true, true, true, false, false, false, false, true, false, false, false, false, false, false, false, false, false, false, false, false, false, false, false]
def M26 : MFun :=
 ⟨23, [MRes.tmp 0 6], (MC.reg
 [⟨some 6, MOp.mv (Opd.c (AV.bool false)), none⟩]).seq
 (((MC.reg
 [⟨some 7, MOp.mv (Opd.c (AV.int .i64 0)), none⟩]).seq
 (MC.block 0
 (MC.loop M26b0l M26b0))).seq
 ((MC.reg
 [⟨some 6, MOp.mv (Opd.c (AV.bool false)), none⟩]).seq
 MC.ret)) ⟩
def M27 : MFun :=
 ⟨3, [MRes.tmp 0 0], (MC.reg
 [⟨some 0, MOp.mv (Opd.c AV.nilp), none⟩]).seq
 ((MC.reg
 [⟨some 1, MOp.build [AV.int .i64 0, AV.bool false] [], none⟩,
 ⟨some 2, MOp.box (Opd.s 1), none⟩,
 ⟨some 0, MOp.mv (Opd.s 2), none⟩]).seq
 MC.ret) ⟩
def M28 : MFun :=
 ⟨32, [MRes.tmp 0 6, MRes.tmp 0 7], (MC.reg
 [⟨some 6, MOp.mv (Opd.c (AV.str [])), none⟩,
 ⟨some 7, MOp.mv (Opd.c (AV.bool false)), none⟩]).seq
 (((MC.reg
 [⟨some 8, MOp.mv (Opd.s 0), none⟩,
 ⟨some 9, MOp.eqv false EqK.ptr (Opd.s 8) (Opd.c AV.nilp), none⟩]).seq
 (MC.cond (Opd.s 9)
 ((MC.reg
 [⟨some 6, MOp.mv (Opd.c (AV.str [])), none⟩,
 ⟨some 7, MOp.mv (Opd.c (AV.bool false)), none⟩]).seq
 MC.ret)
 MC.skip)).seq
 ((MC.reg
 [⟨some 10, MOp.mv (Opd.s 0), none⟩,
 ⟨some 11, MOp.mv (Opd.s 1), none⟩,
 ⟨some 12, MOp.mv (Opd.s 0), none⟩,
 ⟨some 13, MOp.nchk (Opd.s 12), none⟩,
 ⟨some 14, MOp.fa 0 (Opd.s 13), none⟩,
 ⟨some 15, MOp.load none (Opd.s 14), none⟩,
 ⟨some 16, MOp.bin .neq (Opd.s 11) (Opd.s 15), none⟩,
 ⟨some 17, MOp.nchk (Opd.s 10), none⟩,
 ⟨some 18, MOp.fa 1 (Opd.s 17), none⟩,
 ⟨none, MOp.store 1 (Opd.s 18) (Opd.s 16), none⟩]).seq
 (((MC.reg
 [⟨some 19, MOp.mv (Opd.s 0), none⟩,
 ⟨some 20, MOp.nchk (Opd.s 19), none⟩,
 ⟨some 21, MOp.fa 1 (Opd.s 20), none⟩,
 ⟨some 22, MOp.load none (Opd.s 21), none⟩]).seq
 (MC.cond (Opd.s 22)
 ((MC.reg
 [⟨some 6, MOp.mv (Opd.c (AV.str [])), none⟩,
 ⟨some 7, MOp.mv (Opd.c (AV.bool false)), none⟩]).seq
 MC.ret)
 MC.skip)).seq
 ((MC.reg
 [⟨some 23, MOp.mv (Opd.s 0), none⟩,
 ⟨some 24, MOp.mv (Opd.s 0), none⟩,
 ⟨some 25, MOp.nchk (Opd.s 24), none⟩,
 ⟨some 26, MOp.fa 0 (Opd.s 25), none⟩,
 ⟨some 27, MOp.load none (Opd.s 26), none⟩,
 ⟨some 28, MOp.call 22
 [(0, Opd.s 27), (0, Opd.c (AV.int .i64 1))], none⟩,
 ⟨some 29, MOp.nchk (Opd.s 23), none⟩,
 ⟨some 30, MOp.fa 0 (Opd.s 29), none⟩,
 ⟨none, MOp.store 1 (Opd.s 30) (Opd.s 28), none⟩]).seq
 ((MC.reg
 [⟨some 31, MOp.mv (Opd.s 2), none⟩,
 ⟨some 6, MOp.mv (Opd.s 31), none⟩,
 ⟨some 7, MOp.mv (Opd.c (AV.bool true)), none⟩]).seq
 MC.ret))))) ⟩
def M30 : MFun :=
 ⟨9, [MRes.tmp 0 2], (MC.reg
 [⟨some 2, MOp.mv (Opd.c (AV.int .i64 0)), none⟩]).seq
 (((MC.reg
 [⟨some 3, MOp.mv (Opd.s 0), none⟩,
 ⟨some 4, MOp.eqv false EqK.ptr (Opd.s 3) (Opd.c AV.nilp), none⟩]).seq
 (MC.cond (Opd.s 4)
 ((MC.reg
 [⟨some 2, MOp.mv (Opd.c (AV.int .i64 0)), none⟩]).seq
 MC.ret)
 MC.skip)).seq
 ((MC.reg
 [⟨some 5, MOp.mv (Opd.s 0), none⟩,
 ⟨some 6, MOp.nchk (Opd.s 5), none⟩,
 ⟨some 7, MOp.fa 0 (Opd.s 6), none⟩,
 ⟨some 8, MOp.load none (Opd.s 7), none⟩,
 ⟨some 2, MOp.mv (Opd.s 8), none⟩]).seq
 MC.ret)) ⟩
def M31 : MFun :=
 ⟨11, [MRes.tmp 0 2], (MC.reg
 [⟨some 2, MOp.mv (Opd.c (AV.bool false)), none⟩]).seq
 ((MC.reg
 [⟨some 3, MOp.mv (Opd.s 0), none⟩,
 ⟨some 4, MOp.eqv true EqK.ptr (Opd.s 3) (Opd.c AV.nilp), none⟩,
 ⟨some 5, MOp.mv (Opd.s 4), none⟩,
 ⟨some 6, MOp.mv (Opd.s 0), some (5, true)⟩,
 ⟨some 7, MOp.nchk (Opd.s 6), some (5, true)⟩,
 ⟨some 8, MOp.fa 1 (Opd.s 7), some (5, true)⟩,
 ⟨some 9, MOp.load none (Opd.s 8), some (5, true)⟩,
 ⟨some 10, MOp.pick (Opd.s 5) (Opd.s 9) (Opd.c (AV.bool false)), none⟩,
 ⟨some 2, MOp.mv (Opd.s 10), none⟩]).seq
 MC.ret) ⟩
def M34 : MFun :=
 ⟨9, [MRes.tmp 0 2], (MC.reg
 [⟨some 2, MOp.mv (Opd.c (AV.str [])), none⟩]).seq
 ((MC.reg
 [⟨some 3, MOp.mv (Opd.s 0), none⟩,
 ⟨some 4, MOp.bin .rem (Opd.s 3)
 (Opd.c (AV.int .i64 26)), none⟩,
 ⟨some 5, MOp.bin .add (Opd.c (AV.int .i64 97))
 (Opd.s 4), none⟩,
 ⟨some 6, MOp.conv (Cv.toInt .u8) (Opd.s 5), none⟩,
 ⟨some 7, MOp.bsl false 1 1 [AV.int .u8 0] [(0, 1, Opd.s 6)], none⟩,
 ⟨some 8, MOp.conv Cv.b2s (Opd.s 7), none⟩,
 ⟨some 2, MOp.mv (Opd.s 8), none⟩]).seq
 MC.ret) ⟩
theorem tab3 : tableOf Tryd.prog 3 = some M3 := by kernel_rfl
theorem tab5 : tableOf Tryd.prog 5 = some M5 := by kernel_rfl
theorem tab9 : tableOf Tryd.prog 9 = some M9 := by kernel_rfl
theorem tab15 : tableOf Tryd.prog 15 = some M15 := by kernel_rfl
theorem tab22 : tableOf Tryd.prog 22 = some M22 := by kernel_rfl
theorem tab23 : tableOf Tryd.prog 23 = some M23 := by kernel_rfl
theorem tab24 : tableOf Tryd.prog 24 = some M24 := by kernel_rfl
theorem tab25 : tableOf Tryd.prog 25 = some M25 := by kernel_rfl
theorem tab26 : tableOf Tryd.prog 26 = some M26 := by kernel_rfl
theorem tab27 : tableOf Tryd.prog 27 = some M27 := by kernel_rfl
theorem tab28 : tableOf Tryd.prog 28 = some M28 := by kernel_rfl
theorem tab30 : tableOf Tryd.prog 30 = some M30 := by kernel_rfl
theorem tab31 : tableOf Tryd.prog 31 = some M31 := by kernel_rfl
theorem tab34 : tableOf Tryd.prog 34 = some M34 := by kernel_rfl
theorem evT_in {k : Nat} {f : Nat} {m : MFun} (hx : ext f = none) (hF : tableOf Tryd.prog f = some m) (args : List AV) (s : St) :
    evT (k + 1) f args s = outR m.res (evC tabGl (evT k) k m.body (env0 m.ntmps args) s) := by
  simp only [evT, evF, hx, hF]
end Go.Proofs.YtochnineebgbgaaDoor
