/- Functions of the program in the evaluator's form, written out by a program. No conditions. -/
import Derived.Test.YthcblggiojpmcaaDoorM4
set_option linter.unusedVariables false
namespace Go.Proofs.YthcblggiojpmcaaDoor
open Go Go.Ab
def M11 : MFun :=
 ⟨45, [MRes.tmp 0 2], (MC.reg
 [⟨some 2, MOp.mv (Opd.c (AV.bool false)), none⟩]).seq
 ((MC.reg
 [⟨some 6, MOp.call 20 [], none⟩,
 ⟨some 3, MOp.mv (Opd.s 6), none⟩]).seq
 (((MC.reg
 [⟨some 7, MOp.mv (Opd.s 3), none⟩,
 ⟨some 8, MOp.un .not (Opd.s 7), none⟩]).seq
 (MC.cond (Opd.s 8)
 ((MC.reg
 [⟨some 2, MOp.mv (Opd.c (AV.bool false)), none⟩]).seq
 MC.ret)
 MC.skip)).seq
 ((MC.reg
 [⟨some 9, MOp.mv (Opd.s 0), none⟩,
 ⟨some 10, MOp.call 30 [(0, Opd.s 9)], none⟩,
 ⟨some 4, MOp.mv (Opd.s 10), none⟩]).seq
 ((MC.reg
 [⟨some 11, MOp.mv (Opd.s 0), none⟩,
 ⟨some 12, MOp.conv Cv.itos (Opd.s 11), none⟩,
 ⟨some 5, MOp.mv (Opd.s 12), none⟩]).seq
 (((MC.reg
 [⟨some 13, MOp.mv (Opd.s 4), none⟩,
 ⟨some 14, MOp.mv (Opd.s 0), none⟩,
 ⟨some 15, MOp.conv (Cv.toInt .i64) (Opd.s 14), none⟩,
 ⟨some 16, MOp.call 31 [(0, Opd.s 15)], none⟩,
 ⟨some 17, MOp.bin .neq (Opd.s 13) (Opd.s 16), none⟩,
 ⟨some 18, MOp.mv (Opd.s 17), none⟩,
 ⟨some 19, MOp.mv (Opd.s 5), some (18, false)⟩,
 ⟨some 20, MOp.call 24 [(0, Opd.s 19)], some (18, false)⟩,
 ⟨some 21, MOp.bin .neq (Opd.s 20)
 (Opd.c (AV.int .i64 1)), some (18, false)⟩,
 ⟨some 22, MOp.pick (Opd.s 18) (Opd.c (AV.bool true))
 (Opd.s 21), none⟩]).seq
 (MC.cond (Opd.s 22)
 ((MC.reg
 [⟨some 2, MOp.mv (Opd.c (AV.bool false)), none⟩]).seq
 MC.ret)
 MC.skip)).seq
 ((MC.reg
 [⟨some 23, MOp.mv (Opd.s 5), none⟩,
 ⟨some 24, MOp.call 22 [(0, Opd.s 23)], none⟩,
 ⟨some 25, MOp.mv (Opd.s 4), none⟩,
 ⟨some 26, MOp.bin .gtr (Opd.s 25)
 (Opd.c (AV.int .i64 0)), none⟩,
 ⟨some 27, MOp.eqv false (EqK.flat (EqF.one SK.b)) (Opd.s 24)
 (Opd.s 26), none⟩,
 ⟨some 28, MOp.mv (Opd.s 27), none⟩,
 ⟨some 29, MOp.mv (Opd.s 5), some (28, true)⟩,
 ⟨some 30, MOp.call 28 [(0, Opd.s 29)], some (28, true)⟩,
 ⟨some 31, MOp.mv (Opd.s 5), some (28, true)⟩,
 ⟨some 32, MOp.bin .eql (Opd.s 30) (Opd.s 31), some (28, true)⟩,
 ⟨some 33, MOp.mv (Opd.s 4), some (28, true)⟩,
 ⟨some 34, MOp.bin .geq (Opd.s 33)
 (Opd.c (AV.int .i64 1)), some (28, true)⟩,
 ⟨some 35, MOp.mv (Opd.s 34), some (28, true)⟩,
 ⟨some 36, MOp.mv (Opd.s 4), some (35, true)⟩,
 ⟨some 37, MOp.bin .leq (Opd.s 36)
 (Opd.c (AV.int .i64 3)), some (35, true)⟩,
 ⟨some 38, MOp.pick (Opd.s 35) (Opd.s 37) (Opd.c (AV.bool false)), some (28, true)⟩,
 ⟨some 39, MOp.mv (Opd.s 38), some (28, true)⟩,
 ⟨some 40, MOp.mv (Opd.s 5), some (39, false)⟩,
 ⟨some 41, MOp.bin .eql (Opd.s 40)
 (Opd.c (AV.str [(63 : UInt8)])), some (39, false)⟩,
 ⟨some 42, MOp.pick (Opd.s 39) (Opd.c (AV.bool true)) (Opd.s 41), some (28, true)⟩,
 ⟨some 43, MOp.eqv false (EqK.flat (EqF.one SK.b)) (Opd.s 32)
 (Opd.s 42), some (28, true)⟩,
 ⟨some 44, MOp.pick (Opd.s 28) (Opd.s 43) (Opd.c (AV.bool false)), none⟩,
 ⟨some 2, MOp.mv (Opd.s 44), none⟩]).seq
 MC.ret)))))) ⟩
def M22b0 : MC :=
 ((MC.reg
 [⟨some 7, MOp.nxt (Opd.s 6), none⟩,
 ⟨some 8, MOp.ext 0 (Opd.s 7), none⟩]).seq
 ((MC.cond (Opd.s 8) MC.skip (MC.exit 0)).seq
 (MC.block 1
 ((MC.reg
 [⟨some 9, MOp.ext 2 (Opd.s 7), none⟩,
 ⟨some 4, MOp.mv (Opd.s 9), none⟩]).seq
 ((MC.reg
 [⟨some 10, MOp.mv (Opd.s 4), none⟩,
 ⟨some 11, MOp.call 30 [(0, Opd.s 10)], none⟩,
 ⟨some 12, MOp.bin .eql (Opd.s 11)
 (Opd.c (AV.int .i64 0)), none⟩]).seq
 (MC.cond (Opd.s 12)
 ((MC.reg
 [⟨some 2, MOp.mv (Opd.c (AV.bool false)), none⟩]).seq
 MC.ret)
 MC.skip))))))
def M22b0l : List Bool := [true, false, false, false, false, false, true, false, false, false, false, false, false, false, false, false]
def M22 : MFun :=
 ⟨16, [MRes.tmp 0 2], (MC.reg
 [⟨some 2, MOp.mv (Opd.c (AV.bool false)), none⟩]).seq
 (((MC.reg
 [⟨some 5, MOp.mv (Opd.s 0), none⟩,
 ⟨some 6, MOp.rng (Opd.s 5), none⟩]).seq
 (MC.block 0
 (MC.loop M22b0l M22b0))).seq
 ((MC.reg
 [⟨some 13, MOp.mv (Opd.s 0), none⟩,
 ⟨some 14, MOp.lens (Opd.s 13), none⟩,
 ⟨some 15, MOp.bin .leq (Opd.s 14)
 (Opd.c (AV.int .i64 20)), none⟩,
 ⟨some 2, MOp.mv (Opd.s 15), none⟩]).seq
 MC.ret)) ⟩
def M24b0 : MC :=
 ((MC.reg
 [⟨some 6, MOp.nxt (Opd.s 5), none⟩,
 ⟨some 7, MOp.ext 0 (Opd.s 6), none⟩]).seq
 ((MC.cond (Opd.s 7) MC.skip (MC.exit 0)).seq
 (MC.block 1
 (MC.reg
 [⟨some 8, MOp.mv (Opd.s 3), none⟩,
 ⟨some 9, MOp.bin .add (Opd.s 8)
 (Opd.c (AV.int .i64 1)), none⟩,
 ⟨some 3, MOp.mv (Opd.s 9), none⟩]))))
def M24b0l : List Bool := [false, false, false, true, false, true, false, false, false, false, false]
def M24 : MFun :=
 ⟨11, [MRes.tmp 0 2], (MC.reg
 [⟨some 2, MOp.mv (Opd.c (AV.int .i64 0)), none⟩]).seq
 ((MC.reg
 [⟨some 3, MOp.mv (Opd.c (AV.int .i64 0)), none⟩]).seq
 (((MC.reg
 [⟨some 4, MOp.mv (Opd.s 0), none⟩,
 ⟨some 5, MOp.rng (Opd.s 4), none⟩]).seq
 (MC.block 0
 (MC.loop M24b0l M24b0))).seq
 ((MC.reg
 [⟨some 10, MOp.mv (Opd.s 3), none⟩,
 ⟨some 2, MOp.mv (Opd.s 10), none⟩]).seq
 MC.ret))) ⟩
def M28b0 : MC :=
 ((MC.reg
 [⟨some 9, MOp.nxt (Opd.s 8), none⟩,
 ⟨some 10, MOp.ext 0 (Opd.s 9), none⟩]).seq
 ((MC.cond (Opd.s 10) MC.skip (MC.exit 0)).seq
 (MC.block 1
 ((MC.reg
 [⟨some 11, MOp.ext 2 (Opd.s 9), none⟩,
 ⟨some 5, MOp.mv (Opd.s 11), none⟩]).seq
 (((MC.reg
 [⟨some 12, MOp.mv (Opd.s 5), none⟩,
 ⟨some 13, MOp.call 30 [(0, Opd.s 12)], none⟩,
 ⟨some 6, MOp.mv (Opd.s 13), none⟩]).seq
 ((MC.reg
 [⟨some 14, MOp.mv (Opd.s 6), none⟩,
 ⟨some 15, MOp.bin .eql (Opd.s 14)
 (Opd.c (AV.int .i64 0)), none⟩,
 ⟨some 16, MOp.mv (Opd.s 15), none⟩,
 ⟨some 17, MOp.mv (Opd.s 6), some (16, false)⟩,
 ⟨some 18, MOp.bin .eql (Opd.s 17)
 (Opd.c (AV.int .i64 4)), some (16, false)⟩,
 ⟨some 19, MOp.pick (Opd.s 16) (Opd.c (AV.bool true))
 (Opd.s 18), none⟩]).seq
 (MC.cond (Opd.s 19)
 (MC.reg
 [⟨some 5, MOp.mv (Opd.c (AV.int .i32 63)), none⟩])
 MC.skip))).seq
 (MC.reg
 [⟨some 20, MOp.mv (Opd.s 3), none⟩,
 ⟨some 21, MOp.mv (Opd.s 5), none⟩,
 ⟨some 22, MOp.bsl false 1 1 [AV.int .i32 0]
 [(0, 1, Opd.s 21)], none⟩,
 ⟨some 23, MOp.app false 1 4 (Opd.s 20) (Opd.s 22), none⟩,
 ⟨some 3, MOp.mv (Opd.s 23), none⟩]))))))
def M28b0l : List Bool := [false, false, false, true, false, false, false, false, true, false, false, false, false, false, false, false, false, false, false, false, false, false, false, false, false, false]
def M28 : MFun :=
 ⟨26, [MRes.tmp 0 2], (MC.reg
 [⟨some 2, MOp.mv (Opd.c (AV.str [])), none⟩]).seq
 ((MC.reg
 [⟨some 3, MOp.mv (Opd.c AV.nils), none⟩]).seq
 (((MC.reg
 [⟨some 7, MOp.mv (Opd.s 0), none⟩,
 ⟨some 8, MOp.rng (Opd.s 7), none⟩]).seq
 (MC.block 0
 (MC.loop M28b0l M28b0))).seq
 ((MC.reg
 [⟨some 24, MOp.mv (Opd.s 3), none⟩,
 ⟨some 25, MOp.conv Cv.r2s (Opd.s 24), none⟩,
 ⟨some 2, MOp.mv (Opd.s 25), none⟩]).seq
 MC.ret))) ⟩
def M30 : MFun :=
 ⟨43, [MRes.tmp 0 2], (MC.reg
 [⟨some 2, MOp.mv (Opd.c (AV.int .i64 0)), none⟩]).seq
 ((MC.block 0
 ((MC.reg
 [⟨some 4, MOp.mv (Opd.s 0), none⟩,
 ⟨some 5, MOp.bin .geq (Opd.s 4)
 (Opd.c (AV.int .i32 97)), none⟩,
 ⟨some 6, MOp.mv (Opd.s 5), none⟩,
 ⟨some 7, MOp.mv (Opd.s 0), some (6, true)⟩,
 ⟨some 8, MOp.bin .leq (Opd.s 7)
 (Opd.c (AV.int .i32 122)), some (6, true)⟩,
 ⟨some 9, MOp.pick (Opd.s 6) (Opd.s 8) (Opd.c (AV.bool false)), none⟩,
 ⟨some 10, MOp.mv (Opd.s 9), none⟩,
 ⟨some 11, MOp.mv (Opd.s 0), some (10, false)⟩,
 ⟨some 12, MOp.bin .geq (Opd.s 11)
 (Opd.c (AV.int .i32 65)), some (10, false)⟩,
 ⟨some 13, MOp.mv (Opd.s 12), some (10, false)⟩,
 ⟨some 14, MOp.mv (Opd.s 0), some (13, true)⟩,
 ⟨some 15, MOp.bin .leq (Opd.s 14)
 (Opd.c (AV.int .i32 90)), some (13, true)⟩,
 ⟨some 16, MOp.pick (Opd.s 13) (Opd.s 15) (Opd.c (AV.bool false)), some (10, false)⟩,
 ⟨some 17, MOp.pick (Opd.s 10) (Opd.c (AV.bool true)) (Opd.s 16), none⟩,
 ⟨some 3, MOp.mv (Opd.s 17), none⟩]).seq
 (MC.cond (Opd.s 3)
 ((MC.reg
 [⟨some 2, MOp.mv (Opd.c (AV.int .i64 1)), none⟩]).seq
 MC.ret)
 ((MC.reg
 [⟨some 19, MOp.mv (Opd.s 0), none⟩,
 ⟨some 20, MOp.bin .geq (Opd.s 19)
 (Opd.c (AV.int .i32 48)), none⟩,
 ⟨some 21, MOp.mv (Opd.s 20), none⟩,
 ⟨some 22, MOp.mv (Opd.s 0), some (21, true)⟩,
 ⟨some 23, MOp.bin .leq (Opd.s 22)
 (Opd.c (AV.int .i32 57)), some (21, true)⟩,
 ⟨some 24, MOp.pick (Opd.s 21) (Opd.s 23) (Opd.c (AV.bool false)), none⟩,
 ⟨some 18, MOp.mv (Opd.s 24), none⟩]).seq
 (MC.cond (Opd.s 18)
 ((MC.reg
 [⟨some 2, MOp.mv (Opd.c (AV.int .i64 2)), none⟩]).seq
 MC.ret)
 ((MC.reg
 [⟨some 26, MOp.mv (Opd.s 0), none⟩,
 ⟨some 27, MOp.bin .geq (Opd.s 26)
 (Opd.c (AV.int .i32 32)), none⟩,
 ⟨some 28, MOp.mv (Opd.s 27), none⟩,
 ⟨some 29, MOp.mv (Opd.s 0), some (28, true)⟩,
 ⟨some 30, MOp.bin .leq (Opd.s 29)
 (Opd.c (AV.int .i32 126)), some (28, true)⟩,
 ⟨some 31, MOp.pick (Opd.s 28) (Opd.s 30)
 (Opd.c (AV.bool false)), none⟩,
 ⟨some 25, MOp.mv (Opd.s 31), none⟩]).seq
 (MC.cond (Opd.s 25)
 ((MC.reg
 [⟨some 2, MOp.mv (Opd.c (AV.int .i64 3)), none⟩]).seq
 MC.ret)
 ((MC.reg
 [⟨some 33, MOp.mv (Opd.s 0), none⟩,
 ⟨some 34, MOp.bin .geq (Opd.s 33)
 (Opd.c (AV.int .i32 160)), none⟩,
 ⟨some 35, MOp.mv (Opd.s 34), none⟩,
 ⟨some 36, MOp.mv (Opd.s 0), some (35, true)⟩,
 ⟨some 37, MOp.bin .neq (Opd.s 36)
 (Opd.c (AV.int .i32 65533)), some (35, true)⟩,
 ⟨some 38, MOp.pick (Opd.s 35) (Opd.s 37)
 (Opd.c (AV.bool false)), none⟩,
 ⟨some 39, MOp.mv (Opd.s 38), none⟩,
 ⟨some 40, MOp.mv (Opd.s 0), some (39, true)⟩,
 ⟨some 41, MOp.call 66 [(0, Opd.s 40)], some (39, true)⟩,
 ⟨some 42, MOp.pick (Opd.s 39) (Opd.s 41)
 (Opd.c (AV.bool false)), none⟩,
 ⟨some 32, MOp.mv (Opd.s 42), none⟩]).seq
 (MC.cond (Opd.s 32)
 ((MC.reg
 [⟨some 2, MOp.mv (Opd.c (AV.int .i64 4)), none⟩]).seq
 MC.ret)
 MC.skip))))))))).seq
 ((MC.reg
 [⟨some 2, MOp.mv (Opd.c (AV.int .i64 0)), none⟩]).seq
 MC.ret)) ⟩
def M31 : MFun :=
 ⟨51, [MRes.tmp 0 2], (MC.reg
 [⟨some 2, MOp.mv (Opd.c (AV.int .i64 0)), none⟩]).seq
 ((MC.block 0
 ((MC.reg
 [⟨some 4, MOp.mv (Opd.s 0), none⟩,
 ⟨some 5, MOp.bin .geq (Opd.s 4)
 (Opd.c (AV.int .i64 97)), none⟩,
 ⟨some 6, MOp.mv (Opd.s 5), none⟩,
 ⟨some 7, MOp.mv (Opd.s 0), some (6, true)⟩,
 ⟨some 8, MOp.bin .leq (Opd.s 7)
 (Opd.c (AV.int .i64 122)), some (6, true)⟩,
 ⟨some 9, MOp.pick (Opd.s 6) (Opd.s 8) (Opd.c (AV.bool false)), none⟩,
 ⟨some 10, MOp.mv (Opd.s 9), none⟩,
 ⟨some 11, MOp.mv (Opd.s 0), some (10, false)⟩,
 ⟨some 12, MOp.bin .geq (Opd.s 11)
 (Opd.c (AV.int .i64 65)), some (10, false)⟩,
 ⟨some 13, MOp.mv (Opd.s 12), some (10, false)⟩,
 ⟨some 14, MOp.mv (Opd.s 0), some (13, true)⟩,
 ⟨some 15, MOp.bin .leq (Opd.s 14)
 (Opd.c (AV.int .i64 90)), some (13, true)⟩,
 ⟨some 16, MOp.pick (Opd.s 13) (Opd.s 15) (Opd.c (AV.bool false)), some (10, false)⟩,
 ⟨some 17, MOp.pick (Opd.s 10) (Opd.c (AV.bool true)) (Opd.s 16), none⟩,
 ⟨some 3, MOp.mv (Opd.s 17), none⟩]).seq
 (MC.cond (Opd.s 3)
 ((MC.reg
 [⟨some 2, MOp.mv (Opd.c (AV.int .i64 1)), none⟩]).seq
 MC.ret)
 ((MC.reg
 [⟨some 19, MOp.mv (Opd.s 0), none⟩,
 ⟨some 20, MOp.bin .geq (Opd.s 19)
 (Opd.c (AV.int .i64 48)), none⟩,
 ⟨some 21, MOp.mv (Opd.s 20), none⟩,
 ⟨some 22, MOp.mv (Opd.s 0), some (21, true)⟩,
 ⟨some 23, MOp.bin .leq (Opd.s 22)
 (Opd.c (AV.int .i64 57)), some (21, true)⟩,
 ⟨some 24, MOp.pick (Opd.s 21) (Opd.s 23) (Opd.c (AV.bool false)), none⟩,
 ⟨some 18, MOp.mv (Opd.s 24), none⟩]).seq
 (MC.cond (Opd.s 18)
 ((MC.reg
 [⟨some 2, MOp.mv (Opd.c (AV.int .i64 2)), none⟩]).seq
 MC.ret)
 ((MC.reg
 [⟨some 26, MOp.mv (Opd.s 0), none⟩,
 ⟨some 27, MOp.bin .geq (Opd.s 26)
 (Opd.c (AV.int .i64 32)), none⟩,
 ⟨some 28, MOp.mv (Opd.s 27), none⟩,
 ⟨some 29, MOp.mv (Opd.s 0), some (28, true)⟩,
 ⟨some 30, MOp.bin .leq (Opd.s 29)
 (Opd.c (AV.int .i64 126)), some (28, true)⟩,
 ⟨some 31, MOp.pick (Opd.s 28) (Opd.s 30)
 (Opd.c (AV.bool false)), none⟩,
 ⟨some 25, MOp.mv (Opd.s 31), none⟩]).seq
 (MC.cond (Opd.s 25)
 ((MC.reg
 [⟨some 2, MOp.mv (Opd.c (AV.int .i64 3)), none⟩]).seq
 MC.ret)
 ((MC.reg
 [⟨some 33, MOp.mv (Opd.s 0), none⟩,
 ⟨some 34, MOp.bin .geq (Opd.s 33)
 (Opd.c (AV.int .i64 160)), none⟩,
 ⟨some 35, MOp.mv (Opd.s 34), none⟩,
 ⟨some 36, MOp.mv (Opd.s 0), some (35, true)⟩,
 ⟨some 37, MOp.bin .leq (Opd.s 36)
 (Opd.c (AV.int .i64 1114111)), some (35, true)⟩,
 ⟨some 38, MOp.pick (Opd.s 35) (Opd.s 37)
 (Opd.c (AV.bool false)), none⟩,
 ⟨some 39, MOp.mv (Opd.s 38), none⟩,
 ⟨some 40, MOp.mv (Opd.s 0), some (39, true)⟩,
 ⟨some 41, MOp.bin .neq (Opd.s 40)
 (Opd.c (AV.int .i64 65533)), some (39, true)⟩,
 ⟨some 42, MOp.pick (Opd.s 39) (Opd.s 41)
 (Opd.c (AV.bool false)), none⟩,
 ⟨some 43, MOp.mv (Opd.s 42), none⟩,
 ⟨some 44, MOp.mv (Opd.s 0), some (43, true)⟩,
 ⟨some 45, MOp.bin .lss (Opd.s 44)
 (Opd.c (AV.int .i64 55296)), some (43, true)⟩,
 ⟨some 46, MOp.mv (Opd.s 45), some (43, true)⟩,
 ⟨some 47, MOp.mv (Opd.s 0), some (46, false)⟩,
 ⟨some 48, MOp.bin .gtr (Opd.s 47)
 (Opd.c (AV.int .i64 57343)), some (46, false)⟩,
 ⟨some 49, MOp.pick (Opd.s 46) (Opd.c (AV.bool true))
 (Opd.s 48), some (43, true)⟩,
 ⟨some 50, MOp.pick (Opd.s 43) (Opd.s 49)
 (Opd.c (AV.bool false)), none⟩,
 ⟨some 32, MOp.mv (Opd.s 50), none⟩]).seq
 (MC.cond (Opd.s 32)
 ((MC.reg
 [⟨some 2, MOp.mv (Opd.c (AV.int .i64 4)), none⟩]).seq
 MC.ret)
 MC.skip))))))))).seq
 ((MC.reg
 [⟨some 2, MOp.mv (Opd.c (AV.int .i64 0)), none⟩]).seq
 MC.ret)) ⟩
theorem tab11 : tableOf Tryd.prog 11 = some M11 := by kernel_rfl
theorem tab22 : tableOf Tryd.prog 22 = some M22 := by kernel_rfl
theorem tab24 : tableOf Tryd.prog 24 = some M24 := by kernel_rfl
theorem tab28 : tableOf Tryd.prog 28 = some M28 := by kernel_rfl
theorem tab30 : tableOf Tryd.prog 30 = some M30 := by kernel_rfl
theorem tab31 : tableOf Tryd.prog 31 = some M31 := by kernel_rfl
end Go.Proofs.YthcblggiojpmcaaDoor
/- Functions of the program in the evaluator's form, written out by a program. No conditions. -/
set_option linter.unusedVariables false
namespace Go.Proofs.YthcblggiojpmcaaDoor
open Go Go.Ab
def M66 : MFun :=
 ⟨17, [MRes.tmp 0 2], (MC.reg
 [⟨some 2, MOp.mv (Opd.c (AV.bool false)), none⟩]).seq
 ((MC.block 0
 ((MC.reg
 [⟨some 4, MOp.mv (Opd.s 0), none⟩,
 ⟨some 5, MOp.bin .leq (Opd.c (AV.int .i32 0))
 (Opd.s 4), none⟩,
 ⟨some 6, MOp.mv (Opd.s 5), none⟩,
 ⟨some 7, MOp.mv (Opd.s 0), some (6, true)⟩,
 ⟨some 8, MOp.bin .lss (Opd.s 7)
 (Opd.c (AV.int .i32 55296)), some (6, true)⟩,
 ⟨some 9, MOp.pick (Opd.s 6) (Opd.s 8) (Opd.c (AV.bool false)), none⟩,
 ⟨some 3, MOp.mv (Opd.s 9), none⟩]).seq
 (MC.cond (Opd.s 3)
 ((MC.reg
 [⟨some 2, MOp.mv (Opd.c (AV.bool true)), none⟩]).seq
 MC.ret)
 ((MC.reg
 [⟨some 11, MOp.mv (Opd.s 0), none⟩,
 ⟨some 12, MOp.bin .lss (Opd.c (AV.int .i32 57343))
 (Opd.s 11), none⟩,
 ⟨some 13, MOp.mv (Opd.s 12), none⟩,
 ⟨some 14, MOp.mv (Opd.s 0), some (13, true)⟩,
 ⟨some 15, MOp.bin .leq (Opd.s 14)
 (Opd.c (AV.int .i32 1114111)), some (13, true)⟩,
 ⟨some 16, MOp.pick (Opd.s 13) (Opd.s 15) (Opd.c (AV.bool false)), none⟩,
 ⟨some 10, MOp.mv (Opd.s 16), none⟩]).seq
 (MC.cond (Opd.s 10)
 ((MC.reg
 [⟨some 2, MOp.mv (Opd.c (AV.bool true)), none⟩]).seq
 MC.ret)
 MC.skip))))).seq
 ((MC.reg
 [⟨some 2, MOp.mv (Opd.c (AV.bool false)), none⟩]).seq
 MC.ret)) ⟩
theorem tab66 : tableOf Tryd.prog 66 = some M66 := by kernel_rfl
end Go.Proofs.YthcblggiojpmcaaDoor
/- Functions of the program in the evaluator's form, written out by a program. No conditions. -/
set_option linter.unusedVariables false
namespace Go.Proofs.YthcblggiojpmcaaDoor
open Go Go.Ab
def M16 : MFun :=
 ⟨46, [MRes.tmp 0 4], (MC.reg
 [⟨some 4, MOp.mv (Opd.c (AV.bool false)), none⟩]).seq
 ((MC.reg
 [⟨some 9, MOp.call 20 [], none⟩,
 ⟨some 5, MOp.mv (Opd.s 9), none⟩]).seq
 (((MC.reg
 [⟨some 10, MOp.mv (Opd.s 5), none⟩,
 ⟨some 11, MOp.un .not (Opd.s 10), none⟩]).seq
 (MC.cond (Opd.s 11)
 ((MC.reg
 [⟨some 4, MOp.mv (Opd.c (AV.bool false)), none⟩]).seq
 MC.ret)
 MC.skip)).seq
 ((MC.reg
 [⟨some 12, MOp.mv (Opd.s 0), none⟩,
 ⟨some 13, MOp.bin .rem (Opd.s 12)
 (Opd.c (AV.int .i64 70)), none⟩,
 ⟨some 14, MOp.bin .add (Opd.s 13)
 (Opd.c (AV.int .i64 70)), none⟩,
 ⟨some 15, MOp.bin .rem (Opd.s 14)
 (Opd.c (AV.int .i64 70)), none⟩,
 ⟨some 16, MOp.mv (Opd.s 1), none⟩,
 ⟨some 17, MOp.bin .rem (Opd.s 16)
 (Opd.c (AV.int .i64 3)), none⟩,
 ⟨some 18, MOp.bin .add (Opd.s 17)
 (Opd.c (AV.int .i64 3)), none⟩,
 ⟨some 19, MOp.bin .rem (Opd.s 18)
 (Opd.c (AV.int .i64 3)), none⟩,
 ⟨some 20, MOp.bin .add (Opd.c (AV.int .i64 1))
 (Opd.s 19), none⟩,
 ⟨some 0, MOp.mv (Opd.s 15), none⟩,
 ⟨some 1, MOp.mv (Opd.s 20), none⟩]).seq
 ((MC.reg
 [⟨some 21, MOp.mv (Opd.s 1), none⟩,
 ⟨some 22, MOp.mv (Opd.s 0), none⟩,
 ⟨some 23, MOp.mks 1 1 [AV.int .u8 0] (Opd.s 22)
 (Opd.s 22), none⟩,
 ⟨some 24, MOp.conv Cv.b2s (Opd.s 23), none⟩,
 ⟨some 25, MOp.build
 [AV.int .i64 0, AV.int .i64 0,
 AV.bool false, AV.int .i64 0,
 AV.int .i64 0, AV.int .i64 0,
 AV.int .i64 0, AV.bool false, AV.str []]
 [(3, 1, Opd.s 21), (8, 1, Opd.s 24)], none⟩,
 ⟨some 6, MOp.alloc
 [AV.int .i64 0, AV.int .i64 0,
 AV.bool false, AV.int .i64 0,
 AV.int .i64 0, AV.int .i64 0,
 AV.int .i64 0, AV.bool false, AV.str []], none⟩,
 ⟨none, MOp.store 9 (Opd.s 6) (Opd.s 25), none⟩]).seq
 (((MC.reg
 [⟨some 26, MOp.mv (Opd.s 1), none⟩,
 ⟨some 27, MOp.bin .eql (Opd.s 26)
 (Opd.c (AV.int .i64 3)), none⟩]).seq
 (MC.cond (Opd.s 27)
 (MC.reg
 [⟨some 28, MOp.fa 4 (Opd.s 6), none⟩,
 ⟨none, MOp.store 1 (Opd.s 28)
 (Opd.c (AV.int .i64 1)), none⟩])
 MC.skip)).seq
 ((MC.reg
 [⟨some 30, MOp.load (some 9) (Opd.s 6), none⟩,
 ⟨some 31, MOp.call 40 [(0, Opd.s 30)], none⟩,
 ⟨some 29, MOp.mv (Opd.s 31), none⟩,
 ⟨some 32, MOp.ext 0 (Opd.s 29), none⟩,
 ⟨some 33, MOp.ext 1 (Opd.s 29), none⟩,
 ⟨some 7, MOp.alloc
 [AV.int .i64 0, AV.int .i64 0,
 AV.bool false, AV.nili, AV.str []], none⟩,
 ⟨none, MOp.store 5 (Opd.s 7) (Opd.s 32), none⟩,
 ⟨some 8, MOp.mv (Opd.s 33), none⟩]).seq
 ((MC.reg
 [⟨some 34, MOp.mv (Opd.s 8), none⟩,
 ⟨some 35, MOp.mv (Opd.s 0), none⟩,
 ⟨some 36, MOp.bin .leq (Opd.s 35)
 (Opd.c (AV.int .i64 64)), none⟩,
 ⟨some 37, MOp.mv (Opd.s 36), none⟩,
 ⟨some 38, MOp.mv (Opd.s 1), some (37, true)⟩,
 ⟨some 39, MOp.bin .neq (Opd.s 38)
 (Opd.c (AV.int .i64 2)), some (37, true)⟩,
 ⟨some 40, MOp.mv (Opd.s 39), some (37, true)⟩,
 ⟨some 41, MOp.mv (Opd.s 0), some (40, false)⟩,
 ⟨some 42, MOp.bin .eql (Opd.s 41)
 (Opd.c (AV.int .i64 0)), some (40, false)⟩,
 ⟨some 43, MOp.pick (Opd.s 40) (Opd.c (AV.bool true))
 (Opd.s 42), some (37, true)⟩,
 ⟨some 44, MOp.pick (Opd.s 37) (Opd.s 43)
 (Opd.c (AV.bool false)), none⟩,
 ⟨some 45, MOp.eqv false (EqK.flat (EqF.one SK.b)) (Opd.s 34)
 (Opd.s 44), none⟩,
 ⟨some 4, MOp.mv (Opd.s 45), none⟩]).seq
 MC.ret))))))) ⟩
def M40 : MFun :=
 ⟨56, [MRes.cell 2 (some 5), MRes.tmp 0 3], (MC.reg
 [⟨some 1, MOp.box (Opd.s 0), none⟩,
 ⟨some 2, MOp.alloc
 [AV.int .i64 0, AV.int .i64 0,
 AV.bool false, AV.nili, AV.str []], none⟩,
 ⟨some 3, MOp.mv (Opd.c (AV.bool false)), none⟩]).seq
 ((MC.reg
 [⟨some 5, MOp.fa 0 (Opd.s 1), none⟩,
 ⟨some 6, MOp.load (some 2) (Opd.s 5), none⟩,
 ⟨some 7, MOp.fa 2 (Opd.s 1), none⟩,
 ⟨some 8, MOp.load none (Opd.s 7), none⟩,
 ⟨some 9, MOp.fa 8 (Opd.s 1), none⟩,
 ⟨some 10, MOp.load none (Opd.s 9), none⟩,
 ⟨some 11, MOp.build
 [AV.int .i64 0, AV.int .i64 0,
 AV.bool false, AV.nili, AV.str []]
 [(0, 2, Opd.s 6), (2, 1, Opd.s 8), (4, 1, Opd.s 10)], none⟩,
 ⟨some 4, MOp.alloc
 [AV.int .i64 0, AV.int .i64 0,
 AV.bool false, AV.nili, AV.str []], none⟩,
 ⟨none, MOp.store 5 (Opd.s 4) (Opd.s 11), none⟩]).seq
 (((MC.reg
 [⟨some 12, MOp.fa 3 (Opd.s 1), none⟩,
 ⟨some 13, MOp.load none (Opd.s 12), none⟩]).seq
 (MC.block 0
 ((MC.reg
 [⟨some 15, MOp.bin .eql (Opd.s 13)
 (Opd.c (AV.int .i64 1)), none⟩,
 ⟨some 14, MOp.mv (Opd.s 15), none⟩]).seq
 (MC.cond (Opd.s 14)
 (MC.reg
 [⟨some 16, MOp.fa 5 (Opd.s 1), none⟩,
 ⟨some 17, MOp.load none (Opd.s 16), none⟩,
 ⟨some 18, MOp.fa 6 (Opd.s 1), none⟩,
 ⟨some 19, MOp.load none (Opd.s 18), none⟩,
 ⟨some 20, MOp.fa 7 (Opd.s 1), none⟩,
 ⟨some 21, MOp.load none (Opd.s 20), none⟩,
 ⟨some 22, MOp.build
 [AV.int .i64 0, AV.int .i64 0,
 AV.bool false]
 [(0, 1, Opd.s 17), (1, 1, Opd.s 19), (2, 1, Opd.s 21)], none⟩,
 ⟨some 23, MOp.mki 64 (Opd.s 22), none⟩,
 ⟨some 24, MOp.fa 3 (Opd.s 4), none⟩,
 ⟨none, MOp.store 1 (Opd.s 24) (Opd.s 23), none⟩])
 ((MC.reg
 [⟨some 26, MOp.bin .eql (Opd.s 13)
 (Opd.c (AV.int .i64 2)), none⟩,
 ⟨some 25, MOp.mv (Opd.s 26), none⟩]).seq
 (MC.cond (Opd.s 25)
 (MC.reg
 [⟨some 27, MOp.fa 4 (Opd.s 1), none⟩,
 ⟨some 28, MOp.load none (Opd.s 27), none⟩,
 ⟨some 29, MOp.fa 5 (Opd.s 1), none⟩,
 ⟨some 30, MOp.load none (Opd.s 29), none⟩,
 ⟨some 31, MOp.fa 7 (Opd.s 1), none⟩,
 ⟨some 32, MOp.load none (Opd.s 31), none⟩,
 ⟨some 33, MOp.build
 [AV.int .i64 0,
 AV.int .i64 0, AV.bool false]
 [(0, 1, Opd.s 28), (1, 1, Opd.s 30), (2, 1, Opd.s 32)], none⟩,
 ⟨some 34, MOp.mki 84 (Opd.s 33), none⟩,
 ⟨some 35, MOp.fa 3 (Opd.s 4), none⟩,
 ⟨none, MOp.store 1 (Opd.s 35) (Opd.s 34), none⟩])
 ((MC.reg
 [⟨some 37, MOp.bin .eql (Opd.s 13)
 (Opd.c (AV.int .i64 3)), none⟩,
 ⟨some 36, MOp.mv (Opd.s 37), none⟩]).seq
 (MC.cond (Opd.s 36)
 (MC.reg
 [⟨some 38, MOp.fa 4 (Opd.s 1), none⟩,
 ⟨some 39, MOp.load none (Opd.s 38), none⟩,
 ⟨some 40, MOp.fa 7 (Opd.s 1), none⟩,
 ⟨some 41, MOp.load none (Opd.s 40), none⟩,
 ⟨some 42, MOp.build
 [AV.int .i64 0, AV.bool false]
 [(0, 1, Opd.s 39), (1, 1, Opd.s 41)], none⟩,
 ⟨some 43, MOp.mki 86 (Opd.s 42), none⟩,
 ⟨some 44, MOp.fa 3 (Opd.s 4), none⟩,
 ⟨none, MOp.store 1 (Opd.s 44) (Opd.s 43), none⟩])
 MC.skip)))))))).seq
 (((MC.draw
 [⟨some 45, MOp.load (some 5) (Opd.s 4), none⟩,
 ⟨some 46, MOp.call 47 [(0, Opd.s 45)], none⟩,
 ⟨some 47, MOp.un .not (Opd.s 46), none⟩,
 ⟨some 48, MOp.mv (Opd.s 47), none⟩,
 ⟨some 49, MOp.load (some 5) (Opd.s 4), some (48, false)⟩,
 ⟨some 50, MOp.call 46 [(0, Opd.s 49)], some (48, false)⟩,
 ⟨some 51, MOp.load (some 9) (Opd.s 1), some (48, false)⟩,
 ⟨some 52, MOp.eqv true
 (EqK.flat
 (EqF.many
 [SK.i, SK.i, SK.b, SK.i, SK.i, SK.i, SK.i,
 SK.b, SK.s]))
 (Opd.s 50) (Opd.s 51), some (48, false)⟩,
 ⟨some 53, MOp.pick (Opd.s 48) (Opd.c (AV.bool true)) (Opd.s 52), none⟩]
 [0, 1, 3, 7, 15, 31, 15, 127, 255]).seq
 (MC.cond (Opd.s 53)
 ((MC.reg
 [⟨some 54, MOp.build
 [AV.int .i64 0, AV.int .i64 0,
 AV.bool false, AV.nili, AV.str []]
 [], none⟩,
 ⟨none, MOp.store 5 (Opd.s 2) (Opd.s 54), none⟩,
 ⟨some 3, MOp.mv (Opd.c (AV.bool false)), none⟩]).seq
 MC.ret)
 MC.skip)).seq
 ((MC.reg
 [⟨some 55, MOp.load (some 5) (Opd.s 4), none⟩,
 ⟨none, MOp.store 5 (Opd.s 2) (Opd.s 55), none⟩,
 ⟨some 3, MOp.mv (Opd.c (AV.bool true)), none⟩]).seq
 MC.ret)))) ⟩
def M46 : MFun :=
 ⟨51, [MRes.cell 2 (some 9)], (MC.reg
 [⟨some 1, MOp.box (Opd.s 0), none⟩,
 ⟨some 2, MOp.alloc
 [AV.int .i64 0, AV.int .i64 0,
 AV.bool false, AV.int .i64 0,
 AV.int .i64 0, AV.int .i64 0,
 AV.int .i64 0, AV.bool false, AV.str []], none⟩]).seq
 (((MC.reg
 [⟨some 7, MOp.load (some 5) (Opd.s 1), none⟩,
 ⟨some 8, MOp.call 47 [(0, Opd.s 7)], none⟩,
 ⟨some 9, MOp.un .not (Opd.s 8), none⟩]).seq
 (MC.cond (Opd.s 9)
 ((MC.reg
 [⟨some 10, MOp.build
 [AV.int .i64 0, AV.int .i64 0,
 AV.bool false, AV.int .i64 0,
 AV.int .i64 0, AV.int .i64 0,
 AV.int .i64 0, AV.bool false, AV.str []]
 [], none⟩,
 ⟨none, MOp.store 9 (Opd.s 2) (Opd.s 10), none⟩]).seq
 MC.ret)
 MC.skip)).seq
 ((MC.draw
 [⟨some 11, MOp.fa 0 (Opd.s 1), none⟩,
 ⟨some 12, MOp.load (some 2) (Opd.s 11), none⟩,
 ⟨some 13, MOp.fa 2 (Opd.s 1), none⟩,
 ⟨some 14, MOp.load none (Opd.s 13), none⟩,
 ⟨some 15, MOp.fa 4 (Opd.s 1), none⟩,
 ⟨some 16, MOp.load none (Opd.s 15), none⟩,
 ⟨some 17, MOp.fa 3 (Opd.s 1), none⟩,
 ⟨some 18, MOp.load none (Opd.s 17), none⟩,
 ⟨some 19, MOp.call 38 [(0, Opd.s 18)], none⟩,
 ⟨some 20, MOp.build
 [AV.int .i64 0, AV.int .i64 0,
 AV.bool false, AV.int .i64 0,
 AV.int .i64 0, AV.int .i64 0,
 AV.int .i64 0, AV.bool false, AV.str []]
 [(0, 2, Opd.s 12), (2, 1, Opd.s 14), (8, 1, Opd.s 16),
 (7, 1, Opd.s 19)], none⟩,
 ⟨some 3, MOp.alloc
 [AV.int .i64 0, AV.int .i64 0,
 AV.bool false, AV.int .i64 0,
 AV.int .i64 0, AV.int .i64 0,
 AV.int .i64 0, AV.bool false, AV.str []], none⟩,
 ⟨none, MOp.store 9 (Opd.s 3) (Opd.s 20), none⟩]
 [0, 1, 0, 4, 0, 16, 0, 64, 192, 511, 0, 2047]).seq
 (((MC.reg
 [⟨some 21, MOp.fa 3 (Opd.s 1), none⟩,
 ⟨some 22, MOp.load none (Opd.s 21), none⟩]).seq
 (MC.block 0
 ((MC.reg
 [⟨some 23, MOp.tas 64
 (AV.agg
 [AV.int .i64 0,
 AV.int .i64 0, AV.bool false])
 true (Opd.s 22), none⟩,
 ⟨some 24, MOp.ext 1 (Opd.s 23), none⟩,
 ⟨some 25, MOp.ext 0 (Opd.s 23), none⟩]).seq
 (MC.cond (Opd.s 24)
 ((MC.reg
 [⟨some 4, MOp.alloc
 [AV.int .i64 0,
 AV.int .i64 0, AV.bool false], none⟩,
 ⟨none, MOp.store 3 (Opd.s 4) (Opd.s 25), none⟩]).seq
 (MC.draw
 [⟨some 26, MOp.fa 0 (Opd.s 4), none⟩,
 ⟨some 27, MOp.load none (Opd.s 26), none⟩,
 ⟨some 28, MOp.fa 1 (Opd.s 4), none⟩,
 ⟨some 29, MOp.load none (Opd.s 28), none⟩,
 ⟨some 30, MOp.fa 3 (Opd.s 3), none⟩,
 ⟨none, MOp.store 1 (Opd.s 30)
 (Opd.c (AV.int .i64 1)), none⟩,
 ⟨some 31, MOp.fa 5 (Opd.s 3), none⟩,
 ⟨none, MOp.store 1 (Opd.s 31) (Opd.s 27), none⟩,
 ⟨some 32, MOp.fa 6 (Opd.s 3), none⟩,
 ⟨none, MOp.store 1 (Opd.s 32) (Opd.s 29), none⟩]
 [0, 1, 0, 4, 0, 16, 51, 115, 255, 511]))
 ((MC.reg
 [⟨some 33, MOp.tas 84
 (AV.agg
 [AV.int .i64 0,
 AV.int .i64 0, AV.bool false])
 true (Opd.s 22), none⟩,
 ⟨some 34, MOp.ext 1 (Opd.s 33), none⟩,
 ⟨some 35, MOp.ext 0 (Opd.s 33), none⟩]).seq
 (MC.cond (Opd.s 34)
 ((MC.reg
 [⟨some 5, MOp.alloc
 [AV.int .i64 0,
 AV.int .i64 0, AV.bool false], none⟩,
 ⟨none, MOp.store 3 (Opd.s 5) (Opd.s 35), none⟩]).seq
 (MC.draw
 [⟨some 36, MOp.fa 0 (Opd.s 5), none⟩,
 ⟨some 37, MOp.load none (Opd.s 36), none⟩,
 ⟨some 38, MOp.fa 1 (Opd.s 5), none⟩,
 ⟨some 39, MOp.load none (Opd.s 38), none⟩,
 ⟨some 40, MOp.fa 3 (Opd.s 3), none⟩,
 ⟨none, MOp.store 1 (Opd.s 40)
 (Opd.c (AV.int .i64 2)), none⟩,
 ⟨some 41, MOp.fa 4 (Opd.s 3), none⟩,
 ⟨none, MOp.store 1 (Opd.s 41) (Opd.s 37), none⟩,
 ⟨some 42, MOp.fa 5 (Opd.s 3), none⟩,
 ⟨none, MOp.store 1 (Opd.s 42) (Opd.s 39), none⟩]
 [0, 1, 0, 4, 0, 16, 51, 115, 255, 511]))
 ((MC.reg
 [⟨some 43, MOp.tas 86
 (AV.agg
 [AV.int .i64 0, AV.bool false])
 true (Opd.s 22), none⟩,
 ⟨some 44, MOp.ext 1 (Opd.s 43), none⟩,
 ⟨some 45, MOp.ext 0 (Opd.s 43), none⟩]).seq
 (MC.cond (Opd.s 44)
 ((MC.reg
 [⟨some 6, MOp.alloc
 [AV.int .i64 0, AV.bool false], none⟩,
 ⟨none, MOp.store 2 (Opd.s 6) (Opd.s 45), none⟩]).seq
 (MC.draw
 [⟨some 46, MOp.fa 0 (Opd.s 6), none⟩,
 ⟨some 47, MOp.load none (Opd.s 46), none⟩,
 ⟨some 48, MOp.fa 3 (Opd.s 3), none⟩,
 ⟨none, MOp.store 1 (Opd.s 48)
 (Opd.c (AV.int .i64 3)), none⟩,
 ⟨some 49, MOp.fa 4 (Opd.s 3), none⟩,
 ⟨none, MOp.store 1 (Opd.s 49) (Opd.s 47), none⟩]
 [0, 1, 0, 4, 15, 31]))
 MC.skip)))))))).seq
 ((MC.reg
 [⟨some 50, MOp.load (some 9) (Opd.s 3), none⟩,
 ⟨none, MOp.store 9 (Opd.s 2) (Opd.s 50), none⟩]).seq
 MC.ret)))) ⟩
def M47 : MFun :=
 ⟨50, [MRes.tmp 0 2], (MC.reg
 [⟨some 1, MOp.box (Opd.s 0), none⟩,
 ⟨some 2, MOp.mv (Opd.c (AV.bool false)), none⟩]).seq
 ((MC.reg
 [⟨some 7, MOp.fa 3 (Opd.s 1), none⟩,
 ⟨some 8, MOp.load none (Opd.s 7), none⟩,
 ⟨some 9, MOp.tas 84
 (AV.agg
 [AV.int .i64 0, AV.int .i64 0,
 AV.bool false])
 true (Opd.s 8), none⟩,
 ⟨some 6, MOp.mv (Opd.s 9), none⟩,
 ⟨some 10, MOp.ext 0 (Opd.s 6), none⟩,
 ⟨some 11, MOp.ext 1 (Opd.s 6), none⟩,
 ⟨some 3, MOp.alloc
 [AV.int .i64 0, AV.int .i64 0,
 AV.bool false], none⟩,
 ⟨none, MOp.store 3 (Opd.s 3) (Opd.s 10), none⟩,
 ⟨some 4, MOp.mv (Opd.s 11), none⟩]).seq
 ((MC.reg
 [⟨some 12, MOp.fa 0 (Opd.s 1), none⟩,
 ⟨some 13, MOp.load (some 2) (Opd.s 12), none⟩,
 ⟨some 5, MOp.alloc
 [AV.int .i64 0, AV.int .i64 0], none⟩,
 ⟨none, MOp.store 2 (Opd.s 5) (Opd.s 13), none⟩]).seq
 (((MC.reg
 [⟨some 14, MOp.fa 0 (Opd.s 5), none⟩,
 ⟨some 15, MOp.load none (Opd.s 14), none⟩,
 ⟨some 16, MOp.bin .lss (Opd.s 15)
 (Opd.c (AV.int .i64 0)), none⟩,
 ⟨some 17, MOp.mv (Opd.s 16), none⟩,
 ⟨some 18, MOp.fa 0 (Opd.s 5), some (17, false)⟩,
 ⟨some 19, MOp.load none (Opd.s 18), some (17, false)⟩,
 ⟨some 20, MOp.bin .gtr (Opd.s 19)
 (Opd.c (AV.int .i64 127)), some (17, false)⟩,
 ⟨some 21, MOp.pick (Opd.s 17) (Opd.c (AV.bool true)) (Opd.s 20), none⟩,
 ⟨some 22, MOp.mv (Opd.s 21), none⟩,
 ⟨some 23, MOp.fa 1 (Opd.s 5), some (22, false)⟩,
 ⟨some 24, MOp.load none (Opd.s 23), some (22, false)⟩,
 ⟨some 25, MOp.bin .lss (Opd.s 24)
 (Opd.c (AV.int .i64 0)), some (22, false)⟩,
 ⟨some 26, MOp.pick (Opd.s 22) (Opd.c (AV.bool true)) (Opd.s 25), none⟩,
 ⟨some 27, MOp.mv (Opd.s 26), none⟩,
 ⟨some 28, MOp.fa 1 (Opd.s 5), some (27, false)⟩,
 ⟨some 29, MOp.load none (Opd.s 28), some (27, false)⟩,
 ⟨some 30, MOp.bin .gtr (Opd.s 29)
 (Opd.c (AV.int .i64 255)), some (27, false)⟩,
 ⟨some 31, MOp.pick (Opd.s 27) (Opd.c (AV.bool true)) (Opd.s 30), none⟩]).seq
 (MC.cond (Opd.s 31)
 ((MC.reg
 [⟨some 2, MOp.mv (Opd.c (AV.bool false)), none⟩]).seq
 MC.ret)
 MC.skip)).seq
 ((MC.reg
 [⟨some 32, MOp.fa 3 (Opd.s 1), none⟩,
 ⟨some 33, MOp.load none (Opd.s 32), none⟩,
 ⟨some 34, MOp.call 36 [(0, Opd.s 33)], none⟩,
 ⟨some 35, MOp.mv (Opd.s 34), none⟩,
 ⟨some 36, MOp.fa 4 (Opd.s 1), some (35, true)⟩,
 ⟨some 37, MOp.load none (Opd.s 36), some (35, true)⟩,
 ⟨some 38, MOp.lens (Opd.s 37), some (35, true)⟩,
 ⟨some 39, MOp.bin .leq (Opd.s 38)
 (Opd.c (AV.int .i64 64)), some (35, true)⟩,
 ⟨some 40, MOp.pick (Opd.s 35) (Opd.s 39) (Opd.c (AV.bool false)), none⟩,
 ⟨some 41, MOp.mv (Opd.s 40), none⟩,
 ⟨some 42, MOp.mv (Opd.s 4), some (41, true)⟩,
 ⟨some 43, MOp.un .not (Opd.s 42), some (41, true)⟩,
 ⟨some 44, MOp.mv (Opd.s 43), some (41, true)⟩,
 ⟨some 45, MOp.fa 4 (Opd.s 1), some (44, false)⟩,
 ⟨some 46, MOp.load none (Opd.s 45), some (44, false)⟩,
 ⟨some 47, MOp.bin .eql (Opd.s 46) (Opd.c (AV.str [])), some (44, false)⟩,
 ⟨some 48, MOp.pick (Opd.s 44) (Opd.c (AV.bool true)) (Opd.s 47), some (41, true)⟩,
 ⟨some 49, MOp.pick (Opd.s 41) (Opd.s 48) (Opd.c (AV.bool false)), none⟩,
 ⟨some 2, MOp.mv (Opd.s 49), none⟩]).seq
 MC.ret)))) ⟩
theorem tab16 : tableOf Tryd.prog 16 = some M16 := by kernel_rfl
theorem tab40 : tableOf Tryd.prog 40 = some M40 := by kernel_rfl
theorem tab46 : tableOf Tryd.prog 46 = some M46 := by kernel_rfl
theorem tab47 : tableOf Tryd.prog 47 = some M47 := by kernel_rfl
end Go.Proofs.YthcblggiojpmcaaDoor
/- Functions of the program in the evaluator's form, written out by a program. No conditions. -/
set_option linter.unusedVariables false
namespace Go.Proofs.YthcblggiojpmcaaDoor
open Go Go.Ab
def M21 : MFun :=
 ⟨11, [MRes.tmp 0 4], (MC.reg
 [⟨some 4, MOp.mv (Opd.c (AV.str [])), none⟩]).seq
 ((MC.reg
 [⟨some 5, MOp.mv (Opd.s 0), none⟩,
 ⟨some 6, MOp.mv (Opd.s 0), none⟩,
 ⟨some 7, MOp.lens (Opd.s 6), none⟩,
 ⟨some 8, MOp.mv (Opd.s 1), none⟩,
 ⟨some 9, MOp.mn [Opd.s 7, Opd.s 8], none⟩,
 ⟨some 10, MOp.sls (Opd.s 5) none (some (Opd.s 9)), none⟩,
 ⟨some 4, MOp.mv (Opd.s 10), none⟩]).seq
 MC.ret) ⟩
def M32 : MFun :=
 ⟨8, [MRes.cell 2 (some 9)], (MC.reg
 [⟨some 1, MOp.box (Opd.s 0), none⟩,
 ⟨some 2, MOp.alloc
 [AV.int .i64 0, AV.int .i64 0,
 AV.bool false, AV.int .i64 0,
 AV.int .i64 0, AV.int .i64 0,
 AV.int .i64 0, AV.bool false, AV.str []], none⟩]).seq
 ((MC.reg
 [⟨some 3, MOp.fa 8 (Opd.s 1), none⟩,
 ⟨some 4, MOp.load none (Opd.s 3), none⟩,
 ⟨some 5, MOp.call 21
 [(0, Opd.s 4), (0, Opd.c (AV.int .i64 70))], none⟩,
 ⟨some 6, MOp.fa 8 (Opd.s 1), none⟩,
 ⟨none, MOp.store 1 (Opd.s 6) (Opd.s 5), none⟩]).seq
 ((MC.reg
 [⟨some 7, MOp.load (some 9) (Opd.s 1), none⟩,
 ⟨none, MOp.store 9 (Opd.s 2) (Opd.s 7), none⟩]).seq
 MC.ret)) ⟩
def M34 : MFun :=
 ⟨118, [MRes.tmp 0 2, MRes.tmp 0 3], (MC.reg
 [⟨some 1, MOp.box (Opd.s 0), none⟩,
 ⟨some 2, MOp.mv (Opd.c (AV.int .u8 0)), none⟩,
 ⟨some 3, MOp.mv (Opd.c (AV.bool false)), none⟩]).seq
 ((MC.reg
 [⟨some 4, MOp.mv (Opd.c (AV.int .i64 0)), none⟩]).seq
 (((MC.reg
 [⟨some 5, MOp.fa 7 (Opd.s 1), none⟩,
 ⟨some 6, MOp.load none (Opd.s 5), none⟩]).seq
 (MC.cond (Opd.s 6)
 (MC.reg
 [⟨some 4, MOp.mv (Opd.c (AV.int .i64 16)), none⟩])
 MC.skip)).seq
 ((MC.block 0
 ((MC.reg
 [⟨some 8, MOp.fa 3 (Opd.s 1), none⟩,
 ⟨some 9, MOp.load none (Opd.s 8), none⟩,
 ⟨some 10, MOp.bin .eql (Opd.s 9)
 (Opd.c (AV.int .i64 1)), none⟩,
 ⟨some 11, MOp.mv (Opd.s 10), none⟩,
 ⟨some 12, MOp.fa 5 (Opd.s 1), some (11, true)⟩,
 ⟨some 13, MOp.load none (Opd.s 12), some (11, true)⟩,
 ⟨some 14, MOp.bin .geq (Opd.s 13)
 (Opd.c (AV.int .i64 0)), some (11, true)⟩,
 ⟨some 15, MOp.pick (Opd.s 11) (Opd.s 14) (Opd.c (AV.bool false)), none⟩,
 ⟨some 16, MOp.mv (Opd.s 15), none⟩,
 ⟨some 17, MOp.fa 5 (Opd.s 1), some (16, true)⟩,
 ⟨some 18, MOp.load none (Opd.s 17), some (16, true)⟩,
 ⟨some 19, MOp.bin .leq (Opd.s 18)
 (Opd.c (AV.int .i64 7)), some (16, true)⟩,
 ⟨some 20, MOp.pick (Opd.s 16) (Opd.s 19) (Opd.c (AV.bool false)), none⟩,
 ⟨some 21, MOp.mv (Opd.s 20), none⟩,
 ⟨some 22, MOp.fa 6 (Opd.s 1), some (21, true)⟩,
 ⟨some 23, MOp.load none (Opd.s 22), some (21, true)⟩,
 ⟨some 24, MOp.bin .geq (Opd.s 23)
 (Opd.c (AV.int .i64 0)), some (21, true)⟩,
 ⟨some 25, MOp.pick (Opd.s 21) (Opd.s 24) (Opd.c (AV.bool false)), none⟩,
 ⟨some 26, MOp.mv (Opd.s 25), none⟩,
 ⟨some 27, MOp.fa 6 (Opd.s 1), some (26, true)⟩,
 ⟨some 28, MOp.load none (Opd.s 27), some (26, true)⟩,
 ⟨some 29, MOp.bin .leq (Opd.s 28)
 (Opd.c (AV.int .i64 7)), some (26, true)⟩,
 ⟨some 30, MOp.pick (Opd.s 26) (Opd.s 29) (Opd.c (AV.bool false)), none⟩,
 ⟨some 31, MOp.mv (Opd.s 30), none⟩,
 ⟨some 32, MOp.fa 4 (Opd.s 1), some (31, true)⟩,
 ⟨some 33, MOp.load none (Opd.s 32), some (31, true)⟩,
 ⟨some 34, MOp.bin .eql (Opd.s 33)
 (Opd.c (AV.int .i64 0)), some (31, true)⟩,
 ⟨some 35, MOp.pick (Opd.s 31) (Opd.s 34) (Opd.c (AV.bool false)), none⟩,
 ⟨some 7, MOp.mv (Opd.s 35), none⟩]).seq
 (MC.cond (Opd.s 7)
 ((MC.reg
 [⟨some 36, MOp.mv (Opd.s 4), none⟩,
 ⟨some 37, MOp.fa 5 (Opd.s 1), none⟩,
 ⟨some 38, MOp.load none (Opd.s 37), none⟩,
 ⟨some 39, MOp.bin .mul (Opd.s 38)
 (Opd.c (AV.int .i64 32)), none⟩,
 ⟨some 40, MOp.bin .add (Opd.s 36) (Opd.s 39), none⟩,
 ⟨some 41, MOp.fa 6 (Opd.s 1), none⟩,
 ⟨some 42, MOp.load none (Opd.s 41), none⟩,
 ⟨some 43, MOp.bin .mul (Opd.s 42)
 (Opd.c (AV.int .i64 2)), none⟩,
 ⟨some 44, MOp.bin .add (Opd.s 40) (Opd.s 43), none⟩,
 ⟨some 45, MOp.conv (Cv.toInt .u8) (Opd.s 44), none⟩,
 ⟨some 2, MOp.mv (Opd.s 45), none⟩,
 ⟨some 3, MOp.mv (Opd.c (AV.bool true)), none⟩]).seq
 MC.ret)
 ((MC.reg
 [⟨some 47, MOp.fa 3 (Opd.s 1), none⟩,
 ⟨some 48, MOp.load none (Opd.s 47), none⟩,
 ⟨some 49, MOp.bin .eql (Opd.s 48)
 (Opd.c (AV.int .i64 2)), none⟩,
 ⟨some 50, MOp.mv (Opd.s 49), none⟩,
 ⟨some 51, MOp.fa 5 (Opd.s 1), some (50, true)⟩,
 ⟨some 52, MOp.load none (Opd.s 51), some (50, true)⟩,
 ⟨some 53, MOp.bin .geq (Opd.s 52)
 (Opd.c (AV.int .i64 0)), some (50, true)⟩,
 ⟨some 54, MOp.pick (Opd.s 50) (Opd.s 53)
 (Opd.c (AV.bool false)), none⟩,
 ⟨some 55, MOp.mv (Opd.s 54), none⟩,
 ⟨some 56, MOp.fa 5 (Opd.s 1), some (55, true)⟩,
 ⟨some 57, MOp.load none (Opd.s 56), some (55, true)⟩,
 ⟨some 58, MOp.bin .leq (Opd.s 57)
 (Opd.c (AV.int .i64 7)), some (55, true)⟩,
 ⟨some 59, MOp.pick (Opd.s 55) (Opd.s 58)
 (Opd.c (AV.bool false)), none⟩,
 ⟨some 60, MOp.mv (Opd.s 59), none⟩,
 ⟨some 61, MOp.fa 4 (Opd.s 1), some (60, true)⟩,
 ⟨some 62, MOp.load none (Opd.s 61), some (60, true)⟩,
 ⟨some 63, MOp.bin .geq (Opd.s 62)
 (Opd.c (AV.int .i64 0)), some (60, true)⟩,
 ⟨some 64, MOp.pick (Opd.s 60) (Opd.s 63)
 (Opd.c (AV.bool false)), none⟩,
 ⟨some 65, MOp.mv (Opd.s 64), none⟩,
 ⟨some 66, MOp.fa 4 (Opd.s 1), some (65, true)⟩,
 ⟨some 67, MOp.load none (Opd.s 66), some (65, true)⟩,
 ⟨some 68, MOp.bin .leq (Opd.s 67)
 (Opd.c (AV.int .i64 2)), some (65, true)⟩,
 ⟨some 69, MOp.pick (Opd.s 65) (Opd.s 68)
 (Opd.c (AV.bool false)), none⟩,
 ⟨some 70, MOp.mv (Opd.s 69), none⟩,
 ⟨some 71, MOp.fa 6 (Opd.s 1), some (70, true)⟩,
 ⟨some 72, MOp.load none (Opd.s 71), some (70, true)⟩,
 ⟨some 73, MOp.bin .eql (Opd.s 72)
 (Opd.c (AV.int .i64 0)), some (70, true)⟩,
 ⟨some 74, MOp.pick (Opd.s 70) (Opd.s 73)
 (Opd.c (AV.bool false)), none⟩,
 ⟨some 46, MOp.mv (Opd.s 74), none⟩]).seq
 (MC.cond (Opd.s 46)
 ((MC.reg
 [⟨some 75, MOp.mv (Opd.s 4), none⟩,
 ⟨some 76, MOp.fa 5 (Opd.s 1), none⟩,
 ⟨some 77, MOp.load none (Opd.s 76), none⟩,
 ⟨some 78, MOp.bin .mul (Opd.s 77)
 (Opd.c (AV.int .i64 32)), none⟩,
 ⟨some 79, MOp.bin .add (Opd.s 75) (Opd.s 78), none⟩,
 ⟨some 80, MOp.fa 4 (Opd.s 1), none⟩,
 ⟨some 81, MOp.load none (Opd.s 80), none⟩,
 ⟨some 82, MOp.bin .mul (Opd.s 81)
 (Opd.c (AV.int .i64 4)), none⟩,
 ⟨some 83, MOp.bin .add (Opd.s 79) (Opd.s 82), none⟩,
 ⟨some 84, MOp.bin .add (Opd.s 83)
 (Opd.c (AV.int .i64 1)), none⟩,
 ⟨some 85, MOp.conv (Cv.toInt .u8) (Opd.s 84), none⟩,
 ⟨some 2, MOp.mv (Opd.s 85), none⟩,
 ⟨some 3, MOp.mv (Opd.c (AV.bool true)), none⟩]).seq
 MC.ret)
 ((MC.reg
 [⟨some 87, MOp.fa 3 (Opd.s 1), none⟩,
 ⟨some 88, MOp.load none (Opd.s 87), none⟩,
 ⟨some 89, MOp.bin .eql (Opd.s 88)
 (Opd.c (AV.int .i64 3)), none⟩,
 ⟨some 90, MOp.mv (Opd.s 89), none⟩,
 ⟨some 91, MOp.fa 4 (Opd.s 1), some (90, true)⟩,
 ⟨some 92, MOp.load none (Opd.s 91), some (90, true)⟩,
 ⟨some 93, MOp.bin .geq (Opd.s 92)
 (Opd.c (AV.int .i64 1)), some (90, true)⟩,
 ⟨some 94, MOp.pick (Opd.s 90) (Opd.s 93)
 (Opd.c (AV.bool false)), none⟩,
 ⟨some 95, MOp.mv (Opd.s 94), none⟩,
 ⟨some 96, MOp.fa 4 (Opd.s 1), some (95, true)⟩,
 ⟨some 97, MOp.load none (Opd.s 96), some (95, true)⟩,
 ⟨some 98, MOp.bin .leq (Opd.s 97)
 (Opd.c (AV.int .i64 7)), some (95, true)⟩,
 ⟨some 99, MOp.pick (Opd.s 95) (Opd.s 98)
 (Opd.c (AV.bool false)), none⟩,
 ⟨some 100, MOp.mv (Opd.s 99), none⟩,
 ⟨some 101, MOp.fa 5 (Opd.s 1), some (100, true)⟩,
 ⟨some 102, MOp.load none (Opd.s 101), some (100, true)⟩,
 ⟨some 103, MOp.bin .eql (Opd.s 102)
 (Opd.c (AV.int .i64 0)), some (100, true)⟩,
 ⟨some 104, MOp.pick (Opd.s 100) (Opd.s 103)
 (Opd.c (AV.bool false)), none⟩,
 ⟨some 105, MOp.mv (Opd.s 104), none⟩,
 ⟨some 106, MOp.fa 6 (Opd.s 1), some (105, true)⟩,
 ⟨some 107, MOp.load none (Opd.s 106), some (105, true)⟩,
 ⟨some 108, MOp.bin .eql (Opd.s 107)
 (Opd.c (AV.int .i64 0)), some (105, true)⟩,
 ⟨some 109, MOp.pick (Opd.s 105) (Opd.s 108)
 (Opd.c (AV.bool false)), none⟩,
 ⟨some 86, MOp.mv (Opd.s 109), none⟩]).seq
 (MC.cond (Opd.s 86)
 ((MC.draw
 [⟨some 110, MOp.mv (Opd.s 4), none⟩,
 ⟨some 111, MOp.call 67 [], none⟩,
 ⟨some 112, MOp.fa 4 (Opd.s 1), none⟩,
 ⟨some 113, MOp.load none (Opd.s 112), none⟩,
 ⟨some 114, MOp.ixa 1 (Opd.s 111) (Opd.s 113), none⟩,
 ⟨some 115, MOp.load none (Opd.s 114), none⟩,
 ⟨some 116, MOp.bin .add (Opd.s 110) (Opd.s 115), none⟩,
 ⟨some 117, MOp.conv (Cv.toInt .u8) (Opd.s 116), none⟩,
 ⟨some 2, MOp.mv (Opd.s 117), none⟩,
 ⟨some 3, MOp.mv (Opd.c (AV.bool true)), none⟩]
 [0, 0, 0, 4, 14, 30, 63, 127, 255, 511]).seq
 MC.ret)
 MC.skip))))))).seq
 ((MC.reg
 [⟨some 2, MOp.mv (Opd.c (AV.int .u8 0)), none⟩,
 ⟨some 3, MOp.mv (Opd.c (AV.bool false)), none⟩]).seq
 MC.ret)))) ⟩
def M37 : MFun :=
 ⟨51, [MRes.tmp 0 2, MRes.tmp 0 3], (MC.reg
 [⟨some 2, MOp.mv (Opd.c AV.nili), none⟩,
 ⟨some 3, MOp.mv (Opd.c (AV.bool false)), none⟩]).seq
 ((MC.reg
 [⟨some 8, MOp.mv (Opd.s 0), none⟩,
 ⟨some 9, MOp.bin .and (Opd.s 8)
 (Opd.c (AV.int .u8 16)), none⟩,
 ⟨some 10, MOp.bin .neq (Opd.s 9) (Opd.c (AV.int .u8 0)), none⟩,
 ⟨some 11, MOp.mv (Opd.s 0), none⟩,
 ⟨some 12, MOp.bin .shr (Opd.s 11)
 (Opd.c (AV.int .u64 5)), none⟩,
 ⟨some 13, MOp.conv (Cv.toInt .i64) (Opd.s 12), none⟩,
 ⟨some 4, MOp.mv (Opd.s 10), none⟩,
 ⟨some 5, MOp.mv (Opd.s 13), none⟩]).seq
 ((MC.block 0
 ((MC.reg
 [⟨some 15, MOp.mv (Opd.s 0), none⟩,
 ⟨some 16, MOp.bin .and (Opd.s 15)
 (Opd.c (AV.int .u8 1)), none⟩,
 ⟨some 17, MOp.bin .eql (Opd.s 16)
 (Opd.c (AV.int .u8 0)), none⟩,
 ⟨some 14, MOp.mv (Opd.s 17), none⟩]).seq
 (MC.cond (Opd.s 14)
 ((MC.reg
 [⟨some 18, MOp.mv (Opd.s 5), none⟩,
 ⟨some 19, MOp.mv (Opd.s 0), none⟩,
 ⟨some 20, MOp.bin .shr (Opd.s 19)
 (Opd.c (AV.int .u64 1)), none⟩,
 ⟨some 21, MOp.bin .and (Opd.s 20)
 (Opd.c (AV.int .u8 7)), none⟩,
 ⟨some 22, MOp.conv (Cv.toInt .i64) (Opd.s 21), none⟩,
 ⟨some 23, MOp.mv (Opd.s 4), none⟩,
 ⟨some 24, MOp.build
 [AV.int .i64 0, AV.int .i64 0,
 AV.bool false]
 [(0, 1, Opd.s 18), (1, 1, Opd.s 22), (2, 1, Opd.s 23)], none⟩,
 ⟨some 25, MOp.mki 64 (Opd.s 24), none⟩,
 ⟨some 2, MOp.mv (Opd.s 25), none⟩,
 ⟨some 3, MOp.mv (Opd.c (AV.bool true)), none⟩]).seq
 MC.ret)
 ((MC.reg
 [⟨some 27, MOp.mv (Opd.s 0), none⟩,
 ⟨some 28, MOp.bin .and (Opd.s 27)
 (Opd.c (AV.int .u8 3)), none⟩,
 ⟨some 29, MOp.bin .eql (Opd.s 28)
 (Opd.c (AV.int .u8 1)), none⟩,
 ⟨some 26, MOp.mv (Opd.s 29), none⟩]).seq
 (MC.cond (Opd.s 26)
 (((MC.reg
 [⟨some 30, MOp.mv (Opd.s 0), none⟩,
 ⟨some 31, MOp.bin .shr (Opd.s 30)
 (Opd.c (AV.int .u64 2)), none⟩,
 ⟨some 32, MOp.bin .and (Opd.s 31)
 (Opd.c (AV.int .u8 3)), none⟩,
 ⟨some 33, MOp.conv (Cv.toInt .i64) (Opd.s 32), none⟩,
 ⟨some 6, MOp.mv (Opd.s 33), none⟩]).seq
 ((MC.reg
 [⟨some 34, MOp.mv (Opd.s 6), none⟩,
 ⟨some 35, MOp.bin .leq (Opd.s 34)
 (Opd.c (AV.int .i64 2)), none⟩]).seq
 (MC.cond (Opd.s 35)
 ((MC.reg
 [⟨some 36, MOp.mv (Opd.s 6), none⟩,
 ⟨some 37, MOp.mv (Opd.s 5), none⟩,
 ⟨some 38, MOp.mv (Opd.s 4), none⟩,
 ⟨some 39, MOp.build
 [AV.int .i64 0,
 AV.int .i64 0, AV.bool false]
 [(0, 1, Opd.s 36), (1, 1, Opd.s 37),
 (2, 1, Opd.s 38)], none⟩,
 ⟨some 40, MOp.mki 84 (Opd.s 39), none⟩,
 ⟨some 2, MOp.mv (Opd.s 40), none⟩,
 ⟨some 3, MOp.mv (Opd.c (AV.bool true)), none⟩]).seq
 MC.ret)
 MC.skip))).seq
 ((MC.reg
 [⟨some 2, MOp.mv (Opd.c AV.nili), none⟩,
 ⟨some 3, MOp.mv (Opd.c (AV.bool false)), none⟩]).seq
 MC.ret))
 MC.skip))))).seq
 (((MC.reg
 [⟨some 41, MOp.call 68 [], none⟩,
 ⟨some 42, MOp.mv (Opd.s 0), none⟩,
 ⟨some 43, MOp.bin .andNot (Opd.s 42)
 (Opd.c (AV.int .u8 16)), none⟩,
 ⟨some 44, MOp.call 70 [(1, Opd.s 41), (0, Opd.s 43)], none⟩,
 ⟨some 7, MOp.mv (Opd.s 44), none⟩]).seq
 ((MC.reg
 [⟨some 45, MOp.mv (Opd.s 7), none⟩,
 ⟨some 46, MOp.bin .gtr (Opd.s 45)
 (Opd.c (AV.int .i64 0)), none⟩]).seq
 (MC.cond (Opd.s 46)
 ((MC.reg
 [⟨some 47, MOp.mv (Opd.s 7), none⟩,
 ⟨some 48, MOp.mv (Opd.s 4), none⟩,
 ⟨some 49, MOp.build [AV.int .i64 0, AV.bool false]
 [(0, 1, Opd.s 47), (1, 1, Opd.s 48)], none⟩,
 ⟨some 50, MOp.mki 86 (Opd.s 49), none⟩,
 ⟨some 2, MOp.mv (Opd.s 50), none⟩,
 ⟨some 3, MOp.mv (Opd.c (AV.bool true)), none⟩]).seq
 MC.ret)
 MC.skip))).seq
 ((MC.reg
 [⟨some 2, MOp.mv (Opd.c AV.nili), none⟩,
 ⟨some 3, MOp.mv (Opd.c (AV.bool false)), none⟩]).seq
 MC.ret)))) ⟩
def M39b0 : MC :=
 (((MC.reg
 [⟨some 18, MOp.mv (Opd.s 6), none⟩,
 ⟨some 19, MOp.bin .lss (Opd.s 18)
 (Opd.c
 (AV.int .i64 2)), none⟩]).seq
 (MC.cond (Opd.s 19) MC.skip
 (MC.exit 4))).seq
 ((MC.block 5
 ((MC.reg
 [⟨some 22, MOp.mv (Opd.s 4), none⟩,
 ⟨some 23, MOp.mv (Opd.s 5), none⟩,
 ⟨some 24, MOp.mv (Opd.s 6), none⟩,
 ⟨some 25, MOp.bin .eql (Opd.s 24)
 (Opd.c
 (AV.int .i64 1)), none⟩,
 ⟨some 26, MOp.build
 [AV.int .i64 0,
 AV.int .i64 0,
 AV.bool false,
 AV.int .i64 0,
 AV.int .i64 0,
 AV.int .i64 0,
 AV.int .i64 0,
 AV.bool false, AV.str []]
 [(3, 1, Opd.s 22), (4, 1, Opd.s 23),
 (7, 1, Opd.s 25)], none⟩,
 ⟨some 7, MOp.alloc
 [AV.int .i64 0,
 AV.int .i64 0,
 AV.bool false,
 AV.int .i64 0,
 AV.int .i64 0,
 AV.int .i64 0,
 AV.int .i64 0,
 AV.bool false, AV.str []], none⟩,
 ⟨none, MOp.store 9 (Opd.s 7) (Opd.s 26), none⟩]).seq
 (((MC.reg
 [⟨some 27, MOp.mv (Opd.s 4), none⟩,
 ⟨some 28, MOp.bin .lss (Opd.s 27)
 (Opd.c
 (AV.int .i64
 3)), none⟩]).seq
 (MC.cond (Opd.s 28)
 (MC.reg
 [⟨some 29, MOp.mv (Opd.s 0), none⟩,
 ⟨some 30, MOp.bin .quo (Opd.s 29)
 (Opd.c
 (AV.int .u8
 32)), none⟩,
 ⟨some 31, MOp.conv (Cv.toInt .i64)
 (Opd.s 30), none⟩,
 ⟨some 32, MOp.fa 5 (Opd.s 7), none⟩,
 ⟨none, MOp.store 1 (Opd.s 32)
 (Opd.s 31), none⟩])
 MC.skip)).seq
 (((MC.reg
 [⟨some 33, MOp.mv (Opd.s 4), none⟩,
 ⟨some 34, MOp.bin .eql (Opd.s 33)
 (Opd.c
 (AV.int .i64
 1)), none⟩]).seq
 (MC.cond (Opd.s 34)
 (MC.reg
 [⟨some 35, MOp.mv (Opd.s 0), none⟩,
 ⟨some 36, MOp.bin .quo (Opd.s 35)
 (Opd.c
 (AV.int .u8
 2)), none⟩,
 ⟨some 37, MOp.conv (Cv.toInt .i64)
 (Opd.s 36), none⟩,
 ⟨some 38, MOp.bin .rem (Opd.s 37)
 (Opd.c
 (AV.int .i64
 8)), none⟩,
 ⟨some 39, MOp.fa 6 (Opd.s 7), none⟩,
 ⟨none, MOp.store 1 (Opd.s 39)
 (Opd.s 38), none⟩])
 MC.skip)).seq
 ((MC.reg
 [⟨some 41, MOp.load (some 9) (Opd.s 7), none⟩,
 ⟨some 42, MOp.call 34 [(0, Opd.s 41)], none⟩,
 ⟨some 40, MOp.mv (Opd.s 42), none⟩,
 ⟨some 43, MOp.ext 0 (Opd.s 40), none⟩,
 ⟨some 44, MOp.ext 1 (Opd.s 40), none⟩,
 ⟨some 8, MOp.mv (Opd.s 43), none⟩,
 ⟨some 9, MOp.mv (Opd.s 44), none⟩]).seq
 ((MC.reg
 [⟨some 45, MOp.mv (Opd.s 9), none⟩,
 ⟨some 46, MOp.mv (Opd.s 45), none⟩,
 ⟨some 47, MOp.mv (Opd.s 8), some (46, true)⟩,
 ⟨some 48, MOp.mv (Opd.s 0), some (46, true)⟩,
 ⟨some 49, MOp.bin .eql (Opd.s 47)
 (Opd.s 48), some (46, true)⟩,
 ⟨some 50, MOp.pick (Opd.s 46)
 (Opd.s 49)
 (Opd.c (AV.bool false)), none⟩]).seq
 (MC.cond (Opd.s 50)
 ((MC.reg
 [⟨some 51, MOp.load (some 9)
 (Opd.s 7), none⟩,
 ⟨none, MOp.store 9 (Opd.s 2)
 (Opd.s 51), none⟩,
 ⟨some 3, MOp.mv
 (Opd.c (AV.bool true)), none⟩]).seq
 MC.ret)
 MC.skip))))))).seq
 (MC.reg
 [⟨some 20, MOp.mv (Opd.s 6), none⟩,
 ⟨some 21, MOp.bin .add (Opd.s 20)
 (Opd.c (AV.int .i64 1)), none⟩,
 ⟨some 6, MOp.mv (Opd.s 21), none⟩])))
def M39b0l : List Bool := [true, false, true, false, true, true, true, false, false, false, false, false, false, false, false, false, false, false, false, false, false, false, false, false, false, false, false, false, false, false, false, false, false, false, false, false, false, false, false, false, false, false, false, false, false, false, false, false, false, false, false, false, false]
def M39b1 : MC :=
 (((MC.reg
 [⟨some 14, MOp.mv (Opd.s 5), none⟩,
 ⟨some 15, MOp.bin .leq (Opd.s 14)
 (Opd.c (AV.int .i64 7)), none⟩]).seq
 (MC.cond (Opd.s 15) MC.skip (MC.exit 2))).seq
 ((MC.block 3
 ((MC.reg
 [⟨some 6, MOp.mv
 (Opd.c (AV.int .i64 0)), none⟩]).seq
 (MC.block 4
 (MC.loop M39b0l M39b0)))).seq
 (MC.reg
 [⟨some 16, MOp.mv (Opd.s 5), none⟩,
 ⟨some 17, MOp.bin .add (Opd.s 16)
 (Opd.c (AV.int .i64 1)), none⟩,
 ⟨some 5, MOp.mv (Opd.s 17), none⟩])))
def M39b1l : List Bool := [true, false, true, false, true, true, false, false, false, false, false, false, false, false, false, false, false, false, false, false, false, false, false, false, false, false, false, false, false, false, false, false, false, false, false, false, false, false, false, false, false, false, false, false, false, false, false, false, false, false, false, false, false]
def M39b2 : MC :=
 (((MC.reg
 [⟨some 10, MOp.mv (Opd.s 4), none⟩,
 ⟨some 11, MOp.bin .leq (Opd.s 10)
 (Opd.c (AV.int .i64 3)), none⟩]).seq
 (MC.cond (Opd.s 11) MC.skip (MC.exit 0))).seq
 ((MC.block 1
 ((MC.reg
 [⟨some 5, MOp.mv (Opd.c (AV.int .i64 0)), none⟩]).seq
 (MC.block 2
 (MC.loop M39b1l M39b1)))).seq
 (MC.reg
 [⟨some 12, MOp.mv (Opd.s 4), none⟩,
 ⟨some 13, MOp.bin .add (Opd.s 12)
 (Opd.c (AV.int .i64 1)), none⟩,
 ⟨some 4, MOp.mv (Opd.s 13), none⟩])))
def M39b2l : List Bool := [true, false, true, false, true, false, false, false, false, false, false, false, false, false, false, false, false, false, false, false, false, false, false, false, false, false, false, false, false, false, false, false, false, false, false, false, false, false, false, false, false, false, false, false, false, false, false, false, false, false, false, false, false]
def M39 : MFun :=
 ⟨53, [MRes.cell 2 (some 9), MRes.tmp 0 3], (MC.reg
 [⟨some 2, MOp.alloc
 [AV.int .i64 0, AV.int .i64 0,
 AV.bool false, AV.int .i64 0,
 AV.int .i64 0, AV.int .i64 0,
 AV.int .i64 0, AV.bool false, AV.str []], none⟩,
 ⟨some 3, MOp.mv (Opd.c (AV.bool false)), none⟩]).seq
 (((MC.reg
 [⟨some 4, MOp.mv (Opd.c (AV.int .i64 1)), none⟩]).seq
 (MC.block 0
 (MC.loop M39b2l M39b2))).seq
 ((MC.reg
 [⟨some 52, MOp.build
 [AV.int .i64 0, AV.int .i64 0,
 AV.bool false, AV.int .i64 0,
 AV.int .i64 0, AV.int .i64 0,
 AV.int .i64 0, AV.bool false, AV.str []]
 [], none⟩,
 ⟨none, MOp.store 9 (Opd.s 2) (Opd.s 52), none⟩,
 ⟨some 3, MOp.mv (Opd.c (AV.bool false)), none⟩]).seq
 MC.ret)) ⟩
def M41 : MFun :=
 ⟨51, [MRes.tmp 0 2], (MC.reg
 [⟨some 1, MOp.box (Opd.s 0), none⟩,
 ⟨some 2, MOp.mv (Opd.c (AV.bool false)), none⟩]).seq
 ((MC.reg
 [⟨some 6, MOp.load (some 9) (Opd.s 1), none⟩,
 ⟨some 7, MOp.call 34 [(0, Opd.s 6)], none⟩,
 ⟨some 5, MOp.mv (Opd.s 7), none⟩,
 ⟨some 8, MOp.ext 0 (Opd.s 5), none⟩,
 ⟨some 9, MOp.ext 1 (Opd.s 5), none⟩,
 ⟨some 3, MOp.mv (Opd.s 8), none⟩,
 ⟨some 4, MOp.mv (Opd.s 9), none⟩]).seq
 ((MC.reg
 [⟨some 10, MOp.mv (Opd.s 4), none⟩,
 ⟨some 11, MOp.mv (Opd.s 10), none⟩,
 ⟨some 12, MOp.fa 0 (Opd.s 1), some (11, true)⟩,
 ⟨some 13, MOp.fa 0 (Opd.s 12), some (11, true)⟩,
 ⟨some 14, MOp.load none (Opd.s 13), some (11, true)⟩,
 ⟨some 15, MOp.bin .geq (Opd.s 14)
 (Opd.c (AV.int .i64 0)), some (11, true)⟩,
 ⟨some 16, MOp.pick (Opd.s 11) (Opd.s 15) (Opd.c (AV.bool false)), none⟩,
 ⟨some 17, MOp.mv (Opd.s 16), none⟩,
 ⟨some 18, MOp.fa 0 (Opd.s 1), some (17, true)⟩,
 ⟨some 19, MOp.fa 0 (Opd.s 18), some (17, true)⟩,
 ⟨some 20, MOp.load none (Opd.s 19), some (17, true)⟩,
 ⟨some 21, MOp.bin .leq (Opd.s 20)
 (Opd.c (AV.int .i64 127)), some (17, true)⟩,
 ⟨some 22, MOp.pick (Opd.s 17) (Opd.s 21) (Opd.c (AV.bool false)), none⟩,
 ⟨some 23, MOp.mv (Opd.s 22), none⟩,
 ⟨some 24, MOp.fa 0 (Opd.s 1), some (23, true)⟩,
 ⟨some 25, MOp.fa 1 (Opd.s 24), some (23, true)⟩,
 ⟨some 26, MOp.load none (Opd.s 25), some (23, true)⟩,
 ⟨some 27, MOp.bin .geq (Opd.s 26)
 (Opd.c (AV.int .i64 0)), some (23, true)⟩,
 ⟨some 28, MOp.pick (Opd.s 23) (Opd.s 27) (Opd.c (AV.bool false)), none⟩,
 ⟨some 29, MOp.mv (Opd.s 28), none⟩,
 ⟨some 30, MOp.fa 0 (Opd.s 1), some (29, true)⟩,
 ⟨some 31, MOp.fa 1 (Opd.s 30), some (29, true)⟩,
 ⟨some 32, MOp.load none (Opd.s 31), some (29, true)⟩,
 ⟨some 33, MOp.bin .leq (Opd.s 32)
 (Opd.c (AV.int .i64 255)), some (29, true)⟩,
 ⟨some 34, MOp.pick (Opd.s 29) (Opd.s 33) (Opd.c (AV.bool false)), none⟩,
 ⟨some 35, MOp.mv (Opd.s 34), none⟩,
 ⟨some 36, MOp.fa 8 (Opd.s 1), some (35, true)⟩,
 ⟨some 37, MOp.load none (Opd.s 36), some (35, true)⟩,
 ⟨some 38, MOp.lens (Opd.s 37), some (35, true)⟩,
 ⟨some 39, MOp.bin .leq (Opd.s 38)
 (Opd.c (AV.int .i64 64)), some (35, true)⟩,
 ⟨some 40, MOp.pick (Opd.s 35) (Opd.s 39) (Opd.c (AV.bool false)), none⟩,
 ⟨some 41, MOp.mv (Opd.s 40), none⟩,
 ⟨some 42, MOp.fa 3 (Opd.s 1), some (41, true)⟩,
 ⟨some 43, MOp.load none (Opd.s 42), some (41, true)⟩,
 ⟨some 44, MOp.bin .neq (Opd.s 43)
 (Opd.c (AV.int .i64 2)), some (41, true)⟩,
 ⟨some 45, MOp.mv (Opd.s 44), some (41, true)⟩,
 ⟨some 46, MOp.fa 8 (Opd.s 1), some (45, false)⟩,
 ⟨some 47, MOp.load none (Opd.s 46), some (45, false)⟩,
 ⟨some 48, MOp.bin .eql (Opd.s 47) (Opd.c (AV.str [])), some (45, false)⟩,
 ⟨some 49, MOp.pick (Opd.s 45) (Opd.c (AV.bool true)) (Opd.s 48), some (41, true)⟩,
 ⟨some 50, MOp.pick (Opd.s 41) (Opd.s 49) (Opd.c (AV.bool false)), none⟩,
 ⟨some 2, MOp.mv (Opd.s 50), none⟩]).seq
 MC.ret)) ⟩
def M42 : MFun :=
 ⟨35, [MRes.tmp 1 2, MRes.tmp 0 3], (MC.reg
 [⟨some 1, MOp.box (Opd.s 0), none⟩,
 ⟨some 2, MOp.mv (Opd.c AV.nils), none⟩,
 ⟨some 3, MOp.mv (Opd.c (AV.bool false)), none⟩]).seq
 (((MC.reg
 [⟨some 7, MOp.load (some 5) (Opd.s 1), none⟩,
 ⟨some 8, MOp.call 47 [(0, Opd.s 7)], none⟩,
 ⟨some 9, MOp.un .not (Opd.s 8), none⟩]).seq
 (MC.cond (Opd.s 9)
 ((MC.reg
 [⟨some 2, MOp.mv (Opd.c AV.nils), none⟩,
 ⟨some 3, MOp.mv (Opd.c (AV.bool false)), none⟩]).seq
 MC.ret)
 MC.skip)).seq
 ((MC.reg
 [⟨some 11, MOp.fa 3 (Opd.s 1), none⟩,
 ⟨some 12, MOp.load none (Opd.s 11), none⟩,
 ⟨some 13, MOp.call 35 [(0, Opd.s 12)], none⟩,
 ⟨some 10, MOp.mv (Opd.s 13), none⟩,
 ⟨some 14, MOp.ext 0 (Opd.s 10), none⟩,
 ⟨some 15, MOp.ext 1 (Opd.s 10), none⟩,
 ⟨some 4, MOp.mv (Opd.s 14), none⟩,
 ⟨some 5, MOp.mv (Opd.s 15), none⟩]).seq
 ((MC.reg
 [⟨some 16, MOp.fa 0 (Opd.s 1), none⟩,
 ⟨some 17, MOp.fa 0 (Opd.s 16), none⟩,
 ⟨some 18, MOp.load none (Opd.s 17), none⟩,
 ⟨some 19, MOp.bin .mul (Opd.s 18)
 (Opd.c (AV.int .i64 2)), none⟩,
 ⟨some 6, MOp.mv (Opd.s 19), none⟩]).seq
 (((MC.reg
 [⟨some 20, MOp.fa 2 (Opd.s 1), none⟩,
 ⟨some 21, MOp.load none (Opd.s 20), none⟩]).seq
 (MC.cond (Opd.s 21)
 (MC.reg
 [⟨some 22, MOp.mv (Opd.s 6), none⟩,
 ⟨some 23, MOp.bin .add (Opd.s 22)
 (Opd.c (AV.int .i64 1)), none⟩,
 ⟨some 6, MOp.mv (Opd.s 23), none⟩])
 MC.skip)).seq
 ((MC.reg
 [⟨some 24, MOp.mv (Opd.s 6), none⟩,
 ⟨some 25, MOp.conv (Cv.toInt .u8) (Opd.s 24), none⟩,
 ⟨some 26, MOp.fa 0 (Opd.s 1), none⟩,
 ⟨some 27, MOp.fa 1 (Opd.s 26), none⟩,
 ⟨some 28, MOp.load none (Opd.s 27), none⟩,
 ⟨some 29, MOp.conv (Cv.toInt .u8) (Opd.s 28), none⟩,
 ⟨some 30, MOp.mv (Opd.s 4), none⟩,
 ⟨some 31, MOp.bsl false 1 3
 [AV.int .u8 0, AV.int .u8 0,
 AV.int .u8 0]
 [(0, 1, Opd.s 25), (1, 1, Opd.s 29), (2, 1, Opd.s 30)], none⟩,
 ⟨some 32, MOp.fa 4 (Opd.s 1), none⟩,
 ⟨some 33, MOp.load none (Opd.s 32), none⟩,
 ⟨some 34, MOp.app false 1 1 (Opd.s 31) (Opd.s 33), none⟩,
 ⟨some 2, MOp.mv (Opd.s 34), none⟩,
 ⟨some 3, MOp.mv (Opd.c (AV.bool true)), none⟩]).seq
 MC.ret))))) ⟩
def M43 : MFun :=
 ⟨47, [MRes.cell 2 (some 5), MRes.tmp 0 3], (MC.reg
 [⟨some 2, MOp.alloc
 [AV.int .i64 0, AV.int .i64 0,
 AV.bool false, AV.nili, AV.str []], none⟩,
 ⟨some 3, MOp.mv (Opd.c (AV.bool false)), none⟩]).seq
 (((MC.reg
 [⟨some 7, MOp.mv (Opd.s 0), none⟩,
 ⟨some 8, MOp.len (Opd.s 7), none⟩,
 ⟨some 9, MOp.bin .lss (Opd.s 8)
 (Opd.c (AV.int .i64 3)), none⟩]).seq
 (MC.cond (Opd.s 9)
 ((MC.reg
 [⟨some 10, MOp.build
 [AV.int .i64 0, AV.int .i64 0,
 AV.bool false, AV.nili, AV.str []]
 [], none⟩,
 ⟨none, MOp.store 5 (Opd.s 2) (Opd.s 10), none⟩,
 ⟨some 3, MOp.mv (Opd.c (AV.bool false)), none⟩]).seq
 MC.ret)
 MC.skip)).seq
 ((MC.reg
 [⟨some 12, MOp.mv (Opd.s 0), none⟩,
 ⟨some 13, MOp.ixa 1 (Opd.s 12) (Opd.c (AV.int .i64 2)), none⟩,
 ⟨some 14, MOp.load none (Opd.s 13), none⟩,
 ⟨some 15, MOp.call 37 [(0, Opd.s 14)], none⟩,
 ⟨some 11, MOp.mv (Opd.s 15), none⟩,
 ⟨some 16, MOp.ext 0 (Opd.s 11), none⟩,
 ⟨some 17, MOp.ext 1 (Opd.s 11), none⟩,
 ⟨some 4, MOp.mv (Opd.s 16), none⟩,
 ⟨some 5, MOp.mv (Opd.s 17), none⟩]).seq
 ((MC.draw
 [⟨some 18, MOp.mv (Opd.s 0), none⟩,
 ⟨some 19, MOp.ixa 1 (Opd.s 18) (Opd.c (AV.int .i64 0)), none⟩,
 ⟨some 20, MOp.load none (Opd.s 19), none⟩,
 ⟨some 21, MOp.bin .quo (Opd.s 20)
 (Opd.c (AV.int .u8 2)), none⟩,
 ⟨some 22, MOp.conv (Cv.toInt .i64) (Opd.s 21), none⟩,
 ⟨some 23, MOp.mv (Opd.s 0), none⟩,
 ⟨some 24, MOp.ixa 1 (Opd.s 23) (Opd.c (AV.int .i64 1)), none⟩,
 ⟨some 25, MOp.load none (Opd.s 24), none⟩,
 ⟨some 26, MOp.conv (Cv.toInt .i64) (Opd.s 25), none⟩,
 ⟨some 27, MOp.build
 [AV.int .i64 0, AV.int .i64 0]
 [(0, 1, Opd.s 22), (1, 1, Opd.s 26)], none⟩,
 ⟨some 28, MOp.mv (Opd.s 0), none⟩,
 ⟨some 29, MOp.ixa 1 (Opd.s 28) (Opd.c (AV.int .i64 0)), none⟩,
 ⟨some 30, MOp.load none (Opd.s 29), none⟩,
 ⟨some 31, MOp.bin .rem (Opd.s 30)
 (Opd.c (AV.int .u8 2)), none⟩,
 ⟨some 32, MOp.bin .eql (Opd.s 31)
 (Opd.c (AV.int .u8 1)), none⟩,
 ⟨some 33, MOp.mv (Opd.s 4), none⟩,
 ⟨some 34, MOp.mv (Opd.s 0), none⟩,
 ⟨some 35, MOp.slc 1 (Opd.s 34)
 (some (Opd.c (AV.int .i64 3))) none, none⟩,
 ⟨some 36, MOp.conv Cv.b2s (Opd.s 35), none⟩,
 ⟨some 37, MOp.build
 [AV.int .i64 0, AV.int .i64 0,
 AV.bool false, AV.nili, AV.str []]
 [(0, 2, Opd.s 27), (2, 1, Opd.s 32), (3, 1, Opd.s 33),
 (4, 1, Opd.s 36)], none⟩,
 ⟨some 6, MOp.alloc
 [AV.int .i64 0, AV.int .i64 0,
 AV.bool false, AV.nili, AV.str []], none⟩,
 ⟨none, MOp.store 5 (Opd.s 6) (Opd.s 37), none⟩]
 [0, 1, 3, 7, 15, 0, 32, 96, 224, 511, 0, 1024, 3072, 7168, 15360, 0, 0, 65536, 196608, 524287, 0,
 2097151]).seq
 (((MC.reg
 [⟨some 38, MOp.mv (Opd.s 5), none⟩,
 ⟨some 39, MOp.un .not (Opd.s 38), none⟩,
 ⟨some 40, MOp.mv (Opd.s 39), none⟩,
 ⟨some 41, MOp.load (some 5) (Opd.s 6), some (40, false)⟩,
 ⟨some 42, MOp.call 47 [(0, Opd.s 41)], some (40, false)⟩,
 ⟨some 43, MOp.un .not (Opd.s 42), some (40, false)⟩,
 ⟨some 44, MOp.pick (Opd.s 40) (Opd.c (AV.bool true)) (Opd.s 43), none⟩]).seq
 (MC.cond (Opd.s 44)
 ((MC.reg
 [⟨some 45, MOp.build
 [AV.int .i64 0,
 AV.int .i64 0, AV.bool false,
 AV.nili, AV.str []]
 [], none⟩,
 ⟨none, MOp.store 5 (Opd.s 2) (Opd.s 45), none⟩,
 ⟨some 3, MOp.mv (Opd.c (AV.bool false)), none⟩]).seq
 MC.ret)
 MC.skip)).seq
 ((MC.reg
 [⟨some 46, MOp.load (some 5) (Opd.s 6), none⟩,
 ⟨none, MOp.store 5 (Opd.s 2) (Opd.s 46), none⟩,
 ⟨some 3, MOp.mv (Opd.c (AV.bool true)), none⟩]).seq
 MC.ret))))) ⟩
def M44 : MFun :=
 ⟨30, [MRes.tmp 1 2], (MC.reg
 [⟨some 1, MOp.box (Opd.s 0), none⟩,
 ⟨some 2, MOp.mv (Opd.c AV.nils), none⟩]).seq
 ((MC.reg
 [⟨some 7, MOp.load (some 9) (Opd.s 1), none⟩,
 ⟨some 8, MOp.call 34 [(0, Opd.s 7)], none⟩,
 ⟨some 6, MOp.mv (Opd.s 8), none⟩,
 ⟨some 9, MOp.ext 0 (Opd.s 6), none⟩,
 ⟨some 10, MOp.ext 1 (Opd.s 6), none⟩,
 ⟨some 3, MOp.mv (Opd.s 9), none⟩,
 ⟨some 4, MOp.mv (Opd.s 10), none⟩]).seq
 ((MC.reg
 [⟨some 11, MOp.fa 0 (Opd.s 1), none⟩,
 ⟨some 12, MOp.fa 0 (Opd.s 11), none⟩,
 ⟨some 13, MOp.load none (Opd.s 12), none⟩,
 ⟨some 14, MOp.bin .mul (Opd.s 13)
 (Opd.c (AV.int .i64 2)), none⟩,
 ⟨some 5, MOp.mv (Opd.s 14), none⟩]).seq
 (((MC.reg
 [⟨some 15, MOp.fa 2 (Opd.s 1), none⟩,
 ⟨some 16, MOp.load none (Opd.s 15), none⟩]).seq
 (MC.cond (Opd.s 16)
 (MC.reg
 [⟨some 17, MOp.mv (Opd.s 5), none⟩,
 ⟨some 18, MOp.bin .add (Opd.s 17)
 (Opd.c (AV.int .i64 1)), none⟩,
 ⟨some 5, MOp.mv (Opd.s 18), none⟩])
 MC.skip)).seq
 ((MC.reg
 [⟨some 19, MOp.mv (Opd.s 5), none⟩,
 ⟨some 20, MOp.conv (Cv.toInt .u8) (Opd.s 19), none⟩,
 ⟨some 21, MOp.fa 0 (Opd.s 1), none⟩,
 ⟨some 22, MOp.fa 1 (Opd.s 21), none⟩,
 ⟨some 23, MOp.load none (Opd.s 22), none⟩,
 ⟨some 24, MOp.conv (Cv.toInt .u8) (Opd.s 23), none⟩,
 ⟨some 25, MOp.mv (Opd.s 3), none⟩,
 ⟨some 26, MOp.bsl false 1 3
 [AV.int .u8 0, AV.int .u8 0,
 AV.int .u8 0]
 [(0, 1, Opd.s 20), (1, 1, Opd.s 24), (2, 1, Opd.s 25)], none⟩,
 ⟨some 27, MOp.fa 8 (Opd.s 1), none⟩,
 ⟨some 28, MOp.load none (Opd.s 27), none⟩,
 ⟨some 29, MOp.app false 1 1 (Opd.s 26) (Opd.s 28), none⟩,
 ⟨some 2, MOp.mv (Opd.s 29), none⟩]).seq
 MC.ret)))) ⟩
def M45 : MFun :=
 ⟨31, [MRes.tmp 0 4], (MC.reg
 [⟨some 2, MOp.box (Opd.s 0), none⟩,
 ⟨some 3, MOp.box (Opd.s 1), none⟩,
 ⟨some 4, MOp.mv (Opd.c (AV.bool false)), none⟩]).seq
 ((MC.reg
 [⟨some 5, MOp.fa 0 (Opd.s 2), none⟩,
 ⟨some 6, MOp.load (some 2) (Opd.s 5), none⟩,
 ⟨some 7, MOp.fa 0 (Opd.s 3), none⟩,
 ⟨some 8, MOp.load (some 2) (Opd.s 7), none⟩,
 ⟨some 9, MOp.eqv false (EqK.flat (EqF.many [SK.i, SK.i])) (Opd.s 6)
 (Opd.s 8), none⟩,
 ⟨some 10, MOp.mv (Opd.s 9), none⟩,
 ⟨some 11, MOp.fa 2 (Opd.s 2), some (10, true)⟩,
 ⟨some 12, MOp.load none (Opd.s 11), some (10, true)⟩,
 ⟨some 13, MOp.fa 2 (Opd.s 3), some (10, true)⟩,
 ⟨some 14, MOp.load none (Opd.s 13), some (10, true)⟩,
 ⟨some 15, MOp.eqv false (EqK.flat (EqF.one SK.b)) (Opd.s 12)
 (Opd.s 14), some (10, true)⟩,
 ⟨some 16, MOp.pick (Opd.s 10) (Opd.s 15) (Opd.c (AV.bool false)), none⟩,
 ⟨some 17, MOp.mv (Opd.s 16), none⟩,
 ⟨some 18, MOp.fa 4 (Opd.s 2), some (17, true)⟩,
 ⟨some 19, MOp.load none (Opd.s 18), some (17, true)⟩,
 ⟨some 20, MOp.fa 4 (Opd.s 3), some (17, true)⟩,
 ⟨some 21, MOp.load none (Opd.s 20), some (17, true)⟩,
 ⟨some 22, MOp.bin .eql (Opd.s 19) (Opd.s 21), some (17, true)⟩,
 ⟨some 23, MOp.pick (Opd.s 17) (Opd.s 22) (Opd.c (AV.bool false)), none⟩,
 ⟨some 24, MOp.mv (Opd.s 23), none⟩,
 ⟨some 25, MOp.fa 3 (Opd.s 2), some (24, true)⟩,
 ⟨some 26, MOp.load none (Opd.s 25), some (24, true)⟩,
 ⟨some 27, MOp.fa 3 (Opd.s 3), some (24, true)⟩,
 ⟨some 28, MOp.load none (Opd.s 27), some (24, true)⟩,
 ⟨some 29, MOp.call 71 [(0, Opd.s 26), (0, Opd.s 28)], some (24, true)⟩,
 ⟨some 30, MOp.pick (Opd.s 24) (Opd.s 29) (Opd.c (AV.bool false)), none⟩,
 ⟨some 4, MOp.mv (Opd.s 30), none⟩]).seq
 MC.ret) ⟩
def M48 : MFun :=
 ⟨12, [MRes.tmp 1 4], (MC.reg
 [⟨some 4, MOp.mv (Opd.c AV.nils), none⟩]).seq
 ((MC.reg
 [⟨some 5, MOp.mv (Opd.s 0), none⟩,
 ⟨some 6, MOp.mv (Opd.s 0), none⟩,
 ⟨some 7, MOp.len (Opd.s 6), none⟩,
 ⟨some 8, MOp.mv (Opd.s 1), none⟩,
 ⟨some 9, MOp.mn [Opd.s 7, Opd.s 8], none⟩,
 ⟨some 10, MOp.slc 1 (Opd.s 5) none (some (Opd.s 9)), none⟩,
 ⟨some 11, MOp.app false 1 1 (Opd.c AV.nils) (Opd.s 10), none⟩,
 ⟨some 4, MOp.mv (Opd.s 11), none⟩]).seq
 MC.ret) ⟩
def M49 : MFun :=
 ⟨47, [MRes.cell 2 (some 9), MRes.tmp 0 3], (MC.reg
 [⟨some 2, MOp.alloc
 [AV.int .i64 0, AV.int .i64 0,
 AV.bool false, AV.int .i64 0,
 AV.int .i64 0, AV.int .i64 0,
 AV.int .i64 0, AV.bool false, AV.str []], none⟩,
 ⟨some 3, MOp.mv (Opd.c (AV.bool false)), none⟩]).seq
 (((MC.reg
 [⟨some 6, MOp.mv (Opd.s 0), none⟩,
 ⟨some 7, MOp.len (Opd.s 6), none⟩,
 ⟨some 8, MOp.bin .lss (Opd.s 7)
 (Opd.c (AV.int .i64 3)), none⟩]).seq
 (MC.cond (Opd.s 8)
 ((MC.reg
 [⟨some 9, MOp.build
 [AV.int .i64 0, AV.int .i64 0,
 AV.bool false, AV.int .i64 0,
 AV.int .i64 0, AV.int .i64 0,
 AV.int .i64 0, AV.bool false, AV.str []]
 [], none⟩,
 ⟨none, MOp.store 9 (Opd.s 2) (Opd.s 9), none⟩,
 ⟨some 3, MOp.mv (Opd.c (AV.bool false)), none⟩]).seq
 MC.ret)
 MC.skip)).seq
 ((MC.reg
 [⟨some 11, MOp.mv (Opd.s 0), none⟩,
 ⟨some 12, MOp.ixa 1 (Opd.s 11) (Opd.c (AV.int .i64 2)), none⟩,
 ⟨some 13, MOp.load none (Opd.s 12), none⟩,
 ⟨some 14, MOp.call 39 [(0, Opd.s 13)], none⟩,
 ⟨some 10, MOp.mv (Opd.s 14), none⟩,
 ⟨some 15, MOp.ext 0 (Opd.s 10), none⟩,
 ⟨some 16, MOp.ext 1 (Opd.s 10), none⟩,
 ⟨some 4, MOp.alloc
 [AV.int .i64 0, AV.int .i64 0,
 AV.bool false, AV.int .i64 0,
 AV.int .i64 0, AV.int .i64 0,
 AV.int .i64 0, AV.bool false, AV.str []], none⟩,
 ⟨none, MOp.store 9 (Opd.s 4) (Opd.s 15), none⟩,
 ⟨some 5, MOp.mv (Opd.s 16), none⟩]).seq
 ((MC.draw
 [⟨some 17, MOp.mv (Opd.s 0), none⟩,
 ⟨some 18, MOp.ixa 1 (Opd.s 17) (Opd.c (AV.int .i64 0)), none⟩,
 ⟨some 19, MOp.load none (Opd.s 18), none⟩,
 ⟨some 20, MOp.conv (Cv.toInt .i64) (Opd.s 19), none⟩,
 ⟨some 21, MOp.bin .quo (Opd.s 20)
 (Opd.c (AV.int .i64 2)), none⟩,
 ⟨some 22, MOp.mv (Opd.s 0), none⟩,
 ⟨some 23, MOp.ixa 1 (Opd.s 22) (Opd.c (AV.int .i64 1)), none⟩,
 ⟨some 24, MOp.load none (Opd.s 23), none⟩,
 ⟨some 25, MOp.conv (Cv.toInt .i64) (Opd.s 24), none⟩,
 ⟨some 26, MOp.build
 [AV.int .i64 0, AV.int .i64 0]
 [(0, 1, Opd.s 21), (1, 1, Opd.s 25)], none⟩,
 ⟨some 27, MOp.mv (Opd.s 0), none⟩,
 ⟨some 28, MOp.ixa 1 (Opd.s 27) (Opd.c (AV.int .i64 0)), none⟩,
 ⟨some 29, MOp.load none (Opd.s 28), none⟩,
 ⟨some 30, MOp.bin .rem (Opd.s 29)
 (Opd.c (AV.int .u8 2)), none⟩,
 ⟨some 31, MOp.bin .eql (Opd.s 30)
 (Opd.c (AV.int .u8 1)), none⟩,
 ⟨some 32, MOp.mv (Opd.s 0), none⟩,
 ⟨some 33, MOp.slc 1 (Opd.s 32)
 (some (Opd.c (AV.int .i64 3))) none, none⟩,
 ⟨some 34, MOp.conv Cv.b2s (Opd.s 33), none⟩,
 ⟨some 35, MOp.fa 0 (Opd.s 4), none⟩,
 ⟨none, MOp.store 2 (Opd.s 35) (Opd.s 26), none⟩,
 ⟨some 36, MOp.fa 2 (Opd.s 4), none⟩,
 ⟨none, MOp.store 1 (Opd.s 36) (Opd.s 31), none⟩,
 ⟨some 37, MOp.fa 8 (Opd.s 4), none⟩,
 ⟨none, MOp.store 1 (Opd.s 37) (Opd.s 34), none⟩]
 [0, 1, 3, 7, 15, 0, 32, 96, 224, 511, 0, 1024, 3072, 7168, 15360, 0, 32768, 98304, 1023, 263167,
 819199, 1867775, 4194303, 8388607]).seq
 (((MC.reg
 [⟨some 38, MOp.mv (Opd.s 5), none⟩,
 ⟨some 39, MOp.un .not (Opd.s 38), none⟩,
 ⟨some 40, MOp.mv (Opd.s 39), none⟩,
 ⟨some 41, MOp.load (some 9) (Opd.s 4), some (40, false)⟩,
 ⟨some 42, MOp.call 41 [(0, Opd.s 41)], some (40, false)⟩,
 ⟨some 43, MOp.un .not (Opd.s 42), some (40, false)⟩,
 ⟨some 44, MOp.pick (Opd.s 40) (Opd.c (AV.bool true)) (Opd.s 43), none⟩]).seq
 (MC.cond (Opd.s 44)
 ((MC.reg
 [⟨some 45, MOp.build
 [AV.int .i64 0,
 AV.int .i64 0, AV.bool false,
 AV.int .i64 0,
 AV.int .i64 0,
 AV.int .i64 0,
 AV.int .i64 0, AV.bool false,
 AV.str []]
 [], none⟩,
 ⟨none, MOp.store 9 (Opd.s 2) (Opd.s 45), none⟩,
 ⟨some 3, MOp.mv (Opd.c (AV.bool false)), none⟩]).seq
 MC.ret)
 MC.skip)).seq
 ((MC.reg
 [⟨some 46, MOp.load (some 9) (Opd.s 4), none⟩,
 ⟨none, MOp.store 9 (Opd.s 2) (Opd.s 46), none⟩,
 ⟨some 3, MOp.mv (Opd.c (AV.bool true)), none⟩]).seq
 MC.ret))))) ⟩
def M67 : MFun :=
 ⟨2, [MRes.tmp 1 0], (MC.reg
 [⟨some 0, MOp.mv (Opd.c AV.nils), none⟩]).seq
 ((MC.reg
 [⟨some 1, MOp.bsl false 1 8
 [AV.int .i64 0, AV.int .i64 0,
 AV.int .i64 0, AV.int .i64 0,
 AV.int .i64 0, AV.int .i64 0,
 AV.int .i64 0, AV.int .i64 0]
 [(0, 1, Opd.c (AV.int .i64 0)),
 (1, 1, Opd.c (AV.int .i64 47)),
 (2, 1, Opd.c (AV.int .i64 131)),
 (3, 1, Opd.c (AV.int .i64 99)),
 (4, 1, Opd.c (AV.int .i64 15)),
 (5, 1, Opd.c (AV.int .i64 67)),
 (6, 1, Opd.c (AV.int .i64 139)),
 (7, 1, Opd.c (AV.int .i64 143))], none⟩,
 ⟨some 0, MOp.mv (Opd.s 1), none⟩]).seq
 MC.ret) ⟩
def M70b0 : MC :=
 ((MC.reg
 [⟨some 9, MOp.bin .lss (Opd.s 8) (Opd.s 7), none⟩]).seq
 ((MC.cond (Opd.s 9) MC.skip (MC.exit 0)).seq
 ((MC.block 1
 ((MC.reg
 [⟨some 10, MOp.mv (Opd.s 8), none⟩,
 ⟨some 5, MOp.mv (Opd.s 10), none⟩]).seq
 ((MC.reg
 [⟨some 11, MOp.mv (Opd.s 1), none⟩,
 ⟨some 12, MOp.mv (Opd.s 0), none⟩,
 ⟨some 13, MOp.mv (Opd.s 5), none⟩,
 ⟨some 14, MOp.ixa 1 (Opd.s 12) (Opd.s 13), none⟩,
 ⟨some 15, MOp.load none (Opd.s 14), none⟩,
 ⟨some 16, MOp.bin .eql (Opd.s 11) (Opd.s 15), none⟩]).seq
 (MC.cond (Opd.s 16)
 ((MC.reg
 [⟨some 17, MOp.mv (Opd.s 5), none⟩,
 ⟨some 4, MOp.mv (Opd.s 17), none⟩]).seq
 MC.ret)
 MC.skip)))).seq
 (MC.reg
 [⟨some 18, MOp.bin .add (Opd.s 8)
 (Opd.c (AV.int .i64 1)), none⟩,
 ⟨some 8, MOp.mv (Opd.s 18), none⟩]))))
def M70b0l : List Bool := [true, true, false, false, false, false, false, true, true, false, false, false, false, false, false, false, false, false, false]
def M70 : MFun :=
 ⟨19, [MRes.tmp 0 4], (MC.reg
 [⟨some 4, MOp.mv (Opd.c (AV.int .i64 0)), none⟩]).seq
 (((MC.reg
 [⟨some 6, MOp.mv (Opd.s 0), none⟩,
 ⟨some 7, MOp.len (Opd.s 6), none⟩,
 ⟨some 8, MOp.mv (Opd.c (AV.int .i64 0)), none⟩]).seq
 (MC.block 0
 (MC.loop M70b0l M70b0))).seq
 ((MC.reg
 [⟨some 4, MOp.mv (Opd.c (AV.int .i64 (-1))), none⟩]).seq
 MC.ret)) ⟩
def M71 : MFun :=
 ⟨57, [MRes.tmp 0 4], (MC.reg
 [⟨some 4, MOp.mv (Opd.c (AV.bool false)), none⟩]).seq
 (((MC.reg [⟨some 14, MOp.mv (Opd.s 0), none⟩]).seq
 (MC.block 0
 ((MC.reg
 [⟨some 15, MOp.tas 64
 (AV.agg
 [AV.int .i64 0, AV.int .i64 0,
 AV.bool false])
 true (Opd.s 14), none⟩,
 ⟨some 16, MOp.ext 1 (Opd.s 15), none⟩,
 ⟨some 17, MOp.ext 0 (Opd.s 15), none⟩]).seq
 (MC.cond (Opd.s 16)
 ((MC.reg
 [⟨some 5, MOp.alloc
 [AV.int .i64 0, AV.int .i64 0,
 AV.bool false], none⟩,
 ⟨none, MOp.store 3 (Opd.s 5) (Opd.s 17), none⟩]).seq
 ((MC.reg
 [⟨some 19, MOp.mv (Opd.s 1), none⟩,
 ⟨some 20, MOp.tas 64
 (AV.agg
 [AV.int .i64 0,
 AV.int .i64 0, AV.bool false])
 true (Opd.s 19), none⟩,
 ⟨some 18, MOp.mv (Opd.s 20), none⟩,
 ⟨some 21, MOp.ext 0 (Opd.s 18), none⟩,
 ⟨some 22, MOp.ext 1 (Opd.s 18), none⟩,
 ⟨some 6, MOp.alloc
 [AV.int .i64 0,
 AV.int .i64 0, AV.bool false], none⟩,
 ⟨none, MOp.store 3 (Opd.s 6) (Opd.s 21), none⟩,
 ⟨some 7, MOp.mv (Opd.s 22), none⟩]).seq
 ((MC.reg
 [⟨some 23, MOp.mv (Opd.s 7), none⟩,
 ⟨some 24, MOp.mv (Opd.s 23), none⟩,
 ⟨some 25, MOp.load (some 3) (Opd.s 5), some (24, true)⟩,
 ⟨some 26, MOp.load (some 3) (Opd.s 6), some (24, true)⟩,
 ⟨some 27, MOp.eqv false
 (EqK.flat (EqF.many [SK.i, SK.i, SK.b]))
 (Opd.s 25) (Opd.s 26), some (24, true)⟩,
 ⟨some 28, MOp.pick (Opd.s 24) (Opd.s 27)
 (Opd.c (AV.bool false)), none⟩,
 ⟨some 4, MOp.mv (Opd.s 28), none⟩]).seq
 MC.ret)))
 ((MC.reg
 [⟨some 29, MOp.tas 84
 (AV.agg
 [AV.int .i64 0,
 AV.int .i64 0, AV.bool false])
 true (Opd.s 14), none⟩,
 ⟨some 30, MOp.ext 1 (Opd.s 29), none⟩,
 ⟨some 31, MOp.ext 0 (Opd.s 29), none⟩]).seq
 (MC.cond (Opd.s 30)
 ((MC.reg
 [⟨some 8, MOp.alloc
 [AV.int .i64 0,
 AV.int .i64 0, AV.bool false], none⟩,
 ⟨none, MOp.store 3 (Opd.s 8) (Opd.s 31), none⟩]).seq
 ((MC.reg
 [⟨some 33, MOp.mv (Opd.s 1), none⟩,
 ⟨some 34, MOp.tas 84
 (AV.agg
 [AV.int .i64 0,
 AV.int .i64 0, AV.bool false])
 true (Opd.s 33), none⟩,
 ⟨some 32, MOp.mv (Opd.s 34), none⟩,
 ⟨some 35, MOp.ext 0 (Opd.s 32), none⟩,
 ⟨some 36, MOp.ext 1 (Opd.s 32), none⟩,
 ⟨some 9, MOp.alloc
 [AV.int .i64 0,
 AV.int .i64 0, AV.bool false], none⟩,
 ⟨none, MOp.store 3 (Opd.s 9) (Opd.s 35), none⟩,
 ⟨some 10, MOp.mv (Opd.s 36), none⟩]).seq
 ((MC.reg
 [⟨some 37, MOp.mv (Opd.s 10), none⟩,
 ⟨some 38, MOp.mv (Opd.s 37), none⟩,
 ⟨some 39, MOp.load (some 3) (Opd.s 8), some (38, true)⟩,
 ⟨some 40, MOp.load (some 3) (Opd.s 9), some (38, true)⟩,
 ⟨some 41, MOp.eqv false
 (EqK.flat (EqF.many [SK.i, SK.i, SK.b]))
 (Opd.s 39) (Opd.s 40), some (38, true)⟩,
 ⟨some 42, MOp.pick (Opd.s 38) (Opd.s 41)
 (Opd.c (AV.bool false)), none⟩,
 ⟨some 4, MOp.mv (Opd.s 42), none⟩]).seq
 MC.ret)))
 ((MC.reg
 [⟨some 43, MOp.tas 86
 (AV.agg
 [AV.int .i64 0, AV.bool false])
 true (Opd.s 14), none⟩,
 ⟨some 44, MOp.ext 1 (Opd.s 43), none⟩,
 ⟨some 45, MOp.ext 0 (Opd.s 43), none⟩]).seq
 (MC.cond (Opd.s 44)
 ((MC.reg
 [⟨some 11, MOp.alloc
 [AV.int .i64 0, AV.bool false], none⟩,
 ⟨none, MOp.store 2 (Opd.s 11) (Opd.s 45), none⟩]).seq
 ((MC.reg
 [⟨some 47, MOp.mv (Opd.s 1), none⟩,
 ⟨some 48, MOp.tas 86
 (AV.agg
 [AV.int .i64 0, AV.bool false])
 true (Opd.s 47), none⟩,
 ⟨some 46, MOp.mv (Opd.s 48), none⟩,
 ⟨some 49, MOp.ext 0 (Opd.s 46), none⟩,
 ⟨some 50, MOp.ext 1 (Opd.s 46), none⟩,
 ⟨some 12, MOp.alloc
 [AV.int .i64 0, AV.bool false], none⟩,
 ⟨none, MOp.store 2 (Opd.s 12) (Opd.s 49), none⟩,
 ⟨some 13, MOp.mv (Opd.s 50), none⟩]).seq
 ((MC.reg
 [⟨some 51, MOp.mv (Opd.s 13), none⟩,
 ⟨some 52, MOp.mv (Opd.s 51), none⟩,
 ⟨some 53, MOp.load (some 2) (Opd.s 11), some (52, true)⟩,
 ⟨some 54, MOp.load (some 2) (Opd.s 12), some (52, true)⟩,
 ⟨some 55, MOp.eqv false
 (EqK.flat (EqF.many [SK.i, SK.b]))
 (Opd.s 53) (Opd.s 54), some (52, true)⟩,
 ⟨some 56, MOp.pick (Opd.s 52) (Opd.s 55)
 (Opd.c (AV.bool false)), none⟩,
 ⟨some 4, MOp.mv (Opd.s 56), none⟩]).seq
 MC.ret)))
 MC.skip)))))))).seq
 ((MC.reg
 [⟨some 4, MOp.mv (Opd.c (AV.bool false)), none⟩]).seq
 MC.ret)) ⟩
theorem tab21 : tableOf Tryd.prog 21 = some M21 := by kernel_rfl
theorem tab32 : tableOf Tryd.prog 32 = some M32 := by kernel_rfl
theorem tab34 : tableOf Tryd.prog 34 = some M34 := by kernel_rfl
theorem tab37 : tableOf Tryd.prog 37 = some M37 := by kernel_rfl
theorem tab39 : tableOf Tryd.prog 39 = some M39 := by kernel_rfl
theorem tab41 : tableOf Tryd.prog 41 = some M41 := by kernel_rfl
theorem tab42 : tableOf Tryd.prog 42 = some M42 := by kernel_rfl
theorem tab43 : tableOf Tryd.prog 43 = some M43 := by kernel_rfl
theorem tab44 : tableOf Tryd.prog 44 = some M44 := by kernel_rfl
theorem tab45 : tableOf Tryd.prog 45 = some M45 := by kernel_rfl
theorem tab48 : tableOf Tryd.prog 48 = some M48 := by kernel_rfl
theorem tab49 : tableOf Tryd.prog 49 = some M49 := by kernel_rfl
theorem tab67 : tableOf Tryd.prog 67 = some M67 := by kernel_rfl
theorem tab70 : tableOf Tryd.prog 70 = some M70 := by kernel_rfl
theorem tab71 : tableOf Tryd.prog 71 = some M71 := by kernel_rfl
end Go.Proofs.YthcblggiojpmcaaDoor
