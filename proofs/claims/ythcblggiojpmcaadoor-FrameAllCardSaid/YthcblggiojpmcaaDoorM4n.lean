/- Functions of the program in the evaluator's form, written out by a program. No conditions. -/
import Derived.Test.YthcblggiojpmcaaDoorM4
set_option linter.unusedVariables false
namespace Go.Proofs.YthcblggiojpmcaaDoor
open Go Go.Ab
def M11 : MFun :=
 ⟨45, [MRes.tmp 0 2], (MC.reg
 [⟨some 2, MOp.mv (Opd.c (AV.bool false)), none⟩]).seq
 ((MC.reg
 [⟨some 6, MOp.call 20 [], none⟩,
 ⟨some 3, MOp.mv (Opd.s 6), none⟩]).seq
 (((MC.reg
 [⟨some 7, MOp.mv (Opd.s 3), none⟩,
 ⟨some 8, MOp.un .not (Opd.s 7), none⟩]).seq
 (MC.cond (Opd.s 8)
 ((MC.reg
 [⟨some 2, MOp.mv (Opd.c (AV.bool false)), none⟩]).seq
 MC.ret)
 MC.skip)).seq
 ((MC.reg
 [⟨some 9, MOp.mv (Opd.s 0), none⟩,
 ⟨some 10, MOp.call 30 [(0, Opd.s 9)], none⟩,
 ⟨some 4, MOp.mv (Opd.s 10), none⟩]).seq
 ((MC.reg
 [⟨some 11, MOp.mv (Opd.s 0), none⟩,
 ⟨some 12, MOp.conv Cv.itos (Opd.s 11), none⟩,
 ⟨some 5, MOp.mv (Opd.s 12), none⟩]).seq
 (((MC.reg
 [⟨some 13, MOp.mv (Opd.s 4), none⟩,
 ⟨some 14, MOp.mv (Opd.s 0), none⟩,
 ⟨some 15, MOp.conv (Cv.toInt .i64) (Opd.s 14), none⟩,
 ⟨some 16, MOp.call 31 [(0, Opd.s 15)], none⟩,
 ⟨some 17, MOp.bin .neq (Opd.s 13) (Opd.s 16), none⟩,
 ⟨some 18, MOp.mv (Opd.s 17), none⟩,
 ⟨some 19, MOp.mv (Opd.s 5), some (18, false)⟩,
 ⟨some 20, MOp.call 24 [(0, Opd.s 19)], some (18, false)⟩,
 ⟨some 21, MOp.bin .neq (Opd.s 20)
 (Opd.c (AV.int .i64 1)), some (18, false)⟩,
 ⟨some 22, MOp.pick (Opd.s 18) (Opd.c (AV.bool true))
 (Opd.s 21), none⟩]).seq
 (MC.cond (Opd.s 22)
 ((MC.reg
 [⟨some 2, MOp.mv (Opd.c (AV.bool false)), none⟩]).seq
 MC.ret)
 MC.skip)).seq
 ((MC.reg
 [⟨some 23, MOp.mv (Opd.s 5), none⟩,
 ⟨some 24, MOp.call 22 [(0, Opd.s 23)], none⟩,
 ⟨some 25, MOp.mv (Opd.s 4), none⟩,
 ⟨some 26, MOp.bin .gtr (Opd.s 25)
 (Opd.c (AV.int .i64 0)), none⟩,
 ⟨some 27, MOp.eqv false (EqK.flat (EqF.one SK.b)) (Opd.s 24)
 (Opd.s 26), none⟩,
 ⟨some 28, MOp.mv (Opd.s 27), none⟩,
 ⟨some 29, MOp.mv (Opd.s 5), some (28, true)⟩,
 ⟨some 30, MOp.call 28 [(0, Opd.s 29)], some (28, true)⟩,
 ⟨some 31, MOp.mv (Opd.s 5), some (28, true)⟩,
 ⟨some 32, MOp.bin .eql (Opd.s 30) (Opd.s 31), some (28, true)⟩,
 ⟨some 33, MOp.mv (Opd.s 4), some (28, true)⟩,
 ⟨some 34, MOp.bin .geq (Opd.s 33)
 (Opd.c (AV.int .i64 1)), some (28, true)⟩,
 ⟨some 35, MOp.mv (Opd.s 34), some (28, true)⟩,
 ⟨some 36, MOp.mv (Opd.s 4), some (35, true)⟩,
 ⟨some 37, MOp.bin .leq (Opd.s 36)
 (Opd.c (AV.int .i64 3)), some (35, true)⟩,
 ⟨some 38, MOp.pick (Opd.s 35) (Opd.s 37) (Opd.c (AV.bool false)), some (28, true)⟩,
 ⟨some 39, MOp.mv (Opd.s 38), some (28, true)⟩,
 ⟨some 40, MOp.mv (Opd.s 5), some (39, false)⟩,
 ⟨some 41, MOp.bin .eql (Opd.s 40)
 (Opd.c (AV.str [(63 : UInt8)])), some (39, false)⟩,
 ⟨some 42, MOp.pick (Opd.s 39) (Opd.c (AV.bool true)) (Opd.s 41), some (28, true)⟩,
 ⟨some 43, MOp.eqv false (EqK.flat (EqF.one SK.b)) (Opd.s 32)
 (Opd.s 42), some (28, true)⟩,
 ⟨some 44, MOp.pick (Opd.s 28) (Opd.s 43) (Opd.c (AV.bool false)), none⟩,
 ⟨some 2, MOp.mv (Opd.s 44), none⟩]).seq
 MC.ret)))))) ⟩
def M22b0 : MC :=
 ((MC.reg
 [⟨some 7, MOp.nxt (Opd.s 6), none⟩,
 ⟨some 8, MOp.ext 0 (Opd.s 7), none⟩]).seq
 ((MC.cond (Opd.s 8) MC.skip (MC.exit 0)).seq
 (MC.block 1
 ((MC.reg
 [⟨some 9, MOp.ext 2 (Opd.s 7), none⟩,
 ⟨some 4, MOp.mv (Opd.s 9), none⟩]).seq
 ((MC.reg
 [⟨some 10, MOp.mv (Opd.s 4), none⟩,
 ⟨some 11, MOp.call 30 [(0, Opd.s 10)], none⟩,
 ⟨some 12, MOp.bin .eql (Opd.s 11)
 (Opd.c (AV.int .i64 0)), none⟩]).seq
 (MC.cond (Opd.s 12)
 ((MC.reg
 [⟨some 2, MOp.mv (Opd.c (AV.bool false)), none⟩]).seq
 MC.ret)
 MC.skip))))))
def M22b0l : List Bool := [true, false, false, false, false, false, true, false, false, false, false, false, false, false, false, false]
def M22 : MFun :=
 ⟨16, [MRes.tmp 0 2], (MC.reg
 [⟨some 2, MOp.mv (Opd.c (AV.bool false)), none⟩]).seq
 (((MC.reg
 [⟨some 5, MOp.mv (Opd.s 0), none⟩,
 ⟨some 6, MOp.rng (Opd.s 5), none⟩]).seq
 (MC.block 0
 (MC.loop M22b0l M22b0))).seq
 ((MC.reg
 [⟨some 13, MOp.mv (Opd.s 0), none⟩,
 ⟨some 14, MOp.lens (Opd.s 13), none⟩,
 ⟨some 15, MOp.bin .leq (Opd.s 14)
 (Opd.c (AV.int .i64 20)), none⟩,
 ⟨some 2, MOp.mv (Opd.s 15), none⟩]).seq
 MC.ret)) ⟩
def M24b0 : MC :=
 ((MC.reg
 [⟨some 6, MOp.nxt (Opd.s 5), none⟩,
 ⟨some 7, MOp.ext 0 (Opd.s 6), none⟩]).seq
 ((MC.cond (Opd.s 7) MC.skip (MC.exit 0)).seq
 (MC.block 1
 (MC.reg
 [⟨some 8, MOp.mv (Opd.s 3), none⟩,
 ⟨some 9, MOp.bin .add (Opd.s 8)
 (Opd.c (AV.int .i64 1)), none⟩,
 ⟨some 3, MOp.mv (Opd.s 9), none⟩]))))
def M24b0l : List Bool := [false, false, false, true, false, true, false, false, false, false, false]
def M24 : MFun :=
 ⟨11, [MRes.tmp 0 2], (MC.reg
 [⟨some 2, MOp.mv (Opd.c (AV.int .i64 0)), none⟩]).seq
 ((MC.reg
 [⟨some 3, MOp.mv (Opd.c (AV.int .i64 0)), none⟩]).seq
 (((MC.reg
 [⟨some 4, MOp.mv (Opd.s 0), none⟩,
 ⟨some 5, MOp.rng (Opd.s 4), none⟩]).seq
 (MC.block 0
 (MC.loop M24b0l M24b0))).seq
 ((MC.reg
 [⟨some 10, MOp.mv (Opd.s 3), none⟩,
 ⟨some 2, MOp.mv (Opd.s 10), none⟩]).seq
 MC.ret))) ⟩
def M28b0 : MC :=
 ((MC.reg
 [⟨some 9, MOp.nxt (Opd.s 8), none⟩,
 ⟨some 10, MOp.ext 0 (Opd.s 9), none⟩]).seq
 ((MC.cond (Opd.s 10) MC.skip (MC.exit 0)).seq
 (MC.block 1
 ((MC.reg
 [⟨some 11, MOp.ext 2 (Opd.s 9), none⟩,
 ⟨some 5, MOp.mv (Opd.s 11), none⟩]).seq
 (((MC.reg
 [⟨some 12, MOp.mv (Opd.s 5), none⟩,
 ⟨some 13, MOp.call 30 [(0, Opd.s 12)], none⟩,
 ⟨some 6, MOp.mv (Opd.s 13), none⟩]).seq
 ((MC.reg
 [⟨some 14, MOp.mv (Opd.s 6), none⟩,
 ⟨some 15, MOp.bin .eql (Opd.s 14)
 (Opd.c (AV.int .i64 0)), none⟩,
 ⟨some 16, MOp.mv (Opd.s 15), none⟩,
 ⟨some 17, MOp.mv (Opd.s 6), some (16, false)⟩,
 ⟨some 18, MOp.bin .eql (Opd.s 17)
 (Opd.c (AV.int .i64 4)), some (16, false)⟩,
 ⟨some 19, MOp.pick (Opd.s 16) (Opd.c (AV.bool true))
 (Opd.s 18), none⟩]).seq
 (MC.cond (Opd.s 19)
 (MC.reg
 [⟨some 5, MOp.mv (Opd.c (AV.int .i32 63)), none⟩])
 MC.skip))).seq
 (MC.reg
 [⟨some 20, MOp.mv (Opd.s 3), none⟩,
 ⟨some 21, MOp.mv (Opd.s 5), none⟩,
 ⟨some 22, MOp.bsl false 1 1 [AV.int .i32 0]
 [(0, 1, Opd.s 21)], none⟩,
 ⟨some 23, MOp.app false 1 4 (Opd.s 20) (Opd.s 22), none⟩,
 ⟨some 3, MOp.mv (Opd.s 23), none⟩]))))))
def M28b0l : List Bool := [false, false, false, true, false, false, false, false, true, false, false, false, false, false, false, false, false, false, false, false, false, false, false, false, false, false]
def M28 : MFun :=
 ⟨26, [MRes.tmp 0 2], (MC.reg
 [⟨some 2, MOp.mv (Opd.c (AV.str [])), none⟩]).seq
 ((MC.reg
 [⟨some 3, MOp.mv (Opd.c AV.nils), none⟩]).seq
 (((MC.reg
 [⟨some 7, MOp.mv (Opd.s 0), none⟩,
 ⟨some 8, MOp.rng (Opd.s 7), none⟩]).seq
 (MC.block 0
 (MC.loop M28b0l M28b0))).seq
 ((MC.reg
 [⟨some 24, MOp.mv (Opd.s 3), none⟩,
 ⟨some 25, MOp.conv Cv.r2s (Opd.s 24), none⟩,
 ⟨some 2, MOp.mv (Opd.s 25), none⟩]).seq
 MC.ret))) ⟩
def M30 : MFun :=
 ⟨43, [MRes.tmp 0 2], (MC.reg
 [⟨some 2, MOp.mv (Opd.c (AV.int .i64 0)), none⟩]).seq
 ((MC.block 0
 ((MC.reg
 [⟨some 4, MOp.mv (Opd.s 0), none⟩,
 ⟨some 5, MOp.bin .geq (Opd.s 4)
 (Opd.c (AV.int .i32 97)), none⟩,
 ⟨some 6, MOp.mv (Opd.s 5), none⟩,
 ⟨some 7, MOp.mv (Opd.s 0), some (6, true)⟩,
 ⟨some 8, MOp.bin .leq (Opd.s 7)
 (Opd.c (AV.int .i32 122)), some (6, true)⟩,
 ⟨some 9, MOp.pick (Opd.s 6) (Opd.s 8) (Opd.c (AV.bool false)), none⟩,
 ⟨some 10, MOp.mv (Opd.s 9), none⟩,
 ⟨some 11, MOp.mv (Opd.s 0), some (10, false)⟩,
 ⟨some 12, MOp.bin .geq (Opd.s 11)
 (Opd.c (AV.int .i32 65)), some (10, false)⟩,
 ⟨some 13, MOp.mv (Opd.s 12), some (10, false)⟩,
 ⟨some 14, MOp.mv (Opd.s 0), some (13, true)⟩,
 ⟨some 15, MOp.bin .leq (Opd.s 14)
 (Opd.c (AV.int .i32 90)), some (13, true)⟩,
 ⟨some 16, MOp.pick (Opd.s 13) (Opd.s 15) (Opd.c (AV.bool false)), some (10, false)⟩,
 ⟨some 17, MOp.pick (Opd.s 10) (Opd.c (AV.bool true)) (Opd.s 16), none⟩,
 ⟨some 3, MOp.mv (Opd.s 17), none⟩]).seq
 (MC.cond (Opd.s 3)
 ((MC.reg
 [⟨some 2, MOp.mv (Opd.c (AV.int .i64 1)), none⟩]).seq
 MC.ret)
 ((MC.reg
 [⟨some 19, MOp.mv (Opd.s 0), none⟩,
 ⟨some 20, MOp.bin .geq (Opd.s 19)
 (Opd.c (AV.int .i32 48)), none⟩,
 ⟨some 21, MOp.mv (Opd.s 20), none⟩,
 ⟨some 22, MOp.mv (Opd.s 0), some (21, true)⟩,
 ⟨some 23, MOp.bin .leq (Opd.s 22)
 (Opd.c (AV.int .i32 57)), some (21, true)⟩,
 ⟨some 24, MOp.pick (Opd.s 21) (Opd.s 23) (Opd.c (AV.bool false)), none⟩,
 ⟨some 18, MOp.mv (Opd.s 24), none⟩]).seq
 (MC.cond (Opd.s 18)
 ((MC.reg
 [⟨some 2, MOp.mv (Opd.c (AV.int .i64 2)), none⟩]).seq
 MC.ret)
 ((MC.reg
 [⟨some 26, MOp.mv (Opd.s 0), none⟩,
 ⟨some 27, MOp.bin .geq (Opd.s 26)
 (Opd.c (AV.int .i32 32)), none⟩,
 ⟨some 28, MOp.mv (Opd.s 27), none⟩,
 ⟨some 29, MOp.mv (Opd.s 0), some (28, true)⟩,
 ⟨some 30, MOp.bin .leq (Opd.s 29)
 (Opd.c (AV.int .i32 126)), some (28, true)⟩,
 ⟨some 31, MOp.pick (Opd.s 28) (Opd.s 30)
 (Opd.c (AV.bool false)), none⟩,
 ⟨some 25, MOp.mv (Opd.s 31), none⟩]).seq
 (MC.cond (Opd.s 25)
 ((MC.reg
 [⟨some 2, MOp.mv (Opd.c (AV.int .i64 3)), none⟩]).seq
 MC.ret)
 ((MC.reg
 [⟨some 33, MOp.mv (Opd.s 0), none⟩,
 ⟨some 34, MOp.bin .geq (Opd.s 33)
 (Opd.c (AV.int .i32 160)), none⟩,
 ⟨some 35, MOp.mv (Opd.s 34), none⟩,
 ⟨some 36, MOp.mv (Opd.s 0), some (35, true)⟩,
 ⟨some 37, MOp.bin .neq (Opd.s 36)
 (Opd.c (AV.int .i32 65533)), some (35, true)⟩,
 ⟨some 38, MOp.pick (Opd.s 35) (Opd.s 37)
 (Opd.c (AV.bool false)), none⟩,
 ⟨some 39, MOp.mv (Opd.s 38), none⟩,
 ⟨some 40, MOp.mv (Opd.s 0), some (39, true)⟩,
 ⟨some 41, MOp.call 66 [(0, Opd.s 40)], some (39, true)⟩,
 ⟨some 42, MOp.pick (Opd.s 39) (Opd.s 41)
 (Opd.c (AV.bool false)), none⟩,
 ⟨some 32, MOp.mv (Opd.s 42), none⟩]).seq
 (MC.cond (Opd.s 32)
 ((MC.reg
 [⟨some 2, MOp.mv (Opd.c (AV.int .i64 4)), none⟩]).seq
 MC.ret)
 MC.skip))))))))).seq
 ((MC.reg
 [⟨some 2, MOp.mv (Opd.c (AV.int .i64 0)), none⟩]).seq
 MC.ret)) ⟩
def M31 : MFun :=
 ⟨51, [MRes.tmp 0 2], (MC.reg
 [⟨some 2, MOp.mv (Opd.c (AV.int .i64 0)), none⟩]).seq
 ((MC.block 0
 ((MC.reg
 [⟨some 4, MOp.mv (Opd.s 0), none⟩,
 ⟨some 5, MOp.bin .geq (Opd.s 4)
 (Opd.c (AV.int .i64 97)), none⟩,
 ⟨some 6, MOp.mv (Opd.s 5), none⟩,
 ⟨some 7, MOp.mv (Opd.s 0), some (6, true)⟩,
 ⟨some 8, MOp.bin .leq (Opd.s 7)
 (Opd.c (AV.int .i64 122)), some (6, true)⟩,
 ⟨some 9, MOp.pick (Opd.s 6) (Opd.s 8) (Opd.c (AV.bool false)), none⟩,
 ⟨some 10, MOp.mv (Opd.s 9), none⟩,
 ⟨some 11, MOp.mv (Opd.s 0), some (10, false)⟩,
 ⟨some 12, MOp.bin .geq (Opd.s 11)
 (Opd.c (AV.int .i64 65)), some (10, false)⟩,
 ⟨some 13, MOp.mv (Opd.s 12), some (10, false)⟩,
 ⟨some 14, MOp.mv (Opd.s 0), some (13, true)⟩,
 ⟨some 15, MOp.bin .leq (Opd.s 14)
 (Opd.c (AV.int .i64 90)), some (13, true)⟩,
 ⟨some 16, MOp.pick (Opd.s 13) (Opd.s 15) (Opd.c (AV.bool false)), some (10, false)⟩,
 ⟨some 17, MOp.pick (Opd.s 10) (Opd.c (AV.bool true)) (Opd.s 16), none⟩,
 ⟨some 3, MOp.mv (Opd.s 17), none⟩]).seq
 (MC.cond (Opd.s 3)
 ((MC.reg
 [⟨some 2, MOp.mv (Opd.c (AV.int .i64 1)), none⟩]).seq
 MC.ret)
 ((MC.reg
 [⟨some 19, MOp.mv (Opd.s 0), none⟩,
 ⟨some 20, MOp.bin .geq (Opd.s 19)
 (Opd.c (AV.int .i64 48)), none⟩,
 ⟨some 21, MOp.mv (Opd.s 20), none⟩,
 ⟨some 22, MOp.mv (Opd.s 0), some (21, true)⟩,
 ⟨some 23, MOp.bin .leq (Opd.s 22)
 (Opd.c (AV.int .i64 57)), some (21, true)⟩,
 ⟨some 24, MOp.pick (Opd.s 21) (Opd.s 23) (Opd.c (AV.bool false)), none⟩,
 ⟨some 18, MOp.mv (Opd.s 24), none⟩]).seq
 (MC.cond (Opd.s 18)
 ((MC.reg
 [⟨some 2, MOp.mv (Opd.c (AV.int .i64 2)), none⟩]).seq
 MC.ret)
 ((MC.reg
 [⟨some 26, MOp.mv (Opd.s 0), none⟩,
 ⟨some 27, MOp.bin .geq (Opd.s 26)
 (Opd.c (AV.int .i64 32)), none⟩,
 ⟨some 28, MOp.mv (Opd.s 27), none⟩,
 ⟨some 29, MOp.mv (Opd.s 0), some (28, true)⟩,
 ⟨some 30, MOp.bin .leq (Opd.s 29)
 (Opd.c (AV.int .i64 126)), some (28, true)⟩,
 ⟨some 31, MOp.pick (Opd.s 28) (Opd.s 30)
 (Opd.c (AV.bool false)), none⟩,
 ⟨some 25, MOp.mv (Opd.s 31), none⟩]).seq
 (MC.cond (Opd.s 25)
 ((MC.reg
 [⟨some 2, MOp.mv (Opd.c (AV.int .i64 3)), none⟩]).seq
 MC.ret)
 ((MC.reg
 [⟨some 33, MOp.mv (Opd.s 0), none⟩,
 ⟨some 34, MOp.bin .geq (Opd.s 33)
 (Opd.c (AV.int .i64 160)), none⟩,
 ⟨some 35, MOp.mv (Opd.s 34), none⟩,
 ⟨some 36, MOp.mv (Opd.s 0), some (35, true)⟩,
 ⟨some 37, MOp.bin .leq (Opd.s 36)
 (Opd.c (AV.int .i64 1114111)), some (35, true)⟩,
 ⟨some 38, MOp.pick (Opd.s 35) (Opd.s 37)
 (Opd.c (AV.bool false)), none⟩,
 ⟨some 39, MOp.mv (Opd.s 38), none⟩,
 ⟨some 40, MOp.mv (Opd.s 0), some (39, true)⟩,
 ⟨some 41, MOp.bin .neq (Opd.s 40)
 (Opd.c (AV.int .i64 65533)), some (39, true)⟩,
 ⟨some 42, MOp.pick (Opd.s 39) (Opd.s 41)
 (Opd.c (AV.bool false)), none⟩,
 ⟨some 43, MOp.mv (Opd.s 42), none⟩,
 ⟨some 44, MOp.mv (Opd.s 0), some (43, true)⟩,
 ⟨some 45, MOp.bin .lss (Opd.s 44)
 (Opd.c (AV.int .i64 55296)), some (43, true)⟩,
 ⟨some 46, MOp.mv (Opd.s 45), some (43, true)⟩,
 ⟨some 47, MOp.mv (Opd.s 0), some (46, false)⟩,
 ⟨some 48, MOp.bin .gtr (Opd.s 47)
 (Opd.c (AV.int .i64 57343)), some (46, false)⟩,
 ⟨some 49, MOp.pick (Opd.s 46) (Opd.c (AV.bool true))
 (Opd.s 48), some (43, true)⟩,
 ⟨some 50, MOp.pick (Opd.s 43) (Opd.s 49)
 (Opd.c (AV.bool false)), none⟩,
 ⟨some 32, MOp.mv (Opd.s 50), none⟩]).seq
 (MC.cond (Opd.s 32)
 ((MC.reg
 [⟨some 2, MOp.mv (Opd.c (AV.int .i64 4)), none⟩]).seq
 MC.ret)
 MC.skip))))))))).seq
 ((MC.reg
 [⟨some 2, MOp.mv (Opd.c (AV.int .i64 0)), none⟩]).seq
 MC.ret)) ⟩
theorem tab11 : tableOf Tryd.prog 11 = some M11 := by kernel_rfl
theorem tab22 : tableOf Tryd.prog 22 = some M22 := by kernel_rfl
theorem tab24 : tableOf Tryd.prog 24 = some M24 := by kernel_rfl
theorem tab28 : tableOf Tryd.prog 28 = some M28 := by kernel_rfl
theorem tab30 : tableOf Tryd.prog 30 = some M30 := by kernel_rfl
theorem tab31 : tableOf Tryd.prog 31 = some M31 := by kernel_rfl
end Go.Proofs.YthcblggiojpmcaaDoor
