/- Functions of the program in the evaluator's form, written out by a program. No conditions. -/
import Derived.Test.YthcblggiojpmcaaDoorTabs
set_option linter.unusedVariables false
namespace Go.Proofs.YthcblggiojpmcaaDoor
open Go Go.Ab
def oks : List (Nat × EqF) :=
 []
def M21 : MFun :=
 ⟨11, [MRes.tmp 0 4], (MC.reg
 [⟨some 4, MOp.mv (Opd.c (AV.str [])), none⟩]).seq
 ((MC.reg
 [⟨some 5, MOp.mv (Opd.s 0), none⟩,
 ⟨some 6, MOp.mv (Opd.s 0), none⟩,
 ⟨some 7, MOp.lens (Opd.s 6), none⟩,
 ⟨some 8, MOp.mv (Opd.s 1), none⟩,
 ⟨some 9, MOp.mn [Opd.s 7, Opd.s 8], none⟩,
 ⟨some 10, MOp.sls (Opd.s 5) none (some (Opd.s 9)), none⟩,
 ⟨some 4, MOp.mv (Opd.s 10), none⟩]).seq
 MC.ret) ⟩
def M22b0 : MC :=
 ((MC.reg
 [⟨some 7, MOp.nxt (Opd.s 6), none⟩,
 ⟨some 8, MOp.ext 0 (Opd.s 7), none⟩]).seq
 ((MC.cond (Opd.s 8) MC.skip (MC.exit 0)).seq
 (MC.block 1
 ((MC.reg
 [⟨some 9, MOp.ext 2 (Opd.s 7), none⟩,
 ⟨some 4, MOp.mv (Opd.s 9), none⟩]).seq
 ((MC.reg
 [⟨some 10, MOp.mv (Opd.s 4), none⟩,
 ⟨some 11, MOp.call 30 [(0, Opd.s 10)], none⟩,
 ⟨some 12, MOp.bin .eql (Opd.s 11)
 (Opd.c (AV.int .i64 0)), none⟩]).seq
 (MC.cond (Opd.s 12)
 ((MC.reg
 [⟨some 2, MOp.mv (Opd.c (AV.bool false)), none⟩]).seq
 MC.ret)
 MC.skip))))))
def M22b0l : List Bool := [true, false, false, false, false, false, true, false, false, false, false, false, false, false, false, false]
def M22r0 : MC :=
 ((MC.reg
 [⟨some 13, MOp.mv (Opd.s 0), none⟩,
 ⟨some 14, MOp.lens (Opd.s 13), none⟩,
 ⟨some 15, MOp.bin .leq (Opd.s 14)
 (Opd.c (AV.int .i64 20)), none⟩,
 ⟨some 2, MOp.mv (Opd.s 15), none⟩]).seq
 MC.ret)
def M22 : MFun :=
 ⟨16, [MRes.tmp 0 2], (MC.reg
 [⟨some 2, MOp.mv (Opd.c (AV.bool false)), none⟩]).seq
 (((MC.reg
 [⟨some 5, MOp.mv (Opd.s 0), none⟩,
 ⟨some 6, MOp.rng (Opd.s 5), none⟩]).seq
 (MC.block 0
 (MC.loop M22b0l M22b0))).seq
 M22r0) ⟩
def M23b0 : MC :=
 (((MC.reg
 [⟨some 8, MOp.mv (Opd.s 3), none⟩,
 ⟨some 9, MOp.bin .neq (Opd.s 8) (Opd.c (AV.str [])), none⟩]).seq
 (MC.cond (Opd.s 9) MC.skip (MC.exit 0))).seq
 (MC.block 1
 ((MC.reg
 [⟨some 11, MOp.mv (Opd.s 3), none⟩,
 ⟨some 12, MOp.call 64 [(0, Opd.s 11)], none⟩,
 ⟨some 10, MOp.mv (Opd.s 12), none⟩,
 ⟨some 13, MOp.ext 0 (Opd.s 10), none⟩,
 ⟨some 14, MOp.ext 1 (Opd.s 10), none⟩,
 ⟨some 15, MOp.ext 2 (Opd.s 10), none⟩,
 ⟨some 4, MOp.mv (Opd.s 13), none⟩,
 ⟨some 5, MOp.mv (Opd.s 14), none⟩,
 ⟨some 6, MOp.mv (Opd.s 15), none⟩]).seq
 (((MC.reg
 [⟨some 16, MOp.mv (Opd.s 6), none⟩,
 ⟨some 17, MOp.un .not (Opd.s 16), none⟩,
 ⟨some 18, MOp.mv (Opd.s 17), none⟩,
 ⟨some 19, MOp.mv (Opd.s 4), some (18, false)⟩,
 ⟨some 20, MOp.call 31 [(0, Opd.s 19)], some (18, false)⟩,
 ⟨some 21, MOp.bin .eql (Opd.s 20)
 (Opd.c (AV.int .i64 0)), some (18, false)⟩,
 ⟨some 22, MOp.pick (Opd.s 18) (Opd.c (AV.bool true))
 (Opd.s 21), none⟩]).seq
 (MC.cond (Opd.s 22)
 ((MC.reg
 [⟨some 2, MOp.mv (Opd.c (AV.bool false)), none⟩]).seq
 MC.ret)
 MC.skip)).seq
 (MC.reg
 [⟨some 23, MOp.mv (Opd.s 3), none⟩,
 ⟨some 24, MOp.mv (Opd.s 5), none⟩,
 ⟨some 25, MOp.sls (Opd.s 23) (some (Opd.s 24)) none, none⟩,
 ⟨some 3, MOp.mv (Opd.s 25), none⟩])))))
def M23b0l : List Bool := [true, false, false, true, false, false, false, false, false, false, false, false, false, false, false, false, false, false, false, false, false, false, false, false, false, false, false, false, false]
def M23r0 : MC :=
 ((MC.reg
 [⟨some 26, MOp.mv (Opd.s 0), none⟩,
 ⟨some 27, MOp.lens (Opd.s 26), none⟩,
 ⟨some 28, MOp.bin .leq (Opd.s 27)
 (Opd.c (AV.int .i64 20)), none⟩,
 ⟨some 2, MOp.mv (Opd.s 28), none⟩]).seq
 MC.ret)
def M23 : MFun :=
 ⟨29, [MRes.tmp 0 2], (MC.reg
 [⟨some 2, MOp.mv (Opd.c (AV.bool false)), none⟩]).seq
 (((MC.reg
 [⟨some 7, MOp.mv (Opd.s 0), none⟩,
 ⟨some 3, MOp.mv (Opd.s 7), none⟩]).seq
 (MC.block 0
 (MC.loop M23b0l M23b0))).seq
 M23r0) ⟩
def M24b0 : MC :=
 ((MC.reg
 [⟨some 6, MOp.nxt (Opd.s 5), none⟩,
 ⟨some 7, MOp.ext 0 (Opd.s 6), none⟩]).seq
 ((MC.cond (Opd.s 7) MC.skip (MC.exit 0)).seq
 (MC.block 1
 (MC.reg
 [⟨some 8, MOp.mv (Opd.s 3), none⟩,
 ⟨some 9, MOp.bin .add (Opd.s 8)
 (Opd.c (AV.int .i64 1)), none⟩,
 ⟨some 3, MOp.mv (Opd.s 9), none⟩]))))
def M24b0l : List Bool := [false, false, false, true, false, true, false, false, false, false, false]
def M24r0 : MC :=
 ((MC.reg
 [⟨some 10, MOp.mv (Opd.s 3), none⟩,
 ⟨some 2, MOp.mv (Opd.s 10), none⟩]).seq
 MC.ret)
def M24 : MFun :=
 ⟨11, [MRes.tmp 0 2], (MC.reg
 [⟨some 2, MOp.mv (Opd.c (AV.int .i64 0)), none⟩]).seq
 ((MC.reg
 [⟨some 3, MOp.mv (Opd.c (AV.int .i64 0)), none⟩]).seq
 (((MC.reg
 [⟨some 4, MOp.mv (Opd.s 0), none⟩,
 ⟨some 5, MOp.rng (Opd.s 4), none⟩]).seq
 (MC.block 0
 (MC.loop M24b0l M24b0))).seq
 M24r0)) ⟩
def M25b0 : MC :=
 (((MC.reg
 [⟨some 7, MOp.mv (Opd.s 0), none⟩,
 ⟨some 8, MOp.bin .neq (Opd.s 7) (Opd.c (AV.str [])), none⟩]).seq
 (MC.cond (Opd.s 8) MC.skip (MC.exit 0))).seq
 (MC.block 1
 ((MC.reg
 [⟨some 10, MOp.mv (Opd.s 0), none⟩,
 ⟨some 11, MOp.call 64 [(0, Opd.s 10)], none⟩,
 ⟨some 9, MOp.mv (Opd.s 11), none⟩,
 ⟨some 12, MOp.ext 0 (Opd.s 9), none⟩,
 ⟨some 13, MOp.ext 1 (Opd.s 9), none⟩,
 ⟨some 14, MOp.ext 2 (Opd.s 9), none⟩,
 ⟨some 4, MOp.mv (Opd.s 12), none⟩,
 ⟨some 5, MOp.mv (Opd.s 13), none⟩,
 ⟨some 6, MOp.mv (Opd.s 14), none⟩]).seq
 ((MC.reg
 [⟨some 15, MOp.mv (Opd.s 0), none⟩,
 ⟨some 16, MOp.mv (Opd.s 5), none⟩,
 ⟨some 17, MOp.sls (Opd.s 15) (some (Opd.s 16)) none, none⟩,
 ⟨some 0, MOp.mv (Opd.s 17), none⟩]).seq
 (MC.reg
 [⟨some 18, MOp.mv (Opd.s 3), none⟩,
 ⟨some 19, MOp.bin .add (Opd.s 18)
 (Opd.c (AV.int .i64 1)), none⟩,
 ⟨some 3, MOp.mv (Opd.s 19), none⟩])))))
def M25b0l : List Bool := [true, false, false, true, false, false, false, false, false, false, false, false, false, false, false, false, false, false, false, false, false]
def M25r0 : MC :=
 ((MC.reg
 [⟨some 20, MOp.mv (Opd.s 3), none⟩,
 ⟨some 2, MOp.mv (Opd.s 20), none⟩]).seq
 MC.ret)
def M25 : MFun :=
 ⟨21, [MRes.tmp 0 2], (MC.reg
 [⟨some 2, MOp.mv (Opd.c (AV.int .i64 0)), none⟩]).seq
 ((MC.reg
 [⟨some 3, MOp.mv (Opd.c (AV.int .i64 0)), none⟩]).seq
 ((MC.block 0
 (MC.loop M25b0l M25b0)).seq
 M25r0)) ⟩
def M26b0 : MC :=
 ((MC.reg
 [⟨some 10, MOp.nxt (Opd.s 9), none⟩,
 ⟨some 11, MOp.ext 0 (Opd.s 10), none⟩]).seq
 ((MC.cond (Opd.s 11) MC.skip (MC.exit 0)).seq
 (MC.block 1
 ((MC.reg
 [⟨some 12, MOp.ext 1 (Opd.s 10), none⟩,
 ⟨some 5, MOp.mv (Opd.s 12), none⟩]).seq
 ((MC.reg
 [⟨some 14, MOp.mv (Opd.s 0), none⟩,
 ⟨some 15, MOp.mv (Opd.s 5), none⟩,
 ⟨some 16, MOp.sls (Opd.s 14) (some (Opd.s 15)) none, none⟩,
 ⟨some 17, MOp.call 65 [(0, Opd.s 16)], none⟩,
 ⟨some 13, MOp.mv (Opd.s 17), none⟩,
 ⟨some 18, MOp.ext 0 (Opd.s 13), none⟩,
 ⟨some 19, MOp.ext 1 (Opd.s 13), none⟩,
 ⟨some 6, MOp.mv (Opd.s 18), none⟩,
 ⟨some 7, MOp.mv (Opd.s 19), none⟩]).seq
 ((MC.reg
 [⟨some 20, MOp.mv (Opd.s 5), none⟩,
 ⟨some 21, MOp.mv (Opd.s 7), none⟩,
 ⟨some 22, MOp.bin .add (Opd.s 20) (Opd.s 21), none⟩,
 ⟨some 23, MOp.mv (Opd.s 1), none⟩,
 ⟨some 24, MOp.bin .gtr (Opd.s 22) (Opd.s 23), none⟩,
 ⟨some 25, MOp.mv (Opd.s 24), none⟩,
 ⟨some 26, MOp.mv (Opd.s 6), some (25, false)⟩,
 ⟨some 27, MOp.bin .eql (Opd.s 26)
 (Opd.c (AV.int .i32 65533)), some (25, false)⟩,
 ⟨some 28, MOp.mv (Opd.s 27), some (25, false)⟩,
 ⟨some 29, MOp.mv (Opd.s 7), some (28, true)⟩,
 ⟨some 30, MOp.bin .eql (Opd.s 29)
 (Opd.c (AV.int .i64 1)), some (28, true)⟩,
 ⟨some 31, MOp.pick (Opd.s 28) (Opd.s 30)
 (Opd.c (AV.bool false)), some (25, false)⟩,
 ⟨some 32, MOp.pick (Opd.s 25) (Opd.c (AV.bool true))
 (Opd.s 31), none⟩]).seq
 (MC.cond (Opd.s 32)
 ((MC.reg
 [⟨some 33, MOp.mv (Opd.s 0), none⟩,
 ⟨some 34, MOp.mv (Opd.s 5), none⟩,
 ⟨some 35, MOp.sls (Opd.s 33) none (some (Opd.s 34)), none⟩,
 ⟨some 4, MOp.mv (Opd.s 35), none⟩]).seq
 MC.ret)
 MC.skip)))))))
def M26b0l : List Bool := [true, true, false, false, false, false, false, false, false, true, false, false, false, false, false, false, false, false, false, false, false, false, false, false, false, false, false, false, false, false, false, false, false, false, false, false, false]
def M26r0 : MC :=
 ((MC.reg
 [⟨some 36, MOp.mv (Opd.s 0), none⟩,
 ⟨some 4, MOp.mv (Opd.s 36), none⟩]).seq
 MC.ret)
def M26 : MFun :=
 ⟨37, [MRes.tmp 0 4], (MC.reg
 [⟨some 4, MOp.mv (Opd.c (AV.str [])), none⟩]).seq
 (((MC.reg
 [⟨some 8, MOp.mv (Opd.s 0), none⟩,
 ⟨some 9, MOp.rng (Opd.s 8), none⟩]).seq
 (MC.block 0
 (MC.loop M26b0l M26b0))).seq
 M26r0) ⟩
def M27b0 : MC :=
 (((MC.reg
 [⟨some 9, MOp.mv (Opd.s 5), none⟩,
 ⟨some 10, MOp.mv (Opd.s 0), none⟩,
 ⟨some 11, MOp.lens (Opd.s 10), none⟩,
 ⟨some 12, MOp.bin .lss (Opd.s 9) (Opd.s 11), none⟩]).seq
 (MC.cond (Opd.s 12) MC.skip (MC.exit 0))).seq
 (MC.block 1
 ((MC.reg
 [⟨some 14, MOp.mv (Opd.s 0), none⟩,
 ⟨some 15, MOp.mv (Opd.s 5), none⟩,
 ⟨some 16, MOp.sls (Opd.s 14) (some (Opd.s 15)) none, none⟩,
 ⟨some 17, MOp.call 64 [(0, Opd.s 16)], none⟩,
 ⟨some 13, MOp.mv (Opd.s 17), none⟩,
 ⟨some 18, MOp.ext 0 (Opd.s 13), none⟩,
 ⟨some 19, MOp.ext 1 (Opd.s 13), none⟩,
 ⟨some 20, MOp.ext 2 (Opd.s 13), none⟩,
 ⟨some 6, MOp.mv (Opd.s 18), none⟩,
 ⟨some 7, MOp.mv (Opd.s 19), none⟩,
 ⟨some 8, MOp.mv (Opd.s 20), none⟩]).seq
 (((MC.reg
 [⟨some 21, MOp.mv (Opd.s 8), none⟩,
 ⟨some 22, MOp.un .not (Opd.s 21), none⟩,
 ⟨some 23, MOp.mv (Opd.s 22), none⟩,
 ⟨some 24, MOp.mv (Opd.s 5), some (23, false)⟩,
 ⟨some 25, MOp.mv (Opd.s 7), some (23, false)⟩,
 ⟨some 26, MOp.bin .add (Opd.s 24) (Opd.s 25), some (23, false)⟩,
 ⟨some 27, MOp.mv (Opd.s 1), some (23, false)⟩,
 ⟨some 28, MOp.bin .gtr (Opd.s 26) (Opd.s 27), some (23, false)⟩,
 ⟨some 29, MOp.pick (Opd.s 23) (Opd.c (AV.bool true))
 (Opd.s 28), none⟩]).seq
 (MC.cond (Opd.s 29) (MC.exit 0) MC.skip)).seq
 (MC.reg
 [⟨some 30, MOp.mv (Opd.s 5), none⟩,
 ⟨some 31, MOp.mv (Opd.s 7), none⟩,
 ⟨some 32, MOp.bin .add (Opd.s 30) (Opd.s 31), none⟩,
 ⟨some 5, MOp.mv (Opd.s 32), none⟩])))))
def M27b0l : List Bool := [true, true, false, false, false, true, false, false, false, false, false, false, false, false, false, false, false, false, false, false, false, false, false, false, false, false, false, false, false, false, false, false, false, false, false, false]
def M27r0 : MC :=
 ((MC.reg
 [⟨some 33, MOp.mv (Opd.s 0), none⟩,
 ⟨some 34, MOp.mv (Opd.s 5), none⟩,
 ⟨some 35, MOp.sls (Opd.s 33) none (some (Opd.s 34)), none⟩,
 ⟨some 4, MOp.mv (Opd.s 35), none⟩]).seq
 MC.ret)
def M27 : MFun :=
 ⟨36, [MRes.tmp 0 4], (MC.reg
 [⟨some 4, MOp.mv (Opd.c (AV.str [])), none⟩]).seq
 ((MC.reg
 [⟨some 5, MOp.mv (Opd.c (AV.int .i64 0)), none⟩]).seq
 ((MC.block 0
 (MC.loop M27b0l M27b0)).seq
 M27r0)) ⟩
def M28b0 : MC :=
 ((MC.reg
 [⟨some 9, MOp.nxt (Opd.s 8), none⟩,
 ⟨some 10, MOp.ext 0 (Opd.s 9), none⟩]).seq
 ((MC.cond (Opd.s 10) MC.skip (MC.exit 0)).seq
 (MC.block 1
 ((MC.reg
 [⟨some 11, MOp.ext 2 (Opd.s 9), none⟩,
 ⟨some 5, MOp.mv (Opd.s 11), none⟩]).seq
 (((MC.reg
 [⟨some 12, MOp.mv (Opd.s 5), none⟩,
 ⟨some 13, MOp.call 30 [(0, Opd.s 12)], none⟩,
 ⟨some 6, MOp.mv (Opd.s 13), none⟩]).seq
 ((MC.reg
 [⟨some 14, MOp.mv (Opd.s 6), none⟩,
 ⟨some 15, MOp.bin .eql (Opd.s 14)
 (Opd.c (AV.int .i64 0)), none⟩,
 ⟨some 16, MOp.mv (Opd.s 15), none⟩,
 ⟨some 17, MOp.mv (Opd.s 6), some (16, false)⟩,
 ⟨some 18, MOp.bin .eql (Opd.s 17)
 (Opd.c (AV.int .i64 4)), some (16, false)⟩,
 ⟨some 19, MOp.pick (Opd.s 16) (Opd.c (AV.bool true))
 (Opd.s 18), none⟩]).seq
 (MC.cond (Opd.s 19)
 (MC.reg
 [⟨some 5, MOp.mv (Opd.c (AV.int .i32 63)), none⟩])
 MC.skip))).seq
 (MC.reg
 [⟨some 20, MOp.mv (Opd.s 3), none⟩,
 ⟨some 21, MOp.mv (Opd.s 5), none⟩,
 ⟨some 22, MOp.bsl false 1 1 [AV.int .i32 0]
 [(0, 1, Opd.s 21)], none⟩,
 ⟨some 23, MOp.app false 1 4 (Opd.s 20) (Opd.s 22), none⟩,
 ⟨some 3, MOp.mv (Opd.s 23), none⟩]))))))
def M28b0l : List Bool := [false, false, false, true, false, false, false, false, true, false, false, false, false, false, false, false, false, false, false, false, false, false, false, false, false, false]
def M28r0 : MC :=
 ((MC.reg
 [⟨some 24, MOp.mv (Opd.s 3), none⟩,
 ⟨some 25, MOp.conv Cv.r2s (Opd.s 24), none⟩,
 ⟨some 2, MOp.mv (Opd.s 25), none⟩]).seq
 MC.ret)
def M28 : MFun :=
 ⟨26, [MRes.tmp 0 2], (MC.reg
 [⟨some 2, MOp.mv (Opd.c (AV.str [])), none⟩]).seq
 ((MC.reg
 [⟨some 3, MOp.mv (Opd.c AV.nils), none⟩]).seq
 (((MC.reg
 [⟨some 7, MOp.mv (Opd.s 0), none⟩,
 ⟨some 8, MOp.rng (Opd.s 7), none⟩]).seq
 (MC.block 0
 (MC.loop M28b0l M28b0))).seq
 M28r0)) ⟩
def M29b0 : MC :=
 (((MC.reg
 [⟨some 8, MOp.mv (Opd.s 0), none⟩,
 ⟨some 9, MOp.bin .neq (Opd.s 8) (Opd.c (AV.str [])), none⟩]).seq
 (MC.cond (Opd.s 9) MC.skip (MC.exit 0))).seq
 (MC.block 1
 ((MC.reg
 [⟨some 11, MOp.mv (Opd.s 0), none⟩,
 ⟨some 12, MOp.call 64 [(0, Opd.s 11)], none⟩,
 ⟨some 10, MOp.mv (Opd.s 12), none⟩,
 ⟨some 13, MOp.ext 0 (Opd.s 10), none⟩,
 ⟨some 14, MOp.ext 1 (Opd.s 10), none⟩,
 ⟨some 15, MOp.ext 2 (Opd.s 10), none⟩,
 ⟨some 4, MOp.mv (Opd.s 13), none⟩,
 ⟨some 5, MOp.mv (Opd.s 14), none⟩,
 ⟨some 6, MOp.mv (Opd.s 15), none⟩]).seq
 (((MC.reg
 [⟨some 16, MOp.mv (Opd.s 4), none⟩,
 ⟨some 17, MOp.call 31 [(0, Opd.s 16)], none⟩,
 ⟨some 7, MOp.mv (Opd.s 17), none⟩]).seq
 ((MC.reg
 [⟨some 18, MOp.mv (Opd.s 6), none⟩,
 ⟨some 19, MOp.mv (Opd.s 18), none⟩,
 ⟨some 20, MOp.mv (Opd.s 7), some (19, true)⟩,
 ⟨some 21, MOp.bin .geq (Opd.s 20)
 (Opd.c (AV.int .i64 1)), some (19, true)⟩,
 ⟨some 22, MOp.pick (Opd.s 19) (Opd.s 21)
 (Opd.c (AV.bool false)), none⟩,
 ⟨some 23, MOp.mv (Opd.s 22), none⟩,
 ⟨some 24, MOp.mv (Opd.s 7), some (23, true)⟩,
 ⟨some 25, MOp.bin .leq (Opd.s 24)
 (Opd.c (AV.int .i64 3)), some (23, true)⟩,
 ⟨some 26, MOp.pick (Opd.s 23) (Opd.s 25)
 (Opd.c (AV.bool false)), none⟩]).seq
 (MC.cond (Opd.s 26)
 (MC.reg
 [⟨some 27, MOp.mv (Opd.s 3), none⟩,
 ⟨some 28, MOp.mv (Opd.s 0), none⟩,
 ⟨some 29, MOp.mv (Opd.s 5), none⟩,
 ⟨some 30, MOp.sls (Opd.s 28) none (some (Opd.s 29)), none⟩,
 ⟨some 31, MOp.bin .add (Opd.s 27) (Opd.s 30), none⟩,
 ⟨some 3, MOp.mv (Opd.s 31), none⟩])
 (MC.reg
 [⟨some 32, MOp.mv (Opd.s 3), none⟩,
 ⟨some 33, MOp.bin .add (Opd.s 32)
 (Opd.c (AV.str [(63 : UInt8)])), none⟩,
 ⟨some 3, MOp.mv (Opd.s 33), none⟩])))).seq
 (MC.reg
 [⟨some 34, MOp.mv (Opd.s 0), none⟩,
 ⟨some 35, MOp.mv (Opd.s 5), none⟩,
 ⟨some 36, MOp.sls (Opd.s 34) (some (Opd.s 35)) none, none⟩,
 ⟨some 0, MOp.mv (Opd.s 36), none⟩])))))
def M29b0l : List Bool := [true, false, false, true, false, false, false, false, false, false, false, false, false, false, false, false, false, false, false, false, false, false, false, false, false, false, false, false, false, false, false, false, false, false, false, false, false, false]
def M29r0 : MC :=
 ((MC.reg
 [⟨some 37, MOp.mv (Opd.s 3), none⟩,
 ⟨some 2, MOp.mv (Opd.s 37), none⟩]).seq
 MC.ret)
def M29 : MFun :=
 ⟨38, [MRes.tmp 0 2], (MC.reg
 [⟨some 2, MOp.mv (Opd.c (AV.str [])), none⟩]).seq
 ((MC.reg
 [⟨some 3, MOp.mv (Opd.c (AV.str [])), none⟩]).seq
 ((MC.block 0
 (MC.loop M29b0l M29b0)).seq
 M29r0)) ⟩
def M30 : MFun :=
 ⟨43, [MRes.tmp 0 2], (MC.reg
 [⟨some 2, MOp.mv (Opd.c (AV.int .i64 0)), none⟩]).seq
 ((MC.block 0
 ((MC.reg
 [⟨some 4, MOp.mv (Opd.s 0), none⟩,
 ⟨some 5, MOp.bin .geq (Opd.s 4)
 (Opd.c (AV.int .i32 97)), none⟩,
 ⟨some 6, MOp.mv (Opd.s 5), none⟩,
 ⟨some 7, MOp.mv (Opd.s 0), some (6, true)⟩,
 ⟨some 8, MOp.bin .leq (Opd.s 7)
 (Opd.c (AV.int .i32 122)), some (6, true)⟩,
 ⟨some 9, MOp.pick (Opd.s 6) (Opd.s 8) (Opd.c (AV.bool false)), none⟩,
 ⟨some 10, MOp.mv (Opd.s 9), none⟩,
 ⟨some 11, MOp.mv (Opd.s 0), some (10, false)⟩,
 ⟨some 12, MOp.bin .geq (Opd.s 11)
 (Opd.c (AV.int .i32 65)), some (10, false)⟩,
 ⟨some 13, MOp.mv (Opd.s 12), some (10, false)⟩,
 ⟨some 14, MOp.mv (Opd.s 0), some (13, true)⟩,
 ⟨some 15, MOp.bin .leq (Opd.s 14)
 (Opd.c (AV.int .i32 90)), some (13, true)⟩,
 ⟨some 16, MOp.pick (Opd.s 13) (Opd.s 15) (Opd.c (AV.bool false)), some (10, false)⟩,
 ⟨some 17, MOp.pick (Opd.s 10) (Opd.c (AV.bool true)) (Opd.s 16), none⟩,
 ⟨some 3, MOp.mv (Opd.s 17), none⟩]).seq
 (MC.cond (Opd.s 3)
 ((MC.reg
 [⟨some 2, MOp.mv (Opd.c (AV.int .i64 1)), none⟩]).seq
 MC.ret)
 ((MC.reg
 [⟨some 19, MOp.mv (Opd.s 0), none⟩,
 ⟨some 20, MOp.bin .geq (Opd.s 19)
 (Opd.c (AV.int .i32 48)), none⟩,
 ⟨some 21, MOp.mv (Opd.s 20), none⟩,
 ⟨some 22, MOp.mv (Opd.s 0), some (21, true)⟩,
 ⟨some 23, MOp.bin .leq (Opd.s 22)
 (Opd.c (AV.int .i32 57)), some (21, true)⟩,
 ⟨some 24, MOp.pick (Opd.s 21) (Opd.s 23) (Opd.c (AV.bool false)), none⟩,
 ⟨some 18, MOp.mv (Opd.s 24), none⟩]).seq
 (MC.cond (Opd.s 18)
 ((MC.reg
 [⟨some 2, MOp.mv (Opd.c (AV.int .i64 2)), none⟩]).seq
 MC.ret)
 ((MC.reg
 [⟨some 26, MOp.mv (Opd.s 0), none⟩,
 ⟨some 27, MOp.bin .geq (Opd.s 26)
 (Opd.c (AV.int .i32 32)), none⟩,
 ⟨some 28, MOp.mv (Opd.s 27), none⟩,
 ⟨some 29, MOp.mv (Opd.s 0), some (28, true)⟩,
 ⟨some 30, MOp.bin .leq (Opd.s 29)
 (Opd.c (AV.int .i32 126)), some (28, true)⟩,
 ⟨some 31, MOp.pick (Opd.s 28) (Opd.s 30)
 (Opd.c (AV.bool false)), none⟩,
 ⟨some 25, MOp.mv (Opd.s 31), none⟩]).seq
 (MC.cond (Opd.s 25)
 ((MC.reg
 [⟨some 2, MOp.mv (Opd.c (AV.int .i64 3)), none⟩]).seq
 MC.ret)
 ((MC.reg
 [⟨some 33, MOp.mv (Opd.s 0), none⟩,
 ⟨some 34, MOp.bin .geq (Opd.s 33)
 (Opd.c (AV.int .i32 160)), none⟩,
 ⟨some 35, MOp.mv (Opd.s 34), none⟩,
 ⟨some 36, MOp.mv (Opd.s 0), some (35, true)⟩,
 ⟨some 37, MOp.bin .neq (Opd.s 36)
 (Opd.c (AV.int .i32 65533)), some (35, true)⟩,
 ⟨some 38, MOp.pick (Opd.s 35) (Opd.s 37)
 (Opd.c (AV.bool false)), none⟩,
 ⟨some 39, MOp.mv (Opd.s 38), none⟩,
 ⟨some 40, MOp.mv (Opd.s 0), some (39, true)⟩,
 ⟨some 41, MOp.call 66 [(0, Opd.s 40)], some (39, true)⟩,
 ⟨some 42, MOp.pick (Opd.s 39) (Opd.s 41)
 (Opd.c (AV.bool false)), none⟩,
 ⟨some 32, MOp.mv (Opd.s 42), none⟩]).seq
 (MC.cond (Opd.s 32)
 ((MC.reg
 [⟨some 2, MOp.mv (Opd.c (AV.int .i64 4)), none⟩]).seq
 MC.ret)
 MC.skip))))))))).seq
 ((MC.reg
 [⟨some 2, MOp.mv (Opd.c (AV.int .i64 0)), none⟩]).seq
 MC.ret)) ⟩
def M31 : MFun :=
 ⟨51, [MRes.tmp 0 2], (MC.reg
 [⟨some 2, MOp.mv (Opd.c (AV.int .i64 0)), none⟩]).seq
 ((MC.block 0
 ((MC.reg
 [⟨some 4, MOp.mv (Opd.s 0), none⟩,
 ⟨some 5, MOp.bin .geq (Opd.s 4)
 (Opd.c (AV.int .i64 97)), none⟩,
 ⟨some 6, MOp.mv (Opd.s 5), none⟩,
 ⟨some 7, MOp.mv (Opd.s 0), some (6, true)⟩,
 ⟨some 8, MOp.bin .leq (Opd.s 7)
 (Opd.c (AV.int .i64 122)), some (6, true)⟩,
 ⟨some 9, MOp.pick (Opd.s 6) (Opd.s 8) (Opd.c (AV.bool false)), none⟩,
 ⟨some 10, MOp.mv (Opd.s 9), none⟩,
 ⟨some 11, MOp.mv (Opd.s 0), some (10, false)⟩,
 ⟨some 12, MOp.bin .geq (Opd.s 11)
 (Opd.c (AV.int .i64 65)), some (10, false)⟩,
 ⟨some 13, MOp.mv (Opd.s 12), some (10, false)⟩,
 ⟨some 14, MOp.mv (Opd.s 0), some (13, true)⟩,
 ⟨some 15, MOp.bin .leq (Opd.s 14)
 (Opd.c (AV.int .i64 90)), some (13, true)⟩,
 ⟨some 16, MOp.pick (Opd.s 13) (Opd.s 15) (Opd.c (AV.bool false)), some (10, false)⟩,
 ⟨some 17, MOp.pick (Opd.s 10) (Opd.c (AV.bool true)) (Opd.s 16), none⟩,
 ⟨some 3, MOp.mv (Opd.s 17), none⟩]).seq
 (MC.cond (Opd.s 3)
 ((MC.reg
 [⟨some 2, MOp.mv (Opd.c (AV.int .i64 1)), none⟩]).seq
 MC.ret)
 ((MC.reg
 [⟨some 19, MOp.mv (Opd.s 0), none⟩,
 ⟨some 20, MOp.bin .geq (Opd.s 19)
 (Opd.c (AV.int .i64 48)), none⟩,
 ⟨some 21, MOp.mv (Opd.s 20), none⟩,
 ⟨some 22, MOp.mv (Opd.s 0), some (21, true)⟩,
 ⟨some 23, MOp.bin .leq (Opd.s 22)
 (Opd.c (AV.int .i64 57)), some (21, true)⟩,
 ⟨some 24, MOp.pick (Opd.s 21) (Opd.s 23) (Opd.c (AV.bool false)), none⟩,
 ⟨some 18, MOp.mv (Opd.s 24), none⟩]).seq
 (MC.cond (Opd.s 18)
 ((MC.reg
 [⟨some 2, MOp.mv (Opd.c (AV.int .i64 2)), none⟩]).seq
 MC.ret)
 ((MC.reg
 [⟨some 26, MOp.mv (Opd.s 0), none⟩,
 ⟨some 27, MOp.bin .geq (Opd.s 26)
 (Opd.c (AV.int .i64 32)), none⟩,
 ⟨some 28, MOp.mv (Opd.s 27), none⟩,
 ⟨some 29, MOp.mv (Opd.s 0), some (28, true)⟩,
 ⟨some 30, MOp.bin .leq (Opd.s 29)
 (Opd.c (AV.int .i64 126)), some (28, true)⟩,
 ⟨some 31, MOp.pick (Opd.s 28) (Opd.s 30)
 (Opd.c (AV.bool false)), none⟩,
 ⟨some 25, MOp.mv (Opd.s 31), none⟩]).seq
 (MC.cond (Opd.s 25)
 ((MC.reg
 [⟨some 2, MOp.mv (Opd.c (AV.int .i64 3)), none⟩]).seq
 MC.ret)
 ((MC.reg
 [⟨some 33, MOp.mv (Opd.s 0), none⟩,
 ⟨some 34, MOp.bin .geq (Opd.s 33)
 (Opd.c (AV.int .i64 160)), none⟩,
 ⟨some 35, MOp.mv (Opd.s 34), none⟩,
 ⟨some 36, MOp.mv (Opd.s 0), some (35, true)⟩,
 ⟨some 37, MOp.bin .leq (Opd.s 36)
 (Opd.c (AV.int .i64 1114111)), some (35, true)⟩,
 ⟨some 38, MOp.pick (Opd.s 35) (Opd.s 37)
 (Opd.c (AV.bool false)), none⟩,
 ⟨some 39, MOp.mv (Opd.s 38), none⟩,
 ⟨some 40, MOp.mv (Opd.s 0), some (39, true)⟩,
 ⟨some 41, MOp.bin .neq (Opd.s 40)
 (Opd.c (AV.int .i64 65533)), some (39, true)⟩,
 ⟨some 42, MOp.pick (Opd.s 39) (Opd.s 41)
 (Opd.c (AV.bool false)), none⟩,
 ⟨some 43, MOp.mv (Opd.s 42), none⟩,
 ⟨some 44, MOp.mv (Opd.s 0), some (43, true)⟩,
 ⟨some 45, MOp.bin .lss (Opd.s 44)
 (Opd.c (AV.int .i64 55296)), some (43, true)⟩,
 ⟨some 46, MOp.mv (Opd.s 45), some (43, true)⟩,
 ⟨some 47, MOp.mv (Opd.s 0), some (46, false)⟩,
 ⟨some 48, MOp.bin .gtr (Opd.s 47)
 (Opd.c (AV.int .i64 57343)), some (46, false)⟩,
 ⟨some 49, MOp.pick (Opd.s 46) (Opd.c (AV.bool true))
 (Opd.s 48), some (43, true)⟩,
 ⟨some 50, MOp.pick (Opd.s 43) (Opd.s 49)
 (Opd.c (AV.bool false)), none⟩,
 ⟨some 32, MOp.mv (Opd.s 50), none⟩]).seq
 (MC.cond (Opd.s 32)
 ((MC.reg
 [⟨some 2, MOp.mv (Opd.c (AV.int .i64 4)), none⟩]).seq
 MC.ret)
 MC.skip))))))))).seq
 ((MC.reg
 [⟨some 2, MOp.mv (Opd.c (AV.int .i64 0)), none⟩]).seq
 MC.ret)) ⟩
def M50b0 : MC :=
 (((MC.reg
 [⟨some 5, MOp.mv (Opd.s 4), none⟩,
 ⟨some 6, MOp.mv (Opd.s 0), none⟩,
 ⟨some 7, MOp.len (Opd.s 6), none⟩,
 ⟨some 8, MOp.bin .lss (Opd.s 5) (Opd.s 7), none⟩,
 ⟨some 9, MOp.mv (Opd.s 8), none⟩,
 ⟨some 10, MOp.mv (Opd.s 4), some (9, true)⟩,
 ⟨some 11, MOp.bin .lss (Opd.s 10)
 (Opd.c (AV.int .i64 8)), some (9, true)⟩,
 ⟨some 12, MOp.pick (Opd.s 9) (Opd.s 11)
 (Opd.c (AV.bool false)), none⟩]).seq
 (MC.cond (Opd.s 12) MC.skip (MC.exit 0))).seq
 ((MC.block 1
 (MC.draw
 [⟨some 15, MOp.mv (Opd.s 3), none⟩,
 ⟨some 16, MOp.mv (Opd.s 0), none⟩,
 ⟨some 17, MOp.mv (Opd.s 4), none⟩,
 ⟨some 18, MOp.ixa 2 (Opd.s 16) (Opd.s 17), none⟩,
 ⟨some 19, MOp.fa 0 (Opd.s 18), none⟩,
 ⟨some 20, MOp.load none (Opd.s 19), none⟩,
 ⟨some 21, MOp.mv (Opd.s 0), none⟩,
 ⟨some 22, MOp.mv (Opd.s 4), none⟩,
 ⟨some 23, MOp.ixa 2 (Opd.s 21) (Opd.s 22), none⟩,
 ⟨some 24, MOp.fa 1 (Opd.s 23), none⟩,
 ⟨some 25, MOp.load none (Opd.s 24), none⟩,
 ⟨some 26, MOp.call 21
 [(0, Opd.s 25),
 (0, Opd.c (AV.int .i64 45))], none⟩,
 ⟨some 27, MOp.build [AV.int .i64 0, AV.str []]
 [(0, 1, Opd.s 20), (1, 1, Opd.s 26)], none⟩,
 ⟨some 28, MOp.bsl false 2 1
 [AV.int .i64 0, AV.str []]
 [(0, 2, Opd.s 27)], none⟩,
 ⟨some 29, MOp.app false 2 24 (Opd.s 15) (Opd.s 28), none⟩,
 ⟨some 3, MOp.mv (Opd.s 29), none⟩]
 [0, 0, 0, 6, 14, 30, 0, 0, 192, 448, 960, 1984, 4094, 8190, 16383, 32767])).seq
 (MC.reg
 [⟨some 13, MOp.mv (Opd.s 4), none⟩,
 ⟨some 14, MOp.bin .add (Opd.s 13)
 (Opd.c (AV.int .i64 1)), none⟩,
 ⟨some 4, MOp.mv (Opd.s 14), none⟩])))
def M50b0l : List Bool := [true, false, false, true, true, false, false, false, false, false, false, false, false, false, false, false, false, false, false, false, false, false, false, false, false, false, false, false, false, false, false]
def M50r0 : MC :=
 ((MC.reg
 [⟨some 30, MOp.mv (Opd.s 3), none⟩,
 ⟨some 2, MOp.mv (Opd.s 30), none⟩]).seq
 MC.ret)
def M50 : MFun :=
 ⟨31, [MRes.tmp 2 2], (MC.reg
 [⟨some 2, MOp.mv (Opd.c AV.nils), none⟩]).seq
 ((MC.reg
 [⟨some 3, MOp.mv (Opd.c AV.nils), none⟩]).seq
 (((MC.reg
 [⟨some 4, MOp.mv (Opd.c (AV.int .i64 0)), none⟩]).seq
 (MC.block 0
 (MC.loop M50b0l M50b0))).seq
 M50r0)) ⟩
def M51b0 : MC :=
 ((MC.reg
 [⟨some 10, MOp.bin .lss (Opd.s 9) (Opd.s 8), none⟩]).seq
 ((MC.cond (Opd.s 10) MC.skip (MC.exit 0)).seq
 ((MC.block 1
 ((MC.reg
 [⟨some 11, MOp.ixa 2 (Opd.s 7) (Opd.s 9), none⟩,
 ⟨some 12, MOp.load (some 2) (Opd.s 11), none⟩,
 ⟨some 6, MOp.alloc [AV.int .i64 0, AV.str []], none⟩,
 ⟨none, MOp.store 2 (Opd.s 6) (Opd.s 12), none⟩]).seq
 (((MC.reg
 [⟨some 13, MOp.fa 0 (Opd.s 6), none⟩,
 ⟨some 14, MOp.load none (Opd.s 13), none⟩,
 ⟨some 15, MOp.bin .lss (Opd.s 14)
 (Opd.c (AV.int .i64 0)), none⟩,
 ⟨some 16, MOp.mv (Opd.s 15), none⟩,
 ⟨some 17, MOp.fa 0 (Opd.s 6), some (16, false)⟩,
 ⟨some 18, MOp.load none (Opd.s 17), some (16, false)⟩,
 ⟨some 19, MOp.bin .gtr (Opd.s 18)
 (Opd.c (AV.int .i64 255)), some (16, false)⟩,
 ⟨some 20, MOp.pick (Opd.s 16) (Opd.c (AV.bool true))
 (Opd.s 19), none⟩,
 ⟨some 21, MOp.mv (Opd.s 20), none⟩,
 ⟨some 22, MOp.fa 1 (Opd.s 6), some (21, false)⟩,
 ⟨some 23, MOp.load none (Opd.s 22), some (21, false)⟩,
 ⟨some 24, MOp.lens (Opd.s 23), some (21, false)⟩,
 ⟨some 25, MOp.bin .gtr (Opd.s 24)
 (Opd.c (AV.int .i64 40)), some (21, false)⟩,
 ⟨some 26, MOp.pick (Opd.s 21) (Opd.c (AV.bool true))
 (Opd.s 25), none⟩]).seq
 (MC.cond (Opd.s 26)
 ((MC.reg
 [⟨some 2, MOp.mv (Opd.c (AV.str [])), none⟩,
 ⟨some 3, MOp.mv (Opd.c (AV.bool false)), none⟩]).seq
 MC.ret)
 MC.skip)).seq
 (MC.draw
 [⟨some 27, MOp.mv (Opd.s 4), none⟩,
 ⟨some 28, MOp.fa 0 (Opd.s 6), none⟩,
 ⟨some 29, MOp.load none (Opd.s 28), none⟩,
 ⟨some 30, MOp.conv (Cv.toInt .u8) (Opd.s 29), none⟩,
 ⟨some 31, MOp.fa 1 (Opd.s 6), none⟩,
 ⟨some 32, MOp.load none (Opd.s 31), none⟩,
 ⟨some 33, MOp.lens (Opd.s 32), none⟩,
 ⟨some 34, MOp.conv (Cv.toInt .u8) (Opd.s 33), none⟩,
 ⟨some 35, MOp.bsl false 1 2
 [AV.int .u8 0,
 AV.int .u8 0]
 [(0, 1, Opd.s 30), (1, 1, Opd.s 34)], none⟩,
 ⟨some 36, MOp.app false 1 1 (Opd.s 27) (Opd.s 35), none⟩,
 ⟨some 37, MOp.fa 1 (Opd.s 6), none⟩,
 ⟨some 38, MOp.load none (Opd.s 37), none⟩,
 ⟨some 39, MOp.app false 1 1 (Opd.s 36) (Opd.s 38), none⟩,
 ⟨some 4, MOp.mv (Opd.s 39), none⟩]
 [0, 0, 2, 6, 0, 16, 48, 112, 254, 511, 0, 1024, 4095, 8191])))).seq
 (MC.reg
 [⟨some 40, MOp.bin .add (Opd.s 9)
 (Opd.c (AV.int .i64 1)), none⟩,
 ⟨some 9, MOp.mv (Opd.s 40), none⟩]))))
def M51b0l : List Bool := [false, false, false, false, true, false, false, true, true, true, false, false, false, false, false, false, false, false, false, false, false, false, false, false, false, false, false, false, false, false, false, false, false, false, false, false, false, false, false, false, false, false, false, false, false, false]
def M51r0 : MC :=
 (((MC.reg
 [⟨some 41, MOp.mv (Opd.s 4), none⟩,
 ⟨some 42, MOp.len (Opd.s 41), none⟩,
 ⟨some 43, MOp.bin .gtr (Opd.s 42)
 (Opd.c (AV.int .i64 64)), none⟩]).seq
 (MC.cond (Opd.s 43)
 ((MC.reg
 [⟨some 2, MOp.mv (Opd.c (AV.str [])), none⟩,
 ⟨some 3, MOp.mv (Opd.c (AV.bool false)), none⟩]).seq
 MC.ret)
 MC.skip)).seq
 ((MC.reg
 [⟨some 44, MOp.mv (Opd.s 4), none⟩,
 ⟨some 45, MOp.conv Cv.b2s (Opd.s 44), none⟩,
 ⟨some 2, MOp.mv (Opd.s 45), none⟩,
 ⟨some 3, MOp.mv (Opd.c (AV.bool true)), none⟩]).seq
 MC.ret))
def M51 : MFun :=
 ⟨46, [MRes.tmp 0 2, MRes.tmp 0 3], (MC.reg
 [⟨some 2, MOp.mv (Opd.c (AV.str [])), none⟩,
 ⟨some 3, MOp.mv (Opd.c (AV.bool false)), none⟩]).seq
 ((MC.reg
 [⟨some 4, MOp.mv (Opd.c AV.nils), none⟩]).seq
 (((MC.reg
 [⟨some 7, MOp.mv (Opd.s 0), none⟩,
 ⟨some 8, MOp.len (Opd.s 7), none⟩,
 ⟨some 9, MOp.mv (Opd.c (AV.int .i64 0)), none⟩]).seq
 (MC.block 0
 (MC.loop M51b0l M51b0))).seq
 M51r0)) ⟩
def M52b0 : MC :=
 (((MC.reg
 [⟨some 6, MOp.mv (Opd.s 5), none⟩,
 ⟨some 7, MOp.mv (Opd.s 0), none⟩,
 ⟨some 8, MOp.len (Opd.s 7), none⟩,
 ⟨some 9, MOp.bin .lss (Opd.s 6) (Opd.s 8), none⟩]).seq
 (MC.cond (Opd.s 9) MC.skip (MC.exit 0))).seq
 ((MC.block 1
 (((MC.reg
 [⟨some 12, MOp.mv (Opd.s 0), none⟩,
 ⟨some 13, MOp.mv (Opd.s 5), none⟩,
 ⟨some 14, MOp.ixa 2 (Opd.s 12) (Opd.s 13), none⟩,
 ⟨some 15, MOp.fa 0 (Opd.s 14), none⟩,
 ⟨some 16, MOp.load none (Opd.s 15), none⟩,
 ⟨some 17, MOp.bin .lss (Opd.s 16)
 (Opd.c (AV.int .i64 0)), none⟩,
 ⟨some 18, MOp.mv (Opd.s 17), none⟩,
 ⟨some 19, MOp.mv (Opd.s 0), some (18, false)⟩,
 ⟨some 20, MOp.mv (Opd.s 5), some (18, false)⟩,
 ⟨some 21, MOp.ixa 2 (Opd.s 19) (Opd.s 20), some (18, false)⟩,
 ⟨some 22, MOp.fa 0 (Opd.s 21), some (18, false)⟩,
 ⟨some 23, MOp.load none (Opd.s 22), some (18, false)⟩,
 ⟨some 24, MOp.bin .gtr (Opd.s 23)
 (Opd.c (AV.int .i64 255)), some (18, false)⟩,
 ⟨some 25, MOp.pick (Opd.s 18) (Opd.c (AV.bool true))
 (Opd.s 24), none⟩,
 ⟨some 26, MOp.mv (Opd.s 25), none⟩,
 ⟨some 27, MOp.mv (Opd.s 0), some (26, false)⟩,
 ⟨some 28, MOp.mv (Opd.s 5), some (26, false)⟩,
 ⟨some 29, MOp.ixa 2 (Opd.s 27) (Opd.s 28), some (26, false)⟩,
 ⟨some 30, MOp.fa 1 (Opd.s 29), some (26, false)⟩,
 ⟨some 31, MOp.load none (Opd.s 30), some (26, false)⟩,
 ⟨some 32, MOp.lens (Opd.s 31), some (26, false)⟩,
 ⟨some 33, MOp.bin .gtr (Opd.s 32)
 (Opd.c (AV.int .i64 40)), some (26, false)⟩,
 ⟨some 34, MOp.pick (Opd.s 26) (Opd.c (AV.bool true))
 (Opd.s 33), none⟩]).seq
 (MC.cond (Opd.s 34)
 ((MC.reg
 [⟨some 2, MOp.mv (Opd.c (AV.str [])), none⟩,
 ⟨some 3, MOp.mv (Opd.c (AV.bool false)), none⟩]).seq
 MC.ret)
 MC.skip)).seq
 (MC.draw
 [⟨some 35, MOp.mv (Opd.s 4), none⟩,
 ⟨some 36, MOp.mv (Opd.s 0), none⟩,
 ⟨some 37, MOp.mv (Opd.s 5), none⟩,
 ⟨some 38, MOp.ixa 2 (Opd.s 36) (Opd.s 37), none⟩,
 ⟨some 39, MOp.fa 0 (Opd.s 38), none⟩,
 ⟨some 40, MOp.load none (Opd.s 39), none⟩,
 ⟨some 41, MOp.conv (Cv.toInt .u8) (Opd.s 40), none⟩,
 ⟨some 42, MOp.mv (Opd.s 0), none⟩,
 ⟨some 43, MOp.mv (Opd.s 5), none⟩,
 ⟨some 44, MOp.ixa 2 (Opd.s 42) (Opd.s 43), none⟩,
 ⟨some 45, MOp.fa 1 (Opd.s 44), none⟩,
 ⟨some 46, MOp.load none (Opd.s 45), none⟩,
 ⟨some 47, MOp.lens (Opd.s 46), none⟩,
 ⟨some 48, MOp.conv (Cv.toInt .u8) (Opd.s 47), none⟩,
 ⟨some 49, MOp.bsl false 1 2
 [AV.int .u8 0,
 AV.int .u8 0]
 [(0, 1, Opd.s 41), (1, 1, Opd.s 48)], none⟩,
 ⟨some 50, MOp.conv Cv.b2s (Opd.s 49), none⟩,
 ⟨some 51, MOp.mv (Opd.s 0), none⟩,
 ⟨some 52, MOp.mv (Opd.s 5), none⟩,
 ⟨some 53, MOp.ixa 2 (Opd.s 51) (Opd.s 52), none⟩,
 ⟨some 54, MOp.fa 1 (Opd.s 53), none⟩,
 ⟨some 55, MOp.load none (Opd.s 54), none⟩,
 ⟨some 56, MOp.bin .add (Opd.s 50) (Opd.s 55), none⟩,
 ⟨some 57, MOp.bin .add (Opd.s 35) (Opd.s 56), none⟩,
 ⟨some 4, MOp.mv (Opd.s 57), none⟩]
 [0, 0, 0, 6, 14, 30, 62, 0, 0, 384, 896, 1920, 3968, 8064, 16382, 32766, 0, 0, 196608,
 458752, 983040, 2097150, 4194303, 8388607]))).seq
 (MC.reg
 [⟨some 10, MOp.mv (Opd.s 5), none⟩,
 ⟨some 11, MOp.bin .add (Opd.s 10)
 (Opd.c (AV.int .i64 1)), none⟩,
 ⟨some 5, MOp.mv (Opd.s 11), none⟩])))
def M52b0l : List Bool := [true, false, false, false, true, true, false, false, false, false, false, false, false, false, false, false, false, false, false, false, false, false, false, false, false, false, false, false, false, false, false, false, false, false, false, false, false, false, false, false, false, false, false, false, false, false, false, false, false, false, false, false, false, false, false, false, false, false, false, false, false, false]
def M52r0 : MC :=
 (((MC.reg
 [⟨some 58, MOp.mv (Opd.s 4), none⟩,
 ⟨some 59, MOp.lens (Opd.s 58), none⟩,
 ⟨some 60, MOp.bin .gtr (Opd.s 59)
 (Opd.c (AV.int .i64 64)), none⟩]).seq
 (MC.cond (Opd.s 60)
 ((MC.reg
 [⟨some 2, MOp.mv (Opd.c (AV.str [])), none⟩,
 ⟨some 3, MOp.mv (Opd.c (AV.bool false)), none⟩]).seq
 MC.ret)
 MC.skip)).seq
 ((MC.reg
 [⟨some 61, MOp.mv (Opd.s 4), none⟩,
 ⟨some 2, MOp.mv (Opd.s 61), none⟩,
 ⟨some 3, MOp.mv (Opd.c (AV.bool true)), none⟩]).seq
 MC.ret))
def M52 : MFun :=
 ⟨62, [MRes.tmp 0 2, MRes.tmp 0 3], (MC.reg
 [⟨some 2, MOp.mv (Opd.c (AV.str [])), none⟩,
 ⟨some 3, MOp.mv (Opd.c (AV.bool false)), none⟩]).seq
 ((MC.reg
 [⟨some 4, MOp.mv (Opd.c (AV.str [])), none⟩]).seq
 (((MC.reg
 [⟨some 5, MOp.mv (Opd.c (AV.int .i64 0)), none⟩]).seq
 (MC.block 0
 (MC.loop M52b0l M52b0))).seq
 M52r0)) ⟩
def M53b0 : MC :=
 (((MC.reg
 [⟨some 9, MOp.mv (Opd.s 0), none⟩,
 ⟨some 10, MOp.bin .neq (Opd.s 9) (Opd.c (AV.str [])), none⟩]).seq
 (MC.cond (Opd.s 10) MC.skip (MC.exit 0))).seq
 (MC.block 1
 (((MC.reg
 [⟨some 11, MOp.mv (Opd.s 0), none⟩,
 ⟨some 12, MOp.lens (Opd.s 11), none⟩,
 ⟨some 13, MOp.bin .lss (Opd.s 12)
 (Opd.c (AV.int .i64 2)), none⟩,
 ⟨some 14, MOp.mv (Opd.s 13), none⟩,
 ⟨some 15, MOp.mv (Opd.s 0), some (14, false)⟩,
 ⟨some 16, MOp.ixs (Opd.s 15)
 (Opd.c (AV.int .i64 1)), some (14, false)⟩,
 ⟨some 17, MOp.bin .gtr (Opd.s 16)
 (Opd.c (AV.int .u8 40)), some (14, false)⟩,
 ⟨some 18, MOp.pick (Opd.s 14) (Opd.c (AV.bool true))
 (Opd.s 17), none⟩,
 ⟨some 19, MOp.mv (Opd.s 18), none⟩,
 ⟨some 20, MOp.mv (Opd.s 0), some (19, false)⟩,
 ⟨some 21, MOp.lens (Opd.s 20), some (19, false)⟩,
 ⟨some 22, MOp.mv (Opd.s 0), some (19, false)⟩,
 ⟨some 23, MOp.ixs (Opd.s 22)
 (Opd.c (AV.int .i64 1)), some (19, false)⟩,
 ⟨some 24, MOp.conv (Cv.toInt .i64) (Opd.s 23), some (19, false)⟩,
 ⟨some 25, MOp.bin .add
 (Opd.c (AV.int .i64 2)) (Opd.s 24), some (19, false)⟩,
 ⟨some 26, MOp.bin .lss (Opd.s 21) (Opd.s 25), some (19, false)⟩,
 ⟨some 27, MOp.pick (Opd.s 19) (Opd.c (AV.bool true))
 (Opd.s 26), none⟩]).seq
 (MC.cond (Opd.s 27)
 ((MC.reg
 [⟨some 2, MOp.mv (Opd.c AV.nils), none⟩,
 ⟨some 3, MOp.mv (Opd.c (AV.bool false)), none⟩]).seq
 MC.ret)
 MC.skip)).seq
 ((MC.reg
 [⟨some 28, MOp.mv (Opd.s 0), none⟩,
 ⟨some 29, MOp.ixs (Opd.s 28)
 (Opd.c (AV.int .i64 1)), none⟩,
 ⟨some 30, MOp.conv (Cv.toInt .i64) (Opd.s 29), none⟩,
 ⟨some 31, MOp.bin .add
 (Opd.c (AV.int .i64 2)) (Opd.s 30), none⟩,
 ⟨some 5, MOp.mv (Opd.s 31), none⟩]).seq
 ((MC.draw
 [⟨some 32, MOp.mv (Opd.s 4), none⟩,
 ⟨some 33, MOp.mv (Opd.s 0), none⟩,
 ⟨some 34, MOp.ixs (Opd.s 33)
 (Opd.c (AV.int .i64 0)), none⟩,
 ⟨some 35, MOp.conv (Cv.toInt .i64) (Opd.s 34), none⟩,
 ⟨some 36, MOp.mv (Opd.s 0), none⟩,
 ⟨some 37, MOp.mv (Opd.s 5), none⟩,
 ⟨some 38, MOp.sls (Opd.s 36)
 (some (Opd.c (AV.int .i64 2)))
 (some (Opd.s 37)), none⟩,
 ⟨some 39, MOp.build [AV.int .i64 0, AV.str []]
 [(0, 1, Opd.s 35), (1, 1, Opd.s 38)], none⟩,
 ⟨some 40, MOp.bsl false 2 1
 [AV.int .i64 0, AV.str []]
 [(0, 2, Opd.s 39)], none⟩,
 ⟨some 41, MOp.app false 2 24 (Opd.s 32) (Opd.s 40), none⟩,
 ⟨some 4, MOp.mv (Opd.s 41), none⟩]
 [0, 0, 2, 6, 0, 0, 48, 126, 254, 511, 1023]).seq
 (MC.reg
 [⟨some 42, MOp.mv (Opd.s 0), none⟩,
 ⟨some 43, MOp.mv (Opd.s 5), none⟩,
 ⟨some 44, MOp.sls (Opd.s 42) (some (Opd.s 43)) none, none⟩,
 ⟨some 0, MOp.mv (Opd.s 44), none⟩]))))))
def M53b0l : List Bool := [true, false, false, false, true, false, false, false, false, false, false, false, false, false, false, false, false, false, false, false, false, false, false, false, false, false, false, false, false, false, false, false, false, false, false, false, false, false, false, false, false, false, false, false, false, false]
def M53r0 : MC :=
 ((MC.reg
 [⟨some 45, MOp.mv (Opd.s 4), none⟩,
 ⟨some 2, MOp.mv (Opd.s 45), none⟩,
 ⟨some 3, MOp.mv (Opd.c (AV.bool true)), none⟩]).seq
 MC.ret)
def M53 : MFun :=
 ⟨46, [MRes.tmp 2 2, MRes.tmp 0 3], (MC.reg
 [⟨some 2, MOp.mv (Opd.c AV.nils), none⟩,
 ⟨some 3, MOp.mv (Opd.c (AV.bool false)), none⟩]).seq
 ((MC.reg
 [⟨some 4, MOp.mv (Opd.c AV.nils), none⟩]).seq
 (((MC.reg
 [⟨some 6, MOp.mv (Opd.s 0), none⟩,
 ⟨some 7, MOp.lens (Opd.s 6), none⟩,
 ⟨some 8, MOp.bin .gtr (Opd.s 7)
 (Opd.c (AV.int .i64 64)), none⟩]).seq
 (MC.cond (Opd.s 8)
 ((MC.reg
 [⟨some 2, MOp.mv (Opd.c AV.nils), none⟩,
 ⟨some 3, MOp.mv (Opd.c (AV.bool false)), none⟩]).seq
 MC.ret)
 MC.skip)).seq
 ((MC.block 0
 (MC.loop M53b0l M53b0)).seq
 M53r0))) ⟩
def M54b0 : MC :=
 ((MC.reg
 [⟨some 14, MOp.bin .lss (Opd.s 13) (Opd.s 12), none⟩]).seq
 ((MC.cond (Opd.s 14) MC.skip (MC.exit 0)).seq
 ((MC.block 1
 ((MC.reg
 [⟨some 15, MOp.mv (Opd.s 13), none⟩,
 ⟨some 5, MOp.mv (Opd.s 15), none⟩]).seq
 ((MC.draw
 [⟨some 16, MOp.mv (Opd.s 0), none⟩,
 ⟨some 17, MOp.mv (Opd.s 5), none⟩,
 ⟨some 18, MOp.ixa 2 (Opd.s 16) (Opd.s 17), none⟩,
 ⟨some 19, MOp.load (some 2) (Opd.s 18), none⟩,
 ⟨some 20, MOp.mv (Opd.s 1), none⟩,
 ⟨some 21, MOp.mv (Opd.s 5), none⟩,
 ⟨some 22, MOp.ixa 2 (Opd.s 20) (Opd.s 21), none⟩,
 ⟨some 23, MOp.load (some 2) (Opd.s 22), none⟩,
 ⟨some 24, MOp.eqv true
 (EqK.flat (EqF.many [SK.i, SK.s]))
 (Opd.s 19) (Opd.s 23), none⟩]
 [0, 0, 3, 7, 0, 0, 48, 112, 255]).seq
 (MC.cond (Opd.s 24)
 ((MC.reg
 [⟨some 4, MOp.mv (Opd.c (AV.bool false)), none⟩]).seq
 MC.ret)
 MC.skip)))).seq
 (MC.reg
 [⟨some 25, MOp.bin .add (Opd.s 13)
 (Opd.c (AV.int .i64 1)), none⟩,
 ⟨some 13, MOp.mv (Opd.s 25), none⟩]))))
def M54b0l : List Bool := [true, true, false, false, false, false, false, false, false, false, false, false, true, true, false, false, false, false, false, false, false, false, false, false, false, false]
def M54r0 : MC :=
 ((MC.reg
 [⟨some 4, MOp.mv (Opd.c (AV.bool true)), none⟩]).seq
 MC.ret)
def M54 : MFun :=
 ⟨26, [MRes.tmp 0 4], (MC.reg
 [⟨some 4, MOp.mv (Opd.c (AV.bool false)), none⟩]).seq
 (((MC.reg
 [⟨some 6, MOp.mv (Opd.s 0), none⟩,
 ⟨some 7, MOp.len (Opd.s 6), none⟩,
 ⟨some 8, MOp.mv (Opd.s 1), none⟩,
 ⟨some 9, MOp.len (Opd.s 8), none⟩,
 ⟨some 10, MOp.bin .neq (Opd.s 7) (Opd.s 9), none⟩]).seq
 (MC.cond (Opd.s 10)
 ((MC.reg
 [⟨some 4, MOp.mv (Opd.c (AV.bool false)), none⟩]).seq
 MC.ret)
 MC.skip)).seq
 (((MC.reg
 [⟨some 11, MOp.mv (Opd.s 0), none⟩,
 ⟨some 12, MOp.len (Opd.s 11), none⟩,
 ⟨some 13, MOp.mv (Opd.c (AV.int .i64 0)), none⟩]).seq
 (MC.block 0
 (MC.loop M54b0l M54b0))).seq
 M54r0)) ⟩
def M55b0 : MC :=
 ((MC.reg
 [⟨some 11, MOp.bin .lss (Opd.s 10) (Opd.s 9), none⟩]).seq
 ((MC.cond (Opd.s 11) MC.skip (MC.exit 0)).seq
 ((MC.block 1
 ((MC.reg
 [⟨some 12, MOp.ixa 2 (Opd.s 8) (Opd.s 10), none⟩,
 ⟨some 13, MOp.load (some 2) (Opd.s 12), none⟩,
 ⟨some 7, MOp.alloc [AV.int .i64 0, AV.str []], none⟩,
 ⟨none, MOp.store 2 (Opd.s 7) (Opd.s 13), none⟩]).seq
 ((MC.reg
 [⟨some 14, MOp.fa 0 (Opd.s 7), none⟩,
 ⟨some 15, MOp.load none (Opd.s 14), none⟩,
 ⟨some 16, MOp.mv (Opd.s 1), none⟩,
 ⟨some 17, MOp.bin .eql (Opd.s 15) (Opd.s 16), none⟩]).seq
 (MC.cond (Opd.s 17)
 ((MC.reg
 [⟨some 18, MOp.fa 1 (Opd.s 7), none⟩,
 ⟨some 19, MOp.load none (Opd.s 18), none⟩,
 ⟨some 4, MOp.mv (Opd.s 19), none⟩,
 ⟨some 5, MOp.mv (Opd.c (AV.bool true)), none⟩]).seq
 MC.ret)
 MC.skip)))).seq
 (MC.reg
 [⟨some 20, MOp.bin .add (Opd.s 10)
 (Opd.c (AV.int .i64 1)), none⟩,
 ⟨some 10, MOp.mv (Opd.s 20), none⟩]))))
def M55b0l : List Bool := [false, true, false, false, false, false, false, false, true, true, true, false, false, false, false, false, false, false, false, false, false]
def M55r0 : MC :=
 ((MC.reg
 [⟨some 4, MOp.mv (Opd.c (AV.str [])), none⟩,
 ⟨some 5, MOp.mv (Opd.c (AV.bool false)), none⟩]).seq
 MC.ret)
def M55 : MFun :=
 ⟨21, [MRes.tmp 0 4, MRes.tmp 0 5], (MC.reg
 [⟨some 4, MOp.mv (Opd.c (AV.str [])), none⟩,
 ⟨some 5, MOp.mv (Opd.c (AV.bool false)), none⟩]).seq
 (((MC.reg
 [⟨some 8, MOp.mv (Opd.s 0), none⟩,
 ⟨some 9, MOp.len (Opd.s 8), none⟩,
 ⟨some 10, MOp.mv (Opd.c (AV.int .i64 0)), none⟩]).seq
 (MC.block 0
 (MC.loop M55b0l M55b0))).seq
 M55r0) ⟩
def M56 : MFun :=
 ⟨43, [MRes.tmp 0 2], (MC.reg
 [⟨some 2, MOp.mv (Opd.c (AV.bool false)), none⟩]).seq
 ((MC.reg
 [⟨some 10, MOp.mv (Opd.s 0), none⟩,
 ⟨some 11, MOp.call 53 [(0, Opd.s 10)], none⟩,
 ⟨some 9, MOp.mv (Opd.s 11), none⟩,
 ⟨some 12, MOp.ext 0 (Opd.s 9), none⟩,
 ⟨some 13, MOp.ext 1 (Opd.s 9), none⟩,
 ⟨some 3, MOp.mv (Opd.s 12), none⟩,
 ⟨some 4, MOp.mv (Opd.s 13), none⟩]).seq
 ((MC.reg
 [⟨some 15, MOp.mv (Opd.s 0), none⟩,
 ⟨some 16, MOp.call 72 [(0, Opd.s 15)], none⟩,
 ⟨some 14, MOp.mv (Opd.s 16), none⟩,
 ⟨some 17, MOp.ext 0 (Opd.s 14), none⟩,
 ⟨some 18, MOp.ext 1 (Opd.s 14), none⟩,
 ⟨some 5, MOp.mv (Opd.s 17), none⟩,
 ⟨some 6, MOp.mv (Opd.s 18), none⟩]).seq
 (((MC.reg
 [⟨some 19, MOp.mv (Opd.s 4), none⟩,
 ⟨some 20, MOp.mv (Opd.s 6), none⟩,
 ⟨some 21, MOp.eqv true (EqK.flat (EqF.one SK.b)) (Opd.s 19)
 (Opd.s 20), none⟩,
 ⟨some 22, MOp.mv (Opd.s 21), none⟩,
 ⟨some 23, MOp.mv (Opd.s 3), some (22, false)⟩,
 ⟨some 24, MOp.mv (Opd.s 5), some (22, false)⟩,
 ⟨some 25, MOp.call 54 [(2, Opd.s 23), (2, Opd.s 24)], some (22, false)⟩,
 ⟨some 26, MOp.un .not (Opd.s 25), some (22, false)⟩,
 ⟨some 27, MOp.pick (Opd.s 22) (Opd.c (AV.bool true)) (Opd.s 26), none⟩]).seq
 (MC.cond (Opd.s 27)
 ((MC.reg
 [⟨some 2, MOp.mv (Opd.c (AV.bool false)), none⟩]).seq
 MC.ret)
 MC.skip)).seq
 ((MC.reg
 [⟨some 29, MOp.mv (Opd.s 3), none⟩,
 ⟨some 30, MOp.call 51 [(2, Opd.s 29)], none⟩,
 ⟨some 28, MOp.mv (Opd.s 30), none⟩,
 ⟨some 31, MOp.ext 0 (Opd.s 28), none⟩,
 ⟨some 32, MOp.ext 1 (Opd.s 28), none⟩,
 ⟨some 7, MOp.mv (Opd.s 31), none⟩,
 ⟨some 8, MOp.mv (Opd.s 32), none⟩]).seq
 ((MC.reg
 [⟨some 33, MOp.mv (Opd.s 4), none⟩,
 ⟨some 34, MOp.un .not (Opd.s 33), none⟩,
 ⟨some 35, MOp.mv (Opd.s 34), none⟩,
 ⟨some 36, MOp.mv (Opd.s 8), some (35, false)⟩,
 ⟨some 37, MOp.mv (Opd.s 36), some (35, false)⟩,
 ⟨some 38, MOp.mv (Opd.s 7), some (37, true)⟩,
 ⟨some 39, MOp.mv (Opd.s 0), some (37, true)⟩,
 ⟨some 40, MOp.bin .eql (Opd.s 38) (Opd.s 39), some (37, true)⟩,
 ⟨some 41, MOp.pick (Opd.s 37) (Opd.s 40) (Opd.c (AV.bool false)), some (35, false)⟩,
 ⟨some 42, MOp.pick (Opd.s 35) (Opd.c (AV.bool true)) (Opd.s 41), none⟩,
 ⟨some 2, MOp.mv (Opd.s 42), none⟩]).seq
 MC.ret))))) ⟩
def M64b0 : MC :=
 (((MC.reg
 [⟨some 45, MOp.mv (Opd.s 9), none⟩,
 ⟨some 46, MOp.mv (Opd.s 6), none⟩,
 ⟨some 47, MOp.bin .lss (Opd.s 45) (Opd.s 46), none⟩]).seq
 (MC.cond (Opd.s 47) MC.skip (MC.exit 1))).seq
 ((MC.block 2
 (((MC.reg
 [⟨some 50, MOp.mv (Opd.s 9), none⟩,
 ⟨some 51, MOp.mv (Opd.s 0), none⟩,
 ⟨some 52, MOp.lens (Opd.s 51), none⟩,
 ⟨some 53, MOp.bin .geq (Opd.s 50) (Opd.s 52), none⟩,
 ⟨some 54, MOp.mv (Opd.s 53), none⟩,
 ⟨some 55, MOp.mv (Opd.s 0), some (54, false)⟩,
 ⟨some 56, MOp.mv (Opd.s 9), some (54, false)⟩,
 ⟨some 57, MOp.ixs (Opd.s 55) (Opd.s 56), some (54, false)⟩,
 ⟨some 58, MOp.bin .lss (Opd.s 57)
 (Opd.c (AV.int .u8 128)), some (54, false)⟩,
 ⟨some 59, MOp.pick (Opd.s 54) (Opd.c (AV.bool true))
 (Opd.s 58), none⟩,
 ⟨some 60, MOp.mv (Opd.s 59), none⟩,
 ⟨some 61, MOp.mv (Opd.s 0), some (60, false)⟩,
 ⟨some 62, MOp.mv (Opd.s 9), some (60, false)⟩,
 ⟨some 63, MOp.ixs (Opd.s 61) (Opd.s 62), some (60, false)⟩,
 ⟨some 64, MOp.bin .geq (Opd.s 63)
 (Opd.c (AV.int .u8 192)), some (60, false)⟩,
 ⟨some 65, MOp.pick (Opd.s 60) (Opd.c (AV.bool true))
 (Opd.s 64), none⟩]).seq
 (MC.cond (Opd.s 65)
 ((MC.reg
 [⟨some 2, MOp.mv
 (Opd.c (AV.int .i64 0)), none⟩,
 ⟨some 3, MOp.mv
 (Opd.c (AV.int .i64 1)), none⟩,
 ⟨some 4, MOp.mv (Opd.c (AV.bool false)), none⟩]).seq
 MC.ret)
 MC.skip)).seq
 (MC.reg
 [⟨some 66, MOp.mv (Opd.s 8), none⟩,
 ⟨some 67, MOp.bin .mul (Opd.s 66)
 (Opd.c (AV.int .i64 64)), none⟩,
 ⟨some 68, MOp.mv (Opd.s 0), none⟩,
 ⟨some 69, MOp.mv (Opd.s 9), none⟩,
 ⟨some 70, MOp.ixs (Opd.s 68) (Opd.s 69), none⟩,
 ⟨some 71, MOp.conv (Cv.toInt .i64) (Opd.s 70), none⟩,
 ⟨some 72, MOp.bin .add (Opd.s 67) (Opd.s 71), none⟩,
 ⟨some 73, MOp.bin .sub (Opd.s 72)
 (Opd.c (AV.int .i64 128)), none⟩,
 ⟨some 8, MOp.mv (Opd.s 73), none⟩]))).seq
 (MC.reg
 [⟨some 48, MOp.mv (Opd.s 9), none⟩,
 ⟨some 49, MOp.bin .add (Opd.s 48)
 (Opd.c (AV.int .i64 1)), none⟩,
 ⟨some 9, MOp.mv (Opd.s 49), none⟩])))
def M64b0l : List Bool := [true, false, false, false, false, false, true, true, true, true, false, false, false, false, false, false, false, false, false, false, false, false, false, false, false, false, false, false, false, false, false, false, false, false, false, false, false, false, false, false, false, false, false, false, false, false, false, false, false, false, false, false, false, false, false, false, false, false, false, false, false, false, false, false, false, false, false, false, false, false, false, false, false, false, false, false, false, false, false, false, false, false, false, false, false, false, false, false, false, false, false]
def M64r0 : MC :=
 (((MC.reg
 [⟨some 74, MOp.mv (Opd.s 8), none⟩,
 ⟨some 75, MOp.mv (Opd.s 7), none⟩,
 ⟨some 76, MOp.bin .lss (Opd.s 74) (Opd.s 75), none⟩,
 ⟨some 77, MOp.mv (Opd.s 76), none⟩,
 ⟨some 78, MOp.mv (Opd.s 8), some (77, false)⟩,
 ⟨some 79, MOp.bin .geq (Opd.s 78)
 (Opd.c (AV.int .i64 55296)), some (77, false)⟩,
 ⟨some 80, MOp.mv (Opd.s 79), some (77, false)⟩,
 ⟨some 81, MOp.mv (Opd.s 8), some (80, true)⟩,
 ⟨some 82, MOp.bin .lss (Opd.s 81)
 (Opd.c (AV.int .i64 57344)), some (80, true)⟩,
 ⟨some 83, MOp.pick (Opd.s 80) (Opd.s 82)
 (Opd.c (AV.bool false)), some (77, false)⟩,
 ⟨some 84, MOp.pick (Opd.s 77) (Opd.c (AV.bool true))
 (Opd.s 83), none⟩,
 ⟨some 85, MOp.mv (Opd.s 84), none⟩,
 ⟨some 86, MOp.mv (Opd.s 8), some (85, false)⟩,
 ⟨some 87, MOp.bin .gtr (Opd.s 86)
 (Opd.c (AV.int .i64 1114111)), some (85, false)⟩,
 ⟨some 88, MOp.pick (Opd.s 85) (Opd.c (AV.bool true))
 (Opd.s 87), none⟩]).seq
 (MC.cond (Opd.s 88)
 ((MC.reg
 [⟨some 2, MOp.mv (Opd.c (AV.int .i64 0)), none⟩,
 ⟨some 3, MOp.mv (Opd.c (AV.int .i64 1)), none⟩,
 ⟨some 4, MOp.mv (Opd.c (AV.bool false)), none⟩]).seq
 MC.ret)
 MC.skip)).seq
 ((MC.reg
 [⟨some 89, MOp.mv (Opd.s 8), none⟩,
 ⟨some 90, MOp.mv (Opd.s 6), none⟩,
 ⟨some 2, MOp.mv (Opd.s 89), none⟩,
 ⟨some 3, MOp.mv (Opd.s 90), none⟩,
 ⟨some 4, MOp.mv (Opd.c (AV.bool true)), none⟩]).seq
 MC.ret))
def M64 : MFun :=
 ⟨91, [MRes.tmp 0 2, MRes.tmp 0 3, MRes.tmp 0 4], (MC.reg
 [⟨some 2, MOp.mv (Opd.c (AV.int .i64 0)), none⟩,
 ⟨some 3, MOp.mv (Opd.c (AV.int .i64 0)), none⟩,
 ⟨some 4, MOp.mv (Opd.c (AV.bool false)), none⟩]).seq
 ((MC.reg
 [⟨some 10, MOp.mv (Opd.s 0), none⟩,
 ⟨some 11, MOp.ixs (Opd.s 10) (Opd.c (AV.int .i64 0)), none⟩,
 ⟨some 12, MOp.conv (Cv.toInt .i64) (Opd.s 11), none⟩,
 ⟨some 5, MOp.mv (Opd.s 12), none⟩]).seq
 ((MC.reg
 [⟨some 13, MOp.mv (Opd.s 5), none⟩,
 ⟨some 6, MOp.mv (Opd.c (AV.int .i64 1)), none⟩,
 ⟨some 7, MOp.mv (Opd.c (AV.int .i64 0)), none⟩,
 ⟨some 8, MOp.mv (Opd.s 13), none⟩]).seq
 ((MC.block 0
 ((MC.reg
 [⟨some 15, MOp.mv (Opd.s 5), none⟩,
 ⟨some 16, MOp.bin .lss (Opd.s 15)
 (Opd.c (AV.int .i64 128)), none⟩,
 ⟨some 14, MOp.mv (Opd.s 16), none⟩]).seq
 (MC.cond (Opd.s 14)
 ((MC.reg
 [⟨some 17, MOp.mv (Opd.s 5), none⟩,
 ⟨some 2, MOp.mv (Opd.s 17), none⟩,
 ⟨some 3, MOp.mv (Opd.c (AV.int .i64 1)), none⟩,
 ⟨some 4, MOp.mv (Opd.c (AV.bool true)), none⟩]).seq
 MC.ret)
 ((MC.reg
 [⟨some 19, MOp.mv (Opd.s 5), none⟩,
 ⟨some 20, MOp.bin .geq (Opd.s 19)
 (Opd.c (AV.int .i64 194)), none⟩,
 ⟨some 21, MOp.mv (Opd.s 20), none⟩,
 ⟨some 22, MOp.mv (Opd.s 5), some (21, true)⟩,
 ⟨some 23, MOp.bin .lss (Opd.s 22)
 (Opd.c (AV.int .i64 224)), some (21, true)⟩,
 ⟨some 24, MOp.pick (Opd.s 21) (Opd.s 23)
 (Opd.c (AV.bool false)), none⟩,
 ⟨some 18, MOp.mv (Opd.s 24), none⟩]).seq
 (MC.cond (Opd.s 18)
 (MC.reg
 [⟨some 25, MOp.mv (Opd.s 5), none⟩,
 ⟨some 26, MOp.bin .sub (Opd.s 25)
 (Opd.c (AV.int .i64 192)), none⟩,
 ⟨some 6, MOp.mv (Opd.c (AV.int .i64 2)), none⟩,
 ⟨some 7, MOp.mv (Opd.c (AV.int .i64 128)), none⟩,
 ⟨some 8, MOp.mv (Opd.s 26), none⟩])
 ((MC.reg
 [⟨some 28, MOp.mv (Opd.s 5), none⟩,
 ⟨some 29, MOp.bin .geq (Opd.s 28)
 (Opd.c (AV.int .i64 224)), none⟩,
 ⟨some 30, MOp.mv (Opd.s 29), none⟩,
 ⟨some 31, MOp.mv (Opd.s 5), some (30, true)⟩,
 ⟨some 32, MOp.bin .lss (Opd.s 31)
 (Opd.c (AV.int .i64 240)), some (30, true)⟩,
 ⟨some 33, MOp.pick (Opd.s 30) (Opd.s 32)
 (Opd.c (AV.bool false)), none⟩,
 ⟨some 27, MOp.mv (Opd.s 33), none⟩]).seq
 (MC.cond (Opd.s 27)
 (MC.reg
 [⟨some 34, MOp.mv (Opd.s 5), none⟩,
 ⟨some 35, MOp.bin .sub (Opd.s 34)
 (Opd.c (AV.int .i64 224)), none⟩,
 ⟨some 6, MOp.mv (Opd.c (AV.int .i64 3)), none⟩,
 ⟨some 7, MOp.mv (Opd.c (AV.int .i64 2048)), none⟩,
 ⟨some 8, MOp.mv (Opd.s 35), none⟩])
 ((MC.reg
 [⟨some 37, MOp.mv (Opd.s 5), none⟩,
 ⟨some 38, MOp.bin .geq (Opd.s 37)
 (Opd.c (AV.int .i64 240)), none⟩,
 ⟨some 39, MOp.mv (Opd.s 38), none⟩,
 ⟨some 40, MOp.mv (Opd.s 5), some (39, true)⟩,
 ⟨some 41, MOp.bin .lss (Opd.s 40)
 (Opd.c (AV.int .i64 245)), some (39, true)⟩,
 ⟨some 42, MOp.pick (Opd.s 39) (Opd.s 41)
 (Opd.c (AV.bool false)), none⟩,
 ⟨some 36, MOp.mv (Opd.s 42), none⟩]).seq
 (MC.cond (Opd.s 36)
 (MC.reg
 [⟨some 43, MOp.mv (Opd.s 5), none⟩,
 ⟨some 44, MOp.bin .sub (Opd.s 43)
 (Opd.c (AV.int .i64 240)), none⟩,
 ⟨some 6, MOp.mv (Opd.c (AV.int .i64 4)), none⟩,
 ⟨some 7, MOp.mv (Opd.c (AV.int .i64 65536)), none⟩,
 ⟨some 8, MOp.mv (Opd.s 44), none⟩])
 ((MC.reg
 [⟨some 2, MOp.mv (Opd.c (AV.int .i64 0)), none⟩,
 ⟨some 3, MOp.mv (Opd.c (AV.int .i64 1)), none⟩,
 ⟨some 4, MOp.mv (Opd.c (AV.bool false)), none⟩]).seq
 MC.ret)))))))))).seq
 (((MC.reg
 [⟨some 9, MOp.mv (Opd.c (AV.int .i64 1)), none⟩]).seq
 (MC.block 1
 (MC.loop M64b0l M64b0))).seq
 M64r0)))) ⟩
def M65 : MFun :=
 ⟨19, [MRes.tmp 0 2, MRes.tmp 0 3], (MC.reg
 [⟨some 2, MOp.mv (Opd.c (AV.int .i32 0)), none⟩,
 ⟨some 3, MOp.mv (Opd.c (AV.int .i64 0)), none⟩]).seq
 (((MC.reg
 [⟨some 4, MOp.mv (Opd.s 0), none⟩,
 ⟨some 5, MOp.bin .neq (Opd.s 4) (Opd.c (AV.str [])), none⟩,
 ⟨some 6, MOp.mv (Opd.s 5), none⟩,
 ⟨some 7, MOp.mv (Opd.s 0), some (6, true)⟩,
 ⟨some 8, MOp.ixs (Opd.s 7) (Opd.c (AV.int .i64 0)), some (6, true)⟩,
 ⟨some 9, MOp.bin .lss (Opd.s 8)
 (Opd.c (AV.int .u8 128)), some (6, true)⟩,
 ⟨some 10, MOp.pick (Opd.s 6) (Opd.s 9) (Opd.c (AV.bool false)), none⟩]).seq
 (MC.cond (Opd.s 10)
 ((MC.reg
 [⟨some 11, MOp.mv (Opd.s 0), none⟩,
 ⟨some 12, MOp.ixs (Opd.s 11) (Opd.c (AV.int .i64 0)), none⟩,
 ⟨some 13, MOp.conv (Cv.toInt .i32) (Opd.s 12), none⟩,
 ⟨some 2, MOp.mv (Opd.s 13), none⟩,
 ⟨some 3, MOp.mv (Opd.c (AV.int .i64 1)), none⟩]).seq
 MC.ret)
 (MC.reg
 [⟨some 15, MOp.mv (Opd.s 0), none⟩,
 ⟨some 16, MOp.call 75 [(0, Opd.s 15)], none⟩,
 ⟨some 14, MOp.mv (Opd.s 16), none⟩,
 ⟨some 17, MOp.ext 0 (Opd.s 14), none⟩,
 ⟨some 18, MOp.ext 1 (Opd.s 14), none⟩,
 ⟨some 2, MOp.mv (Opd.s 17), none⟩,
 ⟨some 3, MOp.mv (Opd.s 18), none⟩]))).seq
 MC.ret) ⟩
def M66 : MFun :=
 ⟨17, [MRes.tmp 0 2], (MC.reg
 [⟨some 2, MOp.mv (Opd.c (AV.bool false)), none⟩]).seq
 ((MC.block 0
 ((MC.reg
 [⟨some 4, MOp.mv (Opd.s 0), none⟩,
 ⟨some 5, MOp.bin .leq (Opd.c (AV.int .i32 0))
 (Opd.s 4), none⟩,
 ⟨some 6, MOp.mv (Opd.s 5), none⟩,
 ⟨some 7, MOp.mv (Opd.s 0), some (6, true)⟩,
 ⟨some 8, MOp.bin .lss (Opd.s 7)
 (Opd.c (AV.int .i32 55296)), some (6, true)⟩,
 ⟨some 9, MOp.pick (Opd.s 6) (Opd.s 8) (Opd.c (AV.bool false)), none⟩,
 ⟨some 3, MOp.mv (Opd.s 9), none⟩]).seq
 (MC.cond (Opd.s 3)
 ((MC.reg
 [⟨some 2, MOp.mv (Opd.c (AV.bool true)), none⟩]).seq
 MC.ret)
 ((MC.reg
 [⟨some 11, MOp.mv (Opd.s 0), none⟩,
 ⟨some 12, MOp.bin .lss (Opd.c (AV.int .i32 57343))
 (Opd.s 11), none⟩,
 ⟨some 13, MOp.mv (Opd.s 12), none⟩,
 ⟨some 14, MOp.mv (Opd.s 0), some (13, true)⟩,
 ⟨some 15, MOp.bin .leq (Opd.s 14)
 (Opd.c (AV.int .i32 1114111)), some (13, true)⟩,
 ⟨some 16, MOp.pick (Opd.s 13) (Opd.s 15) (Opd.c (AV.bool false)), none⟩,
 ⟨some 10, MOp.mv (Opd.s 16), none⟩]).seq
 (MC.cond (Opd.s 10)
 ((MC.reg
 [⟨some 2, MOp.mv (Opd.c (AV.bool true)), none⟩]).seq
 MC.ret)
 MC.skip))))).seq
 ((MC.reg
 [⟨some 2, MOp.mv (Opd.c (AV.bool false)), none⟩]).seq
 MC.ret)) ⟩
def M72b0 : MC :=
 (((MC.reg
 [⟨some 8, MOp.mv (Opd.s 0), none⟩,
 ⟨some 9, MOp.bin .neq (Opd.s 8) (Opd.c (AV.str [])), none⟩]).seq
 (MC.cond (Opd.s 9) MC.skip (MC.exit 0))).seq
 (MC.block 1
 (((MC.reg
 [⟨some 10, MOp.mv (Opd.s 0), none⟩,
 ⟨some 11, MOp.lens (Opd.s 10), none⟩,
 ⟨some 12, MOp.bin .lss (Opd.s 11)
 (Opd.c (AV.int .i64 2)), none⟩,
 ⟨some 13, MOp.mv (Opd.s 12), none⟩,
 ⟨some 14, MOp.mv (Opd.s 0), some (13, false)⟩,
 ⟨some 15, MOp.ixs (Opd.s 14)
 (Opd.c (AV.int .i64 1)), some (13, false)⟩,
 ⟨some 16, MOp.bin .gtr (Opd.s 15)
 (Opd.c (AV.int .u8 40)), some (13, false)⟩,
 ⟨some 17, MOp.pick (Opd.s 13) (Opd.c (AV.bool true))
 (Opd.s 16), none⟩,
 ⟨some 18, MOp.mv (Opd.s 17), none⟩,
 ⟨some 19, MOp.mv (Opd.s 0), some (18, false)⟩,
 ⟨some 20, MOp.lens (Opd.s 19), some (18, false)⟩,
 ⟨some 21, MOp.bin .sub (Opd.s 20)
 (Opd.c (AV.int .i64 2)), some (18, false)⟩,
 ⟨some 22, MOp.mv (Opd.s 0), some (18, false)⟩,
 ⟨some 23, MOp.ixs (Opd.s 22)
 (Opd.c (AV.int .i64 1)), some (18, false)⟩,
 ⟨some 24, MOp.conv (Cv.toInt .i64) (Opd.s 23), some (18, false)⟩,
 ⟨some 25, MOp.bin .lss (Opd.s 21) (Opd.s 24), some (18, false)⟩,
 ⟨some 26, MOp.pick (Opd.s 18) (Opd.c (AV.bool true))
 (Opd.s 25), none⟩]).seq
 (MC.cond (Opd.s 26)
 ((MC.reg
 [⟨some 2, MOp.mv (Opd.c AV.nils), none⟩,
 ⟨some 3, MOp.mv (Opd.c (AV.bool false)), none⟩]).seq
 MC.ret)
 MC.skip)).seq
 ((MC.draw
 [⟨some 27, MOp.mv (Opd.s 4), none⟩,
 ⟨some 28, MOp.mv (Opd.s 0), none⟩,
 ⟨some 29, MOp.ixs (Opd.s 28)
 (Opd.c (AV.int .i64 0)), none⟩,
 ⟨some 30, MOp.conv (Cv.toInt .i64) (Opd.s 29), none⟩,
 ⟨some 31, MOp.mv (Opd.s 0), none⟩,
 ⟨some 32, MOp.mv (Opd.s 0), none⟩,
 ⟨some 33, MOp.ixs (Opd.s 32)
 (Opd.c (AV.int .i64 1)), none⟩,
 ⟨some 34, MOp.conv (Cv.toInt .i64) (Opd.s 33), none⟩,
 ⟨some 35, MOp.bin .add
 (Opd.c (AV.int .i64 2)) (Opd.s 34), none⟩,
 ⟨some 36, MOp.sls (Opd.s 31)
 (some (Opd.c (AV.int .i64 2)))
 (some (Opd.s 35)), none⟩,
 ⟨some 37, MOp.build [AV.int .i64 0, AV.str []]
 [(0, 1, Opd.s 30), (1, 1, Opd.s 36)], none⟩,
 ⟨some 38, MOp.bsl false 2 1
 [AV.int .i64 0, AV.str []]
 [(0, 2, Opd.s 37)], none⟩,
 ⟨some 39, MOp.app false 2 24 (Opd.s 27) (Opd.s 38), none⟩,
 ⟨some 4, MOp.mv (Opd.s 39), none⟩]
 [0, 0, 2, 6, 0, 0, 32, 96, 224, 496, 1022, 2046, 4095, 8191]).seq
 (MC.reg
 [⟨some 40, MOp.mv (Opd.s 0), none⟩,
 ⟨some 41, MOp.mv (Opd.s 0), none⟩,
 ⟨some 42, MOp.ixs (Opd.s 41)
 (Opd.c (AV.int .i64 1)), none⟩,
 ⟨some 43, MOp.conv (Cv.toInt .i64) (Opd.s 42), none⟩,
 ⟨some 44, MOp.bin .add (Opd.c (AV.int .i64 2))
 (Opd.s 43), none⟩,
 ⟨some 45, MOp.sls (Opd.s 40) (some (Opd.s 44)) none, none⟩,
 ⟨some 0, MOp.mv (Opd.s 45), none⟩])))))
def M72b0l : List Bool := [true, false, false, false, true, false, false, false, false, false, false, false, false, false, false, false, false, false, false, false, false, false, false, false, false, false, false, false, false, false, false, false, false, false, false, false, false, false, false, false, false, false, false, false, false, false, false]
def M72r0 : MC :=
 ((MC.reg
 [⟨some 46, MOp.mv (Opd.s 4), none⟩,
 ⟨some 2, MOp.mv (Opd.s 46), none⟩,
 ⟨some 3, MOp.mv (Opd.c (AV.bool true)), none⟩]).seq
 MC.ret)
def M72 : MFun :=
 ⟨47, [MRes.tmp 2 2, MRes.tmp 0 3], (MC.reg
 [⟨some 2, MOp.mv (Opd.c AV.nils), none⟩,
 ⟨some 3, MOp.mv (Opd.c (AV.bool false)), none⟩]).seq
 ((MC.reg
 [⟨some 4, MOp.mv (Opd.c AV.nils), none⟩]).seq
 (((MC.reg
 [⟨some 5, MOp.mv (Opd.s 0), none⟩,
 ⟨some 6, MOp.lens (Opd.s 5), none⟩,
 ⟨some 7, MOp.bin .gtr (Opd.s 6)
 (Opd.c (AV.int .i64 64)), none⟩]).seq
 (MC.cond (Opd.s 7)
 ((MC.reg
 [⟨some 2, MOp.mv (Opd.c AV.nils), none⟩,
 ⟨some 3, MOp.mv (Opd.c (AV.bool false)), none⟩]).seq
 MC.ret)
 MC.skip)).seq
 ((MC.block 0
 (MC.loop M72b0l M72b0)).seq
 M72r0))) ⟩
def M75 : MFun :=
 ⟨117, [MRes.tmp 0 2, MRes.tmp 0 3], (MC.reg
 [⟨some 2, MOp.mv (Opd.c (AV.int .i32 0)), none⟩,
 ⟨some 3, MOp.mv (Opd.c (AV.int .i64 0)), none⟩]).seq
 ((MC.reg
 [⟨some 13, MOp.mv (Opd.s 0), none⟩,
 ⟨some 14, MOp.lens (Opd.s 13), none⟩,
 ⟨some 4, MOp.mv (Opd.s 14), none⟩]).seq
 (((MC.reg
 [⟨some 15, MOp.mv (Opd.s 4), none⟩,
 ⟨some 16, MOp.bin .lss (Opd.s 15)
 (Opd.c (AV.int .i64 1)), none⟩]).seq
 (MC.cond (Opd.s 16)
 ((MC.reg
 [⟨some 2, MOp.mv (Opd.c (AV.int .i32 65533)), none⟩,
 ⟨some 3, MOp.mv (Opd.c (AV.int .i64 0)), none⟩]).seq
 MC.ret)
 MC.skip)).seq
 ((MC.reg
 [⟨some 17, MOp.mv (Opd.s 0), none⟩,
 ⟨some 18, MOp.ixs (Opd.s 17) (Opd.c (AV.int .i64 0)), none⟩,
 ⟨some 5, MOp.mv (Opd.s 18), none⟩]).seq
 ((MC.reg
 [⟨some 19, MOp.mv (Opd.s 5), none⟩,
 ⟨some 20, MOp.ixp 256 1 (Opd.g 0) (Opd.s 19), none⟩,
 ⟨some 21, MOp.load none (Opd.s 20), none⟩,
 ⟨some 6, MOp.mv (Opd.s 21), none⟩]).seq
 (((MC.reg
 [⟨some 22, MOp.mv (Opd.s 6), none⟩,
 ⟨some 23, MOp.bin .geq (Opd.s 22)
 (Opd.c (AV.int .u8 240)), none⟩]).seq
 (MC.cond (Opd.s 23)
 ((MC.reg
 [⟨some 24, MOp.mv (Opd.s 6), none⟩,
 ⟨some 25, MOp.conv (Cv.toInt .i32) (Opd.s 24), none⟩,
 ⟨some 26, MOp.bin .shl (Opd.s 25)
 (Opd.c (AV.int .u64 31)), none⟩,
 ⟨some 27, MOp.bin .shr (Opd.s 26)
 (Opd.c (AV.int .u64 31)), none⟩,
 ⟨some 7, MOp.mv (Opd.s 27), none⟩]).seq
 ((MC.reg
 [⟨some 28, MOp.mv (Opd.s 0), none⟩,
 ⟨some 29, MOp.ixs (Opd.s 28)
 (Opd.c (AV.int .i64 0)), none⟩,
 ⟨some 30, MOp.conv (Cv.toInt .i32) (Opd.s 29), none⟩,
 ⟨some 31, MOp.mv (Opd.s 7), none⟩,
 ⟨some 32, MOp.bin .andNot (Opd.s 30) (Opd.s 31), none⟩,
 ⟨some 33, MOp.mv (Opd.s 7), none⟩,
 ⟨some 34, MOp.bin .and
 (Opd.c (AV.int .i32 65533)) (Opd.s 33), none⟩,
 ⟨some 35, MOp.bin .or (Opd.s 32) (Opd.s 34), none⟩,
 ⟨some 2, MOp.mv (Opd.s 35), none⟩,
 ⟨some 3, MOp.mv (Opd.c (AV.int .i64 1)), none⟩]).seq
 MC.ret))
 MC.skip)).seq
 ((MC.reg
 [⟨some 36, MOp.mv (Opd.s 6), none⟩,
 ⟨some 37, MOp.bin .and (Opd.s 36)
 (Opd.c (AV.int .u8 7)), none⟩,
 ⟨some 38, MOp.conv (Cv.toInt .i64) (Opd.s 37), none⟩,
 ⟨some 8, MOp.mv (Opd.s 38), none⟩]).seq
 ((MC.reg
 [⟨some 39, MOp.mv (Opd.s 6), none⟩,
 ⟨some 40, MOp.bin .shr (Opd.s 39)
 (Opd.c (AV.int .u64 4)), none⟩,
 ⟨some 41, MOp.ixp 16 2 (Opd.g 1) (Opd.s 40), none⟩,
 ⟨some 42, MOp.load (some 2) (Opd.s 41), none⟩,
 ⟨some 9, MOp.alloc
 [AV.int .u8 0, AV.int .u8 0], none⟩,
 ⟨none, MOp.store 2 (Opd.s 9) (Opd.s 42), none⟩]).seq
 (((MC.reg
 [⟨some 43, MOp.mv (Opd.s 4), none⟩,
 ⟨some 44, MOp.mv (Opd.s 8), none⟩,
 ⟨some 45, MOp.bin .lss (Opd.s 43) (Opd.s 44), none⟩]).seq
 (MC.cond (Opd.s 45)
 ((MC.reg
 [⟨some 2, MOp.mv (Opd.c (AV.int .i32 65533)), none⟩,
 ⟨some 3, MOp.mv (Opd.c (AV.int .i64 1)), none⟩]).seq
 MC.ret)
 MC.skip)).seq
 ((MC.reg
 [⟨some 46, MOp.mv (Opd.s 0), none⟩,
 ⟨some 47, MOp.ixs (Opd.s 46)
 (Opd.c (AV.int .i64 1)), none⟩,
 ⟨some 10, MOp.mv (Opd.s 47), none⟩]).seq
 (((MC.reg
 [⟨some 48, MOp.mv (Opd.s 10), none⟩,
 ⟨some 49, MOp.fa 0 (Opd.s 9), none⟩,
 ⟨some 50, MOp.load none (Opd.s 49), none⟩,
 ⟨some 51, MOp.bin .lss (Opd.s 48) (Opd.s 50), none⟩,
 ⟨some 52, MOp.mv (Opd.s 51), none⟩,
 ⟨some 53, MOp.fa 1 (Opd.s 9), some (52, false)⟩,
 ⟨some 54, MOp.load none (Opd.s 53), some (52, false)⟩,
 ⟨some 55, MOp.mv (Opd.s 10), some (52, false)⟩,
 ⟨some 56, MOp.bin .lss (Opd.s 54) (Opd.s 55), some (52, false)⟩,
 ⟨some 57, MOp.pick (Opd.s 52) (Opd.c (AV.bool true))
 (Opd.s 56), none⟩]).seq
 (MC.cond (Opd.s 57)
 ((MC.reg
 [⟨some 2, MOp.mv
 (Opd.c (AV.int .i32 65533)), none⟩,
 ⟨some 3, MOp.mv (Opd.c (AV.int .i64 1)), none⟩]).seq
 MC.ret)
 MC.skip)).seq
 (((MC.reg
 [⟨some 58, MOp.mv (Opd.s 8), none⟩,
 ⟨some 59, MOp.bin .leq (Opd.s 58)
 (Opd.c (AV.int .i64 2)), none⟩]).seq
 (MC.cond (Opd.s 59)
 ((MC.reg
 [⟨some 60, MOp.mv (Opd.s 5), none⟩,
 ⟨some 61, MOp.bin .and (Opd.s 60)
 (Opd.c (AV.int .u8 31)), none⟩,
 ⟨some 62, MOp.conv (Cv.toInt .i32) (Opd.s 61), none⟩,
 ⟨some 63, MOp.bin .shl (Opd.s 62)
 (Opd.c (AV.int .u64 6)), none⟩,
 ⟨some 64, MOp.mv (Opd.s 10), none⟩,
 ⟨some 65, MOp.bin .and (Opd.s 64)
 (Opd.c (AV.int .u8 63)), none⟩,
 ⟨some 66, MOp.conv (Cv.toInt .i32) (Opd.s 65), none⟩,
 ⟨some 67, MOp.bin .or (Opd.s 63) (Opd.s 66), none⟩,
 ⟨some 2, MOp.mv (Opd.s 67), none⟩,
 ⟨some 3, MOp.mv (Opd.c (AV.int .i64 2)), none⟩]).seq
 MC.ret)
 MC.skip)).seq
 ((MC.reg
 [⟨some 68, MOp.mv (Opd.s 0), none⟩,
 ⟨some 69, MOp.ixs (Opd.s 68)
 (Opd.c (AV.int .i64 2)), none⟩,
 ⟨some 11, MOp.mv (Opd.s 69), none⟩]).seq
 (((MC.reg
 [⟨some 70, MOp.mv (Opd.s 11), none⟩,
 ⟨some 71, MOp.bin .lss (Opd.s 70)
 (Opd.c (AV.int .u8 128)), none⟩,
 ⟨some 72, MOp.mv (Opd.s 71), none⟩,
 ⟨some 73, MOp.mv (Opd.s 11), some (72, false)⟩,
 ⟨some 74, MOp.bin .lss
 (Opd.c (AV.int .u8 191))
 (Opd.s 73), some (72, false)⟩,
 ⟨some 75, MOp.pick (Opd.s 72) (Opd.c (AV.bool true))
 (Opd.s 74), none⟩]).seq
 (MC.cond (Opd.s 75)
 ((MC.reg
 [⟨some 2, MOp.mv
 (Opd.c (AV.int .i32 65533)), none⟩,
 ⟨some 3, MOp.mv
 (Opd.c (AV.int .i64 1)), none⟩]).seq
 MC.ret)
 MC.skip)).seq
 (((MC.reg
 [⟨some 76, MOp.mv (Opd.s 8), none⟩,
 ⟨some 77, MOp.bin .leq (Opd.s 76)
 (Opd.c (AV.int .i64 3)), none⟩]).seq
 (MC.cond (Opd.s 77)
 ((MC.reg
 [⟨some 78, MOp.mv (Opd.s 5), none⟩,
 ⟨some 79, MOp.bin .and (Opd.s 78)
 (Opd.c (AV.int .u8 15)), none⟩,
 ⟨some 80, MOp.conv (Cv.toInt .i32) (Opd.s 79), none⟩,
 ⟨some 81, MOp.bin .shl (Opd.s 80)
 (Opd.c (AV.int .u64 12)), none⟩,
 ⟨some 82, MOp.mv (Opd.s 10), none⟩,
 ⟨some 83, MOp.bin .and (Opd.s 82)
 (Opd.c (AV.int .u8 63)), none⟩,
 ⟨some 84, MOp.conv (Cv.toInt .i32) (Opd.s 83), none⟩,
 ⟨some 85, MOp.bin .shl (Opd.s 84)
 (Opd.c (AV.int .u64 6)), none⟩,
 ⟨some 86, MOp.bin .or (Opd.s 81) (Opd.s 85), none⟩,
 ⟨some 87, MOp.mv (Opd.s 11), none⟩,
 ⟨some 88, MOp.bin .and (Opd.s 87)
 (Opd.c (AV.int .u8 63)), none⟩,
 ⟨some 89, MOp.conv (Cv.toInt .i32) (Opd.s 88), none⟩,
 ⟨some 90, MOp.bin .or (Opd.s 86) (Opd.s 89), none⟩,
 ⟨some 2, MOp.mv (Opd.s 90), none⟩,
 ⟨some 3, MOp.mv
 (Opd.c (AV.int .i64 3)), none⟩]).seq
 MC.ret)
 MC.skip)).seq
 ((MC.reg
 [⟨some 91, MOp.mv (Opd.s 0), none⟩,
 ⟨some 92, MOp.ixs (Opd.s 91)
 (Opd.c (AV.int .i64 3)), none⟩,
 ⟨some 12, MOp.mv (Opd.s 92), none⟩]).seq
 (((MC.reg
 [⟨some 93, MOp.mv (Opd.s 12), none⟩,
 ⟨some 94, MOp.bin .lss (Opd.s 93)
 (Opd.c (AV.int .u8 128)), none⟩,
 ⟨some 95, MOp.mv (Opd.s 94), none⟩,
 ⟨some 96, MOp.mv (Opd.s 12), some (95, false)⟩,
 ⟨some 97, MOp.bin .lss
 (Opd.c (AV.int .u8 191))
 (Opd.s 96), some (95, false)⟩,
 ⟨some 98, MOp.pick (Opd.s 95)
 (Opd.c (AV.bool true)) (Opd.s 97), none⟩]).seq
 (MC.cond (Opd.s 98)
 ((MC.reg
 [⟨some 2, MOp.mv
 (Opd.c
 (AV.int .i32 65533)), none⟩,
 ⟨some 3, MOp.mv
 (Opd.c (AV.int .i64 1)), none⟩]).seq
 MC.ret)
 MC.skip)).seq
 ((MC.reg
 [⟨some 99, MOp.mv (Opd.s 5), none⟩,
 ⟨some 100, MOp.bin .and (Opd.s 99)
 (Opd.c (AV.int .u8 7)), none⟩,
 ⟨some 101, MOp.conv (Cv.toInt .i32) (Opd.s 100), none⟩,
 ⟨some 102, MOp.bin .shl (Opd.s 101)
 (Opd.c (AV.int .u64 18)), none⟩,
 ⟨some 103, MOp.mv (Opd.s 10), none⟩,
 ⟨some 104, MOp.bin .and (Opd.s 103)
 (Opd.c (AV.int .u8 63)), none⟩,
 ⟨some 105, MOp.conv (Cv.toInt .i32) (Opd.s 104), none⟩,
 ⟨some 106, MOp.bin .shl (Opd.s 105)
 (Opd.c (AV.int .u64 12)), none⟩,
 ⟨some 107, MOp.bin .or (Opd.s 102) (Opd.s 106), none⟩,
 ⟨some 108, MOp.mv (Opd.s 11), none⟩,
 ⟨some 109, MOp.bin .and (Opd.s 108)
 (Opd.c (AV.int .u8 63)), none⟩,
 ⟨some 110, MOp.conv (Cv.toInt .i32) (Opd.s 109), none⟩,
 ⟨some 111, MOp.bin .shl (Opd.s 110)
 (Opd.c (AV.int .u64 6)), none⟩,
 ⟨some 112, MOp.bin .or (Opd.s 107) (Opd.s 111), none⟩,
 ⟨some 113, MOp.mv (Opd.s 12), none⟩,
 ⟨some 114, MOp.bin .and (Opd.s 113)
 (Opd.c (AV.int .u8 63)), none⟩,
 ⟨some 115, MOp.conv (Cv.toInt .i32) (Opd.s 114), none⟩,
 ⟨some 116, MOp.bin .or (Opd.s 112) (Opd.s 115), none⟩,
 ⟨some 2, MOp.mv (Opd.s 116), none⟩,
 ⟨some 3, MOp.mv
 (Opd.c (AV.int .i64 4)), none⟩]).seq
 MC.ret))))))))))))))))) ⟩
theorem tab21 : tableOf Tryd.prog 21 = some M21 := by kernel_rfl
theorem tab22 : tableOf Tryd.prog 22 = some M22 := by kernel_rfl
theorem tab23 : tableOf Tryd.prog 23 = some M23 := by kernel_rfl
theorem tab24 : tableOf Tryd.prog 24 = some M24 := by kernel_rfl
theorem tab25 : tableOf Tryd.prog 25 = some M25 := by kernel_rfl
theorem tab26 : tableOf Tryd.prog 26 = some M26 := by kernel_rfl
theorem tab27 : tableOf Tryd.prog 27 = some M27 := by kernel_rfl
theorem tab28 : tableOf Tryd.prog 28 = some M28 := by kernel_rfl
theorem tab29 : tableOf Tryd.prog 29 = some M29 := by kernel_rfl
theorem tab30 : tableOf Tryd.prog 30 = some M30 := by kernel_rfl
theorem tab31 : tableOf Tryd.prog 31 = some M31 := by kernel_rfl
theorem tab50 : tableOf Tryd.prog 50 = some M50 := by kernel_rfl
theorem tab51 : tableOf Tryd.prog 51 = some M51 := by kernel_rfl
theorem tab52 : tableOf Tryd.prog 52 = some M52 := by kernel_rfl
theorem tab53 : tableOf Tryd.prog 53 = some M53 := by kernel_rfl
theorem tab54 : tableOf Tryd.prog 54 = some M54 := by kernel_rfl
theorem tab55 : tableOf Tryd.prog 55 = some M55 := by kernel_rfl
theorem tab56 : tableOf Tryd.prog 56 = some M56 := by kernel_rfl
theorem tab64 : tableOf Tryd.prog 64 = some M64 := by kernel_rfl
theorem tab65 : tableOf Tryd.prog 65 = some M65 := by kernel_rfl
theorem tab66 : tableOf Tryd.prog 66 = some M66 := by kernel_rfl
theorem tab72 : tableOf Tryd.prog 72 = some M72 := by kernel_rfl
theorem tab75 : tableOf Tryd.prog 75 = some M75 := by kernel_rfl
theorem evT_in {k : Nat} {f : Nat} {m : MFun} (hx : ext f = none) (hF : tableOf Tryd.prog f = some m) (args : List AV) (s : St) :
    evT (k + 1) f args s = outR m.res (evC tabGl (evT k) k m.body (env0 m.ntmps args) s) := by
  simp only [evT, evF, hx, hF]
end Go.Proofs.YthcblggiojpmcaaDoor
