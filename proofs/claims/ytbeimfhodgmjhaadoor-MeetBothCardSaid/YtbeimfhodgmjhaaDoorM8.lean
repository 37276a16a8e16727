/- Functions of the program in the evaluator's form, written out by a program. No conditions. -/
import Derived.Test.YtbeimfhodgmjhaaDoorTabs
set_option linter.unusedVariables false
namespace Go.Proofs.YtbeimfhodgmjhaaDoor
open Go Go.Ab
def oks : List (Nat × EqF) :=
 []
def M22 : MFun :=
 ⟨11, [MRes.tmp 0 4], (MC.reg
 [⟨some 4, MOp.mv (Opd.c (AV.str [])), none⟩]).seq
 ((MC.reg
 [⟨some 5, MOp.mv (Opd.s 0), none⟩,
 ⟨some 6, MOp.mv (Opd.s 0), none⟩,
 ⟨some 7, MOp.lens (Opd.s 6), none⟩,
 ⟨some 8, MOp.mv (Opd.s 1), none⟩,
 ⟨some 9, MOp.mn [Opd.s 7, Opd.s 8], none⟩,
 ⟨some 10, MOp.sls (Opd.s 5) none (some (Opd.s 9)), none⟩,
 ⟨some 4, MOp.mv (Opd.s 10), none⟩]).seq
 MC.ret) ⟩
def M25 : MFun :=
 ⟨40, [MRes.tmp 0 2], (MC.reg
 [⟨some 1, MOp.box (Opd.s 0), none⟩,
 ⟨some 2, MOp.mv (Opd.c (AV.bool false)), none⟩]).seq
 ((MC.reg
 [⟨some 4, MOp.fa 0 (Opd.s 1), none⟩,
 ⟨some 5, MOp.load none (Opd.s 4), none⟩,
 ⟨some 6, MOp.bin .and (Opd.s 5)
 (Opd.c (AV.int .i64 1)), none⟩,
 ⟨some 7, MOp.bin .eql (Opd.s 6)
 (Opd.c (AV.int .i64 1)), none⟩,
 ⟨some 8, MOp.mv (Opd.s 7), none⟩,
 ⟨some 9, MOp.fa 1 (Opd.s 1), some (8, true)⟩,
 ⟨some 10, MOp.load none (Opd.s 9), some (8, true)⟩,
 ⟨some 11, MOp.bin .and (Opd.s 10)
 (Opd.c (AV.int .i64 1)), some (8, true)⟩,
 ⟨some 12, MOp.bin .eql (Opd.s 11)
 (Opd.c (AV.int .i64 1)), some (8, true)⟩,
 ⟨some 13, MOp.pick (Opd.s 8) (Opd.s 12) (Opd.c (AV.bool false)), none⟩,
 ⟨some 3, MOp.mv (Opd.s 13), none⟩]).seq
 ((MC.reg
 [⟨some 14, MOp.mv (Opd.s 3), none⟩,
 ⟨some 15, MOp.mv (Opd.s 14), none⟩,
 ⟨some 16, MOp.fa 0 (Opd.s 1), some (15, true)⟩,
 ⟨some 17, MOp.load none (Opd.s 16), some (15, true)⟩,
 ⟨some 18, MOp.call 62
 [(0, Opd.s 17), (0, Opd.c (AV.int .i64 15))], some (15, true)⟩,
 ⟨some 19, MOp.pick (Opd.s 15) (Opd.s 18) (Opd.c (AV.bool false)), none⟩,
 ⟨some 20, MOp.mv (Opd.s 19), none⟩,
 ⟨some 21, MOp.fa 1 (Opd.s 1), some (20, true)⟩,
 ⟨some 22, MOp.load none (Opd.s 21), some (20, true)⟩,
 ⟨some 23, MOp.call 62
 [(0, Opd.s 22), (0, Opd.c (AV.int .i64 7))], some (20, true)⟩,
 ⟨some 24, MOp.pick (Opd.s 20) (Opd.s 23) (Opd.c (AV.bool false)), none⟩,
 ⟨some 25, MOp.mv (Opd.s 24), none⟩,
 ⟨some 26, MOp.fa 2 (Opd.s 1), some (25, true)⟩,
 ⟨some 27, MOp.load none (Opd.s 26), some (25, true)⟩,
 ⟨some 28, MOp.call 62
 [(0, Opd.s 27), (0, Opd.c (AV.int .i64 127))], some (25, true)⟩,
 ⟨some 29, MOp.pick (Opd.s 25) (Opd.s 28) (Opd.c (AV.bool false)), none⟩,
 ⟨some 30, MOp.mv (Opd.s 29), none⟩,
 ⟨some 31, MOp.fa 3 (Opd.s 1), some (30, true)⟩,
 ⟨some 32, MOp.load none (Opd.s 31), some (30, true)⟩,
 ⟨some 33, MOp.call 62
 [(0, Opd.s 32), (0, Opd.c (AV.int .i64 15))], some (30, true)⟩,
 ⟨some 34, MOp.pick (Opd.s 30) (Opd.s 33) (Opd.c (AV.bool false)), none⟩,
 ⟨some 35, MOp.mv (Opd.s 34), none⟩,
 ⟨some 36, MOp.fa 4 (Opd.s 1), some (35, true)⟩,
 ⟨some 37, MOp.load none (Opd.s 36), some (35, true)⟩,
 ⟨some 38, MOp.call 62
 [(0, Opd.s 37), (0, Opd.c (AV.int .i64 7))], some (35, true)⟩,
 ⟨some 39, MOp.pick (Opd.s 35) (Opd.s 38) (Opd.c (AV.bool false)), none⟩,
 ⟨some 2, MOp.mv (Opd.s 39), none⟩]).seq
 MC.ret)) ⟩
def M26 : MFun :=
 ⟨8, [MRes.tmp 0 2], (MC.reg
 [⟨some 2, MOp.mv (Opd.c (AV.int .i64 0)), none⟩]).seq
 ((MC.reg
 [⟨some 3, MOp.mv (Opd.s 0), none⟩,
 ⟨some 4, MOp.bin .and (Opd.s 3)
 (Opd.c (AV.int .i64 65535)), none⟩,
 ⟨some 5, MOp.conv (Cv.toInt .u16) (Opd.s 4), none⟩,
 ⟨some 6, MOp.call 63 [(0, Opd.s 5)], none⟩,
 ⟨some 7, MOp.bin .sub (Opd.s 6)
 (Opd.c (AV.int .i64 1)), none⟩,
 ⟨some 2, MOp.mv (Opd.s 7), none⟩]).seq
 MC.ret) ⟩
def M27b0 : MC :=
 (((MC.reg
 [⟨some 4, MOp.mv (Opd.s 3), none⟩,
 ⟨some 5, MOp.bin .geq (Opd.s 4)
 (Opd.c (AV.int .i64 0)), none⟩]).seq
 (MC.cond (Opd.s 5) MC.skip (MC.exit 0))).seq
 ((MC.block 1
 ((MC.reg
 [⟨some 8, MOp.mv (Opd.s 0), none⟩,
 ⟨some 9, MOp.mv (Opd.s 3), none⟩,
 ⟨some 10, MOp.call 64 [(0, Opd.s 8), (0, Opd.s 9)], none⟩]).seq
 (MC.cond (Opd.s 10)
 ((MC.reg
 [⟨some 11, MOp.mv (Opd.s 3), none⟩,
 ⟨some 2, MOp.mv (Opd.s 11), none⟩]).seq
 MC.ret)
 MC.skip))).seq
 (MC.reg
 [⟨some 6, MOp.mv (Opd.s 3), none⟩,
 ⟨some 7, MOp.bin .sub (Opd.s 6)
 (Opd.c (AV.int .i64 1)), none⟩,
 ⟨some 3, MOp.mv (Opd.s 7), none⟩])))
def M27b0l : List Bool := [true, false, false, true, false, false, false, false, false, false, false, false]
def M27r0 : MC :=
 ((MC.reg
 [⟨some 2, MOp.mv (Opd.c (AV.int .i64 (-1))), none⟩]).seq
 MC.ret)
def M27 : MFun :=
 ⟨12, [MRes.tmp 0 2], (MC.reg
 [⟨some 2, MOp.mv (Opd.c (AV.int .i64 0)), none⟩]).seq
 (((MC.reg
 [⟨some 3, MOp.mv (Opd.c (AV.int .i64 15)), none⟩]).seq
 (MC.block 0
 (MC.loop M27b0l M27b0))).seq
 M27r0) ⟩
def M28 : MFun :=
 ⟨10, [MRes.tmp 0 2], (MC.reg
 [⟨some 2, MOp.mv (Opd.c (AV.int .i64 0)), none⟩]).seq
 (((MC.reg
 [⟨some 3, MOp.mv (Opd.s 0), none⟩,
 ⟨some 4, MOp.bin .and (Opd.s 3)
 (Opd.c (AV.int .i64 65535)), none⟩,
 ⟨some 5, MOp.bin .eql (Opd.s 4)
 (Opd.c (AV.int .i64 0)), none⟩]).seq
 (MC.cond (Opd.s 5)
 ((MC.reg
 [⟨some 2, MOp.mv (Opd.c (AV.int .i64 (-1))), none⟩]).seq
 MC.ret)
 MC.skip)).seq
 ((MC.reg
 [⟨some 6, MOp.mv (Opd.s 0), none⟩,
 ⟨some 7, MOp.bin .and (Opd.s 6)
 (Opd.c (AV.int .i64 65535)), none⟩,
 ⟨some 8, MOp.conv (Cv.toInt .u16) (Opd.s 7), none⟩,
 ⟨some 9, MOp.call 65 [(0, Opd.s 8)], none⟩,
 ⟨some 2, MOp.mv (Opd.s 9), none⟩]).seq
 MC.ret)) ⟩
def M29b0 : MC :=
 (((MC.reg
 [⟨some 4, MOp.mv (Opd.s 3), none⟩,
 ⟨some 5, MOp.bin .leq (Opd.s 4)
 (Opd.c (AV.int .i64 15)), none⟩]).seq
 (MC.cond (Opd.s 5) MC.skip (MC.exit 0))).seq
 ((MC.block 1
 ((MC.reg
 [⟨some 8, MOp.mv (Opd.s 0), none⟩,
 ⟨some 9, MOp.mv (Opd.s 3), none⟩,
 ⟨some 10, MOp.call 64 [(0, Opd.s 8), (0, Opd.s 9)], none⟩]).seq
 (MC.cond (Opd.s 10)
 ((MC.reg
 [⟨some 11, MOp.mv (Opd.s 3), none⟩,
 ⟨some 2, MOp.mv (Opd.s 11), none⟩]).seq
 MC.ret)
 MC.skip))).seq
 (MC.reg
 [⟨some 6, MOp.mv (Opd.s 3), none⟩,
 ⟨some 7, MOp.bin .add (Opd.s 6)
 (Opd.c (AV.int .i64 1)), none⟩,
 ⟨some 3, MOp.mv (Opd.s 7), none⟩])))
def M29b0l : List Bool := [true, false, false, true, false, false, false, false, false, false, false, false]
def M29r0 : MC :=
 ((MC.reg
 [⟨some 2, MOp.mv (Opd.c (AV.int .i64 (-1))), none⟩]).seq
 MC.ret)
def M29 : MFun :=
 ⟨12, [MRes.tmp 0 2], (MC.reg
 [⟨some 2, MOp.mv (Opd.c (AV.int .i64 0)), none⟩]).seq
 (((MC.reg
 [⟨some 3, MOp.mv (Opd.c (AV.int .i64 0)), none⟩]).seq
 (MC.block 0
 (MC.loop M29b0l M29b0))).seq
 M29r0) ⟩
def M30 : MFun :=
 ⟨6, [MRes.tmp 0 2], (MC.reg
 [⟨some 2, MOp.mv (Opd.c (AV.int .i64 0)), none⟩]).seq
 ((MC.reg
 [⟨some 3, MOp.mv (Opd.s 0), none⟩,
 ⟨some 4, MOp.bsl false 1 4
 [AV.int .i64 0, AV.int .i64 0,
 AV.int .i64 0, AV.int .i64 0]
 [(0, 1, Opd.c (AV.int .i64 32)),
 (1, 1, Opd.c (AV.int .i64 64)),
 (2, 1, Opd.c (AV.int .i64 128)),
 (3, 1, Opd.c (AV.int .i64 256))], none⟩,
 ⟨some 5, MOp.call 66 [(0, Opd.s 3), (1, Opd.s 4)], none⟩,
 ⟨some 2, MOp.mv (Opd.s 5), none⟩]).seq
 MC.ret) ⟩
def M31 : MFun :=
 ⟨13, [MRes.tmp 0 2], (MC.reg
 [⟨some 2, MOp.mv (Opd.c (AV.int .i64 0)), none⟩]).seq
 (((MC.reg
 [⟨some 3, MOp.mv (Opd.s 0), none⟩,
 ⟨some 4, MOp.bin .lss (Opd.s 3)
 (Opd.c (AV.int .i64 0)), none⟩,
 ⟨some 5, MOp.mv (Opd.s 4), none⟩,
 ⟨some 6, MOp.mv (Opd.s 0), some (5, false)⟩,
 ⟨some 7, MOp.bin .gtr (Opd.s 6)
 (Opd.c (AV.int .i64 3)), some (5, false)⟩,
 ⟨some 8, MOp.pick (Opd.s 5) (Opd.c (AV.bool true)) (Opd.s 7), none⟩]).seq
 (MC.cond (Opd.s 8)
 ((MC.reg
 [⟨some 2, MOp.mv (Opd.c (AV.int .i64 0)), none⟩]).seq
 MC.ret)
 MC.skip)).seq
 ((MC.reg
 [⟨some 9, MOp.bsl false 1 4
 [AV.int .i64 0, AV.int .i64 0,
 AV.int .i64 0, AV.int .i64 0]
 [(0, 1, Opd.c (AV.int .i64 32)),
 (1, 1, Opd.c (AV.int .i64 64)),
 (2, 1, Opd.c (AV.int .i64 128)),
 (3, 1, Opd.c (AV.int .i64 256))], none⟩,
 ⟨some 10, MOp.mv (Opd.s 0), none⟩,
 ⟨some 11, MOp.ixa 1 (Opd.s 9) (Opd.s 10), none⟩,
 ⟨some 12, MOp.load none (Opd.s 11), none⟩,
 ⟨some 2, MOp.mv (Opd.s 12), none⟩]).seq
 MC.ret)) ⟩
def M32 : MFun :=
 ⟨6, [MRes.tmp 0 2], (MC.reg
 [⟨some 2, MOp.mv (Opd.c (AV.int .i64 0)), none⟩]).seq
 ((MC.reg
 [⟨some 3, MOp.mv (Opd.s 0), none⟩,
 ⟨some 4, MOp.bsl false 1 3
 [AV.int .i64 0, AV.int .i64 0,
 AV.int .i64 0]
 [(0, 1, Opd.c (AV.int .i64 200)),
 (1, 1, Opd.c (AV.int .i64 300)),
 (2, 1, Opd.c (AV.int .i64 500))], none⟩,
 ⟨some 5, MOp.call 66 [(0, Opd.s 3), (1, Opd.s 4)], none⟩,
 ⟨some 2, MOp.mv (Opd.s 5), none⟩]).seq
 MC.ret) ⟩
def M33 : MFun :=
 ⟨13, [MRes.tmp 0 2], (MC.reg
 [⟨some 2, MOp.mv (Opd.c (AV.int .i64 0)), none⟩]).seq
 (((MC.reg
 [⟨some 3, MOp.mv (Opd.s 0), none⟩,
 ⟨some 4, MOp.bin .lss (Opd.s 3)
 (Opd.c (AV.int .i64 0)), none⟩,
 ⟨some 5, MOp.mv (Opd.s 4), none⟩,
 ⟨some 6, MOp.mv (Opd.s 0), some (5, false)⟩,
 ⟨some 7, MOp.bin .gtr (Opd.s 6)
 (Opd.c (AV.int .i64 2)), some (5, false)⟩,
 ⟨some 8, MOp.pick (Opd.s 5) (Opd.c (AV.bool true)) (Opd.s 7), none⟩]).seq
 (MC.cond (Opd.s 8)
 ((MC.reg
 [⟨some 2, MOp.mv (Opd.c (AV.int .i64 0)), none⟩]).seq
 MC.ret)
 MC.skip)).seq
 ((MC.reg
 [⟨some 9, MOp.bsl false 1 3
 [AV.int .i64 0, AV.int .i64 0,
 AV.int .i64 0]
 [(0, 1, Opd.c (AV.int .i64 200)),
 (1, 1, Opd.c (AV.int .i64 300)),
 (2, 1, Opd.c (AV.int .i64 500))], none⟩,
 ⟨some 10, MOp.mv (Opd.s 0), none⟩,
 ⟨some 11, MOp.ixa 1 (Opd.s 9) (Opd.s 10), none⟩,
 ⟨some 12, MOp.load none (Opd.s 11), none⟩,
 ⟨some 2, MOp.mv (Opd.s 12), none⟩]).seq
 MC.ret)) ⟩
def M34 : MFun :=
 ⟨6, [MRes.tmp 0 2], (MC.reg
 [⟨some 2, MOp.mv (Opd.c (AV.int .i64 0)), none⟩]).seq
 ((MC.reg
 [⟨some 3, MOp.mv (Opd.s 0), none⟩,
 ⟨some 4, MOp.bsl false 1 4
 [AV.int .i64 0, AV.int .i64 0,
 AV.int .i64 0, AV.int .i64 0]
 [(0, 1, Opd.c (AV.int .i64 8)),
 (1, 1, Opd.c (AV.int .i64 16)),
 (2, 1, Opd.c (AV.int .i64 32)),
 (3, 1, Opd.c (AV.int .i64 64))], none⟩,
 ⟨some 5, MOp.call 66 [(0, Opd.s 3), (1, Opd.s 4)], none⟩,
 ⟨some 2, MOp.mv (Opd.s 5), none⟩]).seq
 MC.ret) ⟩
def M35 : MFun :=
 ⟨13, [MRes.tmp 0 2], (MC.reg
 [⟨some 2, MOp.mv (Opd.c (AV.int .i64 0)), none⟩]).seq
 (((MC.reg
 [⟨some 3, MOp.mv (Opd.s 0), none⟩,
 ⟨some 4, MOp.bin .lss (Opd.s 3)
 (Opd.c (AV.int .i64 0)), none⟩,
 ⟨some 5, MOp.mv (Opd.s 4), none⟩,
 ⟨some 6, MOp.mv (Opd.s 0), some (5, false)⟩,
 ⟨some 7, MOp.bin .gtr (Opd.s 6)
 (Opd.c (AV.int .i64 3)), some (5, false)⟩,
 ⟨some 8, MOp.pick (Opd.s 5) (Opd.c (AV.bool true)) (Opd.s 7), none⟩]).seq
 (MC.cond (Opd.s 8)
 ((MC.reg
 [⟨some 2, MOp.mv (Opd.c (AV.int .i64 0)), none⟩]).seq
 MC.ret)
 MC.skip)).seq
 ((MC.reg
 [⟨some 9, MOp.bsl false 1 4
 [AV.int .i64 0, AV.int .i64 0,
 AV.int .i64 0, AV.int .i64 0]
 [(0, 1, Opd.c (AV.int .i64 8)),
 (1, 1, Opd.c (AV.int .i64 16)),
 (2, 1, Opd.c (AV.int .i64 32)),
 (3, 1, Opd.c (AV.int .i64 64))], none⟩,
 ⟨some 10, MOp.mv (Opd.s 0), none⟩,
 ⟨some 11, MOp.ixa 1 (Opd.s 9) (Opd.s 10), none⟩,
 ⟨some 12, MOp.load none (Opd.s 11), none⟩,
 ⟨some 2, MOp.mv (Opd.s 12), none⟩]).seq
 MC.ret)) ⟩
def M36 : MFun :=
 ⟨16, [MRes.tmp 0 4], (MC.reg
 [⟨some 4, MOp.mv (Opd.c (AV.int .i64 0)), none⟩]).seq
 (((MC.reg
 [⟨some 5, MOp.mv (Opd.s 0), none⟩,
 ⟨some 6, MOp.bin .lss (Opd.s 5)
 (Opd.c (AV.int .i64 1)), none⟩,
 ⟨some 7, MOp.mv (Opd.s 6), none⟩,
 ⟨some 8, MOp.mv (Opd.s 1), some (7, false)⟩,
 ⟨some 9, MOp.bin .lss (Opd.s 8)
 (Opd.c (AV.int .i64 1)), some (7, false)⟩,
 ⟨some 10, MOp.pick (Opd.s 7) (Opd.c (AV.bool true)) (Opd.s 9), none⟩]).seq
 (MC.cond (Opd.s 10)
 ((MC.reg
 [⟨some 4, MOp.mv (Opd.c (AV.int .i64 0)), none⟩]).seq
 MC.ret)
 MC.skip)).seq
 ((MC.reg
 [⟨some 11, MOp.mv (Opd.s 0), none⟩,
 ⟨some 12, MOp.bin .sub (Opd.s 11)
 (Opd.c (AV.int .i64 1)), none⟩,
 ⟨some 13, MOp.mv (Opd.s 1), none⟩,
 ⟨some 14, MOp.bin .quo (Opd.s 12) (Opd.s 13), none⟩,
 ⟨some 15, MOp.bin .add (Opd.s 14)
 (Opd.c (AV.int .i64 1)), none⟩,
 ⟨some 4, MOp.mv (Opd.s 15), none⟩]).seq
 MC.ret)) ⟩
def M37 : MFun :=
 ⟨22, [MRes.tmp 0 4], (MC.reg
 [⟨some 4, MOp.mv (Opd.c (AV.int .i64 0)), none⟩]).seq
 (((MC.reg
 [⟨some 6, MOp.mv (Opd.s 0), none⟩,
 ⟨some 7, MOp.bin .lss (Opd.s 6)
 (Opd.c (AV.int .i64 1)), none⟩,
 ⟨some 8, MOp.mv (Opd.s 7), none⟩,
 ⟨some 9, MOp.mv (Opd.s 1), some (8, false)⟩,
 ⟨some 10, MOp.bin .lss (Opd.s 9)
 (Opd.c (AV.int .i64 1)), some (8, false)⟩,
 ⟨some 11, MOp.pick (Opd.s 8) (Opd.c (AV.bool true)) (Opd.s 10), none⟩]).seq
 (MC.cond (Opd.s 11)
 ((MC.reg
 [⟨some 4, MOp.mv (Opd.c (AV.int .i64 0)), none⟩]).seq
 MC.ret)
 MC.skip)).seq
 ((MC.reg
 [⟨some 12, MOp.mv (Opd.s 0), none⟩,
 ⟨some 13, MOp.mv (Opd.s 1), none⟩,
 ⟨some 14, MOp.bin .quo (Opd.s 12) (Opd.s 13), none⟩,
 ⟨some 5, MOp.mv (Opd.s 14), none⟩]).seq
 (((MC.reg
 [⟨some 15, MOp.mv (Opd.s 0), none⟩,
 ⟨some 16, MOp.mv (Opd.s 1), none⟩,
 ⟨some 17, MOp.bin .rem (Opd.s 15) (Opd.s 16), none⟩,
 ⟨some 18, MOp.bin .neq (Opd.s 17)
 (Opd.c (AV.int .i64 0)), none⟩]).seq
 (MC.cond (Opd.s 18)
 (MC.reg
 [⟨some 19, MOp.mv (Opd.s 5), none⟩,
 ⟨some 20, MOp.bin .add (Opd.s 19)
 (Opd.c (AV.int .i64 1)), none⟩,
 ⟨some 5, MOp.mv (Opd.s 20), none⟩])
 MC.skip)).seq
 ((MC.reg
 [⟨some 21, MOp.mv (Opd.s 5), none⟩,
 ⟨some 4, MOp.mv (Opd.s 21), none⟩]).seq
 MC.ret)))) ⟩
def M58 : MFun :=
 ⟨63, [MRes.tmp 0 2], (MC.reg
 [⟨some 1, MOp.box (Opd.s 0), none⟩,
 ⟨some 2, MOp.mv (Opd.c (AV.bool false)), none⟩]).seq
 ((MC.reg
 [⟨some 3, MOp.fa 0 (Opd.s 1), none⟩,
 ⟨some 4, MOp.load none (Opd.s 3), none⟩,
 ⟨some 5, MOp.bin .geq (Opd.s 4)
 (Opd.c (AV.int .i64 1)), none⟩,
 ⟨some 6, MOp.mv (Opd.s 5), none⟩,
 ⟨some 7, MOp.fa 0 (Opd.s 1), some (6, true)⟩,
 ⟨some 8, MOp.load none (Opd.s 7), some (6, true)⟩,
 ⟨some 9, MOp.bin .leq (Opd.s 8)
 (Opd.c (AV.int .i64 15)), some (6, true)⟩,
 ⟨some 10, MOp.pick (Opd.s 6) (Opd.s 9) (Opd.c (AV.bool false)), none⟩,
 ⟨some 11, MOp.mv (Opd.s 10), none⟩,
 ⟨some 12, MOp.fa 0 (Opd.s 1), some (11, true)⟩,
 ⟨some 13, MOp.load none (Opd.s 12), some (11, true)⟩,
 ⟨some 14, MOp.bin .rem (Opd.s 13)
 (Opd.c (AV.int .i64 2)), some (11, true)⟩,
 ⟨some 15, MOp.bin .eql (Opd.s 14)
 (Opd.c (AV.int .i64 1)), some (11, true)⟩,
 ⟨some 16, MOp.pick (Opd.s 11) (Opd.s 15) (Opd.c (AV.bool false)), none⟩,
 ⟨some 17, MOp.mv (Opd.s 16), none⟩,
 ⟨some 18, MOp.fa 1 (Opd.s 1), some (17, true)⟩,
 ⟨some 19, MOp.load none (Opd.s 18), some (17, true)⟩,
 ⟨some 20, MOp.bin .geq (Opd.s 19)
 (Opd.c (AV.int .i64 1)), some (17, true)⟩,
 ⟨some 21, MOp.pick (Opd.s 17) (Opd.s 20) (Opd.c (AV.bool false)), none⟩,
 ⟨some 22, MOp.mv (Opd.s 21), none⟩,
 ⟨some 23, MOp.fa 1 (Opd.s 1), some (22, true)⟩,
 ⟨some 24, MOp.load none (Opd.s 23), some (22, true)⟩,
 ⟨some 25, MOp.bin .leq (Opd.s 24)
 (Opd.c (AV.int .i64 7)), some (22, true)⟩,
 ⟨some 26, MOp.pick (Opd.s 22) (Opd.s 25) (Opd.c (AV.bool false)), none⟩,
 ⟨some 27, MOp.mv (Opd.s 26), none⟩,
 ⟨some 28, MOp.fa 1 (Opd.s 1), some (27, true)⟩,
 ⟨some 29, MOp.load none (Opd.s 28), some (27, true)⟩,
 ⟨some 30, MOp.bin .rem (Opd.s 29)
 (Opd.c (AV.int .i64 2)), some (27, true)⟩,
 ⟨some 31, MOp.bin .eql (Opd.s 30)
 (Opd.c (AV.int .i64 1)), some (27, true)⟩,
 ⟨some 32, MOp.pick (Opd.s 27) (Opd.s 31) (Opd.c (AV.bool false)), none⟩,
 ⟨some 33, MOp.mv (Opd.s 32), none⟩,
 ⟨some 34, MOp.fa 2 (Opd.s 1), some (33, true)⟩,
 ⟨some 35, MOp.load none (Opd.s 34), some (33, true)⟩,
 ⟨some 36, MOp.bin .geq (Opd.s 35)
 (Opd.c (AV.int .i64 1)), some (33, true)⟩,
 ⟨some 37, MOp.pick (Opd.s 33) (Opd.s 36) (Opd.c (AV.bool false)), none⟩,
 ⟨some 38, MOp.mv (Opd.s 37), none⟩,
 ⟨some 39, MOp.fa 2 (Opd.s 1), some (38, true)⟩,
 ⟨some 40, MOp.load none (Opd.s 39), some (38, true)⟩,
 ⟨some 41, MOp.bin .leq (Opd.s 40)
 (Opd.c (AV.int .i64 127)), some (38, true)⟩,
 ⟨some 42, MOp.pick (Opd.s 38) (Opd.s 41) (Opd.c (AV.bool false)), none⟩,
 ⟨some 43, MOp.mv (Opd.s 42), none⟩,
 ⟨some 44, MOp.fa 3 (Opd.s 1), some (43, true)⟩,
 ⟨some 45, MOp.load none (Opd.s 44), some (43, true)⟩,
 ⟨some 46, MOp.bin .geq (Opd.s 45)
 (Opd.c (AV.int .i64 1)), some (43, true)⟩,
 ⟨some 47, MOp.pick (Opd.s 43) (Opd.s 46) (Opd.c (AV.bool false)), none⟩,
 ⟨some 48, MOp.mv (Opd.s 47), none⟩,
 ⟨some 49, MOp.fa 3 (Opd.s 1), some (48, true)⟩,
 ⟨some 50, MOp.load none (Opd.s 49), some (48, true)⟩,
 ⟨some 51, MOp.bin .leq (Opd.s 50)
 (Opd.c (AV.int .i64 15)), some (48, true)⟩,
 ⟨some 52, MOp.pick (Opd.s 48) (Opd.s 51) (Opd.c (AV.bool false)), none⟩,
 ⟨some 53, MOp.mv (Opd.s 52), none⟩,
 ⟨some 54, MOp.fa 4 (Opd.s 1), some (53, true)⟩,
 ⟨some 55, MOp.load none (Opd.s 54), some (53, true)⟩,
 ⟨some 56, MOp.bin .geq (Opd.s 55)
 (Opd.c (AV.int .i64 1)), some (53, true)⟩,
 ⟨some 57, MOp.pick (Opd.s 53) (Opd.s 56) (Opd.c (AV.bool false)), none⟩,
 ⟨some 58, MOp.mv (Opd.s 57), none⟩,
 ⟨some 59, MOp.fa 4 (Opd.s 1), some (58, true)⟩,
 ⟨some 60, MOp.load none (Opd.s 59), some (58, true)⟩,
 ⟨some 61, MOp.bin .leq (Opd.s 60)
 (Opd.c (AV.int .i64 7)), some (58, true)⟩,
 ⟨some 62, MOp.pick (Opd.s 58) (Opd.s 61) (Opd.c (AV.bool false)), none⟩,
 ⟨some 2, MOp.mv (Opd.s 62), none⟩]).seq
 MC.ret) ⟩
def M62 : MFun :=
 ⟨12, [MRes.tmp 0 4], (MC.reg
 [⟨some 4, MOp.mv (Opd.c (AV.bool false)), none⟩]).seq
 ((MC.reg
 [⟨some 5, MOp.mv (Opd.s 0), none⟩,
 ⟨some 6, MOp.bin .geq (Opd.s 5)
 (Opd.c (AV.int .i64 1)), none⟩,
 ⟨some 7, MOp.mv (Opd.s 6), none⟩,
 ⟨some 8, MOp.mv (Opd.s 0), some (7, true)⟩,
 ⟨some 9, MOp.mv (Opd.s 1), some (7, true)⟩,
 ⟨some 10, MOp.bin .leq (Opd.s 8) (Opd.s 9), some (7, true)⟩,
 ⟨some 11, MOp.pick (Opd.s 7) (Opd.s 10) (Opd.c (AV.bool false)), none⟩,
 ⟨some 4, MOp.mv (Opd.s 11), none⟩]).seq
 MC.ret) ⟩
def lit63_0 : List UInt8 := List.map UInt8.ofNat [0, 1, 2, 2, 3, 3, 3, 3, 4, 4, 4, 4, 4, 4, 4, 4, 5, 5, 5, 5, 5, 5, 5, 5, 5, 5, 5, 5, 5, 5, 5, 5, 6, 6, 6, 6, 6, 6, 6, 6, 6, 6, 6, 6, 6, 6, 6, 6, 6, 6, 6, 6, 6, 6, 6, 6, 6, 6, 6, 6, 6, 6, 6, 6, 7, 7, 7, 7, 7, 7, 7, 7, 7, 7, 7, 7, 7, 7, 7, 7, 7, 7, 7, 7, 7, 7, 7, 7, 7, 7, 7, 7, 7, 7, 7, 7, 7, 7, 7, 7, 7, 7, 7, 7, 7, 7, 7, 7, 7, 7, 7, 7, 7, 7, 7, 7, 7, 7, 7, 7, 7, 7, 7, 7, 7, 7, 7, 7, 8, 8, 8, 8, 8, 8, 8, 8, 8, 8, 8, 8, 8, 8, 8, 8, 8, 8, 8, 8, 8, 8, 8, 8, 8, 8, 8, 8, 8, 8, 8, 8, 8, 8, 8, 8, 8, 8, 8, 8, 8, 8, 8, 8, 8, 8, 8, 8, 8, 8, 8, 8, 8, 8, 8, 8, 8, 8, 8, 8, 8, 8, 8, 8, 8, 8, 8, 8, 8, 8, 8, 8, 8, 8, 8, 8, 8, 8, 8, 8, 8, 8, 8, 8, 8, 8, 8, 8, 8, 8, 8, 8, 8, 8, 8, 8, 8, 8, 8, 8, 8, 8, 8, 8, 8, 8, 8, 8, 8, 8, 8, 8, 8, 8, 8, 8, 8, 8, 8, 8, 8, 8, 8, 8, 8, 8, 8, 8]
def M63 : MFun :=
 ⟨13, [MRes.tmp 0 2], (MC.reg
 [⟨some 2, MOp.mv (Opd.c (AV.int .i64 0)), none⟩]).seq
 (((MC.reg
 [⟨some 3, MOp.mv (Opd.s 0), none⟩,
 ⟨some 4, MOp.bin .geq (Opd.s 3)
 (Opd.c (AV.int .u16 256)), none⟩]).seq
 (MC.cond (Opd.s 4)
 ((MC.reg
 [⟨some 5, MOp.mv (Opd.s 0), none⟩,
 ⟨some 6, MOp.bin .shr (Opd.s 5)
 (Opd.c (AV.int .u64 8)), none⟩,
 ⟨some 0, MOp.mv (Opd.s 6), none⟩]).seq
 (MC.reg
 [⟨some 2, MOp.mv (Opd.c (AV.int .i64 8)), none⟩]))
 MC.skip)).seq
 ((MC.reg
 [⟨some 7, MOp.mv (Opd.s 2), none⟩,
 ⟨some 8, MOp.mv (Opd.s 0), none⟩,
 ⟨some 9, MOp.conv (Cv.toInt .u8) (Opd.s 8), none⟩,
 ⟨some 10, MOp.ixs
 (Opd.c
 (AV.str lit63_0))
 (Opd.s 9), none⟩,
 ⟨some 11, MOp.conv (Cv.toInt .i64) (Opd.s 10), none⟩,
 ⟨some 12, MOp.bin .add (Opd.s 7) (Opd.s 11), none⟩,
 ⟨some 2, MOp.mv (Opd.s 12), none⟩]).seq
 MC.ret)) ⟩
def M64 : MFun :=
 ⟨10, [MRes.tmp 0 4], (MC.reg
 [⟨some 4, MOp.mv (Opd.c (AV.bool false)), none⟩]).seq
 ((MC.reg
 [⟨some 5, MOp.mv (Opd.s 0), none⟩,
 ⟨some 6, MOp.mv (Opd.s 1), none⟩,
 ⟨some 7, MOp.bin .shr (Opd.s 5) (Opd.s 6), none⟩,
 ⟨some 8, MOp.bin .and (Opd.s 7)
 (Opd.c (AV.int .i64 1)), none⟩,
 ⟨some 9, MOp.bin .eql (Opd.s 8)
 (Opd.c (AV.int .i64 1)), none⟩,
 ⟨some 4, MOp.mv (Opd.s 9), none⟩]).seq
 MC.ret) ⟩
def M65 : MFun :=
 ⟨15, [MRes.tmp 0 2], (MC.reg
 [⟨some 2, MOp.mv (Opd.c (AV.int .i64 0)), none⟩]).seq
 (((MC.reg
 [⟨some 3, MOp.mv (Opd.s 0), none⟩,
 ⟨some 4, MOp.bin .eql (Opd.s 3)
 (Opd.c (AV.int .u16 0)), none⟩]).seq
 (MC.cond (Opd.s 4)
 ((MC.reg
 [⟨some 2, MOp.mv (Opd.c (AV.int .i64 16)), none⟩]).seq
 MC.ret)
 MC.skip)).seq
 ((MC.reg
 [⟨some 5, MOp.mv (Opd.s 0), none⟩,
 ⟨some 6, MOp.mv (Opd.s 0), none⟩,
 ⟨some 7, MOp.un .neg (Opd.s 6), none⟩,
 ⟨some 8, MOp.bin .and (Opd.s 5) (Opd.s 7), none⟩,
 ⟨some 9, MOp.conv (Cv.toInt .u32) (Opd.s 8), none⟩,
 ⟨some 10, MOp.bin .mul (Opd.s 9)
 (Opd.c (AV.int .u32 125613361)), none⟩,
 ⟨some 11, MOp.bin .shr (Opd.s 10)
 (Opd.c (AV.int .u64 27)), none⟩,
 ⟨some 12, MOp.ixp 32 1 (Opd.g 0) (Opd.s 11), none⟩,
 ⟨some 13, MOp.load none (Opd.s 12), none⟩,
 ⟨some 14, MOp.conv (Cv.toInt .i64) (Opd.s 13), none⟩,
 ⟨some 2, MOp.mv (Opd.s 14), none⟩]).seq
 MC.ret)) ⟩
def M66 : MFun :=
 ⟨17, [MRes.tmp 0 4], (MC.reg
 [⟨some 4, MOp.mv (Opd.c (AV.int .i64 0)), none⟩]).seq
 (((MC.reg
 [⟨some 5, MOp.mv (Opd.s 0), none⟩,
 ⟨some 6, MOp.bin .lss (Opd.s 5)
 (Opd.c (AV.int .i64 0)), none⟩,
 ⟨some 7, MOp.mv (Opd.s 6), none⟩,
 ⟨some 8, MOp.mv (Opd.s 0), some (7, false)⟩,
 ⟨some 9, MOp.mv (Opd.s 1), some (7, false)⟩,
 ⟨some 10, MOp.len (Opd.s 9), some (7, false)⟩,
 ⟨some 11, MOp.bin .geq (Opd.s 8) (Opd.s 10), some (7, false)⟩,
 ⟨some 12, MOp.pick (Opd.s 7) (Opd.c (AV.bool true)) (Opd.s 11), none⟩]).seq
 (MC.cond (Opd.s 12)
 ((MC.reg
 [⟨some 4, MOp.mv (Opd.c (AV.int .i64 0)), none⟩]).seq
 MC.ret)
 MC.skip)).seq
 ((MC.reg
 [⟨some 13, MOp.mv (Opd.s 1), none⟩,
 ⟨some 14, MOp.mv (Opd.s 0), none⟩,
 ⟨some 15, MOp.ixa 1 (Opd.s 13) (Opd.s 14), none⟩,
 ⟨some 16, MOp.load none (Opd.s 15), none⟩,
 ⟨some 4, MOp.mv (Opd.s 16), none⟩]).seq
 MC.ret)) ⟩
def M42b0 : MC :=
 (((MC.draw
 [⟨some 42, MOp.fa 2 (Opd.s 6), none⟩,
 ⟨some 43, MOp.load none (Opd.s 42), none⟩,
 ⟨some 44, MOp.bin .gtr (Opd.s 43)
 (Opd.c (AV.int .i64 1)), none⟩,
 ⟨some 45, MOp.mv (Opd.s 44), none⟩,
 ⟨some 46, MOp.fa 2 (Opd.s 6), some (45, true)⟩,
 ⟨some 47, MOp.load none (Opd.s 46), some (45, true)⟩,
 ⟨some 48, MOp.fa 3 (Opd.s 6), some (45, true)⟩,
 ⟨some 49, MOp.load none (Opd.s 48), some (45, true)⟩,
 ⟨some 50, MOp.fa 0 (Opd.s 6), some (45, true)⟩,
 ⟨some 51, MOp.load none (Opd.s 50), some (45, true)⟩,
 ⟨some 52, MOp.call 44 [(0, Opd.s 49), (0, Opd.s 51)], some (45, true)⟩,
 ⟨some 53, MOp.bin .mul (Opd.s 47) (Opd.s 52), some (45, true)⟩,
 ⟨some 54, MOp.bin .gtr (Opd.s 53)
 (Opd.c (AV.int .i64 30)), some (45, true)⟩,
 ⟨some 55, MOp.pick (Opd.s 45) (Opd.s 54)
 (Opd.c (AV.bool false)), none⟩]
 [0, 1, 3, 7, 15, 31, 15, 79, 15, 271, 975, 2047, 4095, 8191]).seq
 (MC.cond (Opd.s 55) MC.skip (MC.exit 0))).seq
 (MC.block 1
 (MC.reg
 [⟨some 56, MOp.fa 2 (Opd.s 6), none⟩,
 ⟨some 57, MOp.load none (Opd.s 56), none⟩,
 ⟨some 58, MOp.bin .sub (Opd.s 57)
 (Opd.c (AV.int .i64 1)), none⟩,
 ⟨some 59, MOp.fa 2 (Opd.s 6), none⟩,
 ⟨none, MOp.store 1 (Opd.s 59) (Opd.s 58), none⟩])))
def M42b0l : List Bool := [false, false, false, false, true, false, true, false, false, false, false, false, false, false, false, false, false, false, false, false, false, false, false, false, false, false, false, false, false, false, false, false, false, false, false, false, false, false, false, false, false, false, false, false, false, false, false, false, false, false, false, false, false, false, false, false, false, false, false, false, false]
def M42r0 : MC :=
 ((MC.reg
 [⟨some 60, MOp.load (some 5) (Opd.s 6), none⟩,
 ⟨none, MOp.store 5 (Opd.s 4) (Opd.s 60), none⟩,
 ⟨some 5, MOp.mv (Opd.c (AV.bool true)), none⟩]).seq
 MC.ret)
def M42 : MFun :=
 ⟨61, [MRes.cell 4 (some 5), MRes.tmp 0 5], (MC.reg
 [⟨some 2, MOp.box (Opd.s 0), none⟩,
 ⟨some 3, MOp.box (Opd.s 1), none⟩,
 ⟨some 4, MOp.alloc
 [AV.int .i64 0, AV.int .i64 0,
 AV.int .i64 0, AV.int .i64 0,
 AV.int .i64 0], none⟩,
 ⟨some 5, MOp.mv (Opd.c (AV.bool false)), none⟩]).seq
 (((MC.reg
 [⟨some 7, MOp.load (some 5) (Opd.s 2), none⟩,
 ⟨some 8, MOp.call 25 [(0, Opd.s 7)], none⟩,
 ⟨some 9, MOp.un .not (Opd.s 8), none⟩,
 ⟨some 10, MOp.mv (Opd.s 9), none⟩,
 ⟨some 11, MOp.load (some 5) (Opd.s 3), some (10, false)⟩,
 ⟨some 12, MOp.call 25 [(0, Opd.s 11)], some (10, false)⟩,
 ⟨some 13, MOp.un .not (Opd.s 12), some (10, false)⟩,
 ⟨some 14, MOp.pick (Opd.s 10) (Opd.c (AV.bool true)) (Opd.s 13), none⟩]).seq
 (MC.cond (Opd.s 14)
 ((MC.reg
 [⟨some 15, MOp.build
 [AV.int .i64 0, AV.int .i64 0,
 AV.int .i64 0, AV.int .i64 0,
 AV.int .i64 0]
 [], none⟩,
 ⟨none, MOp.store 5 (Opd.s 4) (Opd.s 15), none⟩,
 ⟨some 5, MOp.mv (Opd.c (AV.bool false)), none⟩]).seq
 MC.ret)
 MC.skip)).seq
 ((MC.draw
 [⟨some 16, MOp.fa 0 (Opd.s 2), none⟩,
 ⟨some 17, MOp.load none (Opd.s 16), none⟩,
 ⟨some 18, MOp.fa 0 (Opd.s 3), none⟩,
 ⟨some 19, MOp.load none (Opd.s 18), none⟩,
 ⟨some 20, MOp.bin .and (Opd.s 17) (Opd.s 19), none⟩,
 ⟨some 21, MOp.call 26 [(0, Opd.s 20)], none⟩,
 ⟨some 22, MOp.call 30 [(0, Opd.s 21)], none⟩,
 ⟨some 23, MOp.fa 1 (Opd.s 2), none⟩,
 ⟨some 24, MOp.load none (Opd.s 23), none⟩,
 ⟨some 25, MOp.fa 1 (Opd.s 3), none⟩,
 ⟨some 26, MOp.load none (Opd.s 25), none⟩,
 ⟨some 27, MOp.bin .and (Opd.s 24) (Opd.s 26), none⟩,
 ⟨some 28, MOp.call 28 [(0, Opd.s 27)], none⟩,
 ⟨some 29, MOp.call 32 [(0, Opd.s 28)], none⟩,
 ⟨some 30, MOp.fa 3 (Opd.s 3), none⟩,
 ⟨some 31, MOp.load none (Opd.s 30), none⟩,
 ⟨some 32, MOp.call 26 [(0, Opd.s 31)], none⟩,
 ⟨some 33, MOp.call 34 [(0, Opd.s 32)], none⟩,
 ⟨some 34, MOp.fa 2 (Opd.s 3), none⟩,
 ⟨some 35, MOp.load none (Opd.s 34), none⟩,
 ⟨some 36, MOp.call 26 [(0, Opd.s 35)], none⟩,
 ⟨some 37, MOp.bin .add (Opd.s 36)
 (Opd.c (AV.int .i64 1)), none⟩,
 ⟨some 38, MOp.fa 4 (Opd.s 3), none⟩,
 ⟨some 39, MOp.load none (Opd.s 38), none⟩,
 ⟨some 40, MOp.call 28 [(0, Opd.s 39)], none⟩,
 ⟨some 41, MOp.build
 [AV.int .i64 0, AV.int .i64 0,
 AV.int .i64 0, AV.int .i64 0,
 AV.int .i64 0]
 [(0, 1, Opd.s 22), (1, 1, Opd.s 29), (3, 1, Opd.s 33), (2, 1, Opd.s 37),
 (4, 1, Opd.s 40)], none⟩,
 ⟨some 6, MOp.alloc
 [AV.int .i64 0, AV.int .i64 0,
 AV.int .i64 0, AV.int .i64 0,
 AV.int .i64 0], none⟩,
 ⟨none, MOp.store 5 (Opd.s 6) (Opd.s 41), none⟩]
 [0, 1, 0, 4, 15, 31, 63, 0, 128, 0, 512, 1920, 4095, 8191, 0, 16384, 65535, 131071, 0, 262144, 1048575,
 2097151, 0, 4194304, 14680063, 33554431, 0, 134217727]).seq
 ((MC.block 0
 (MC.loop M42b0l M42b0)).seq
 M42r0))) ⟩
def M43b0 : MC :=
 (((MC.reg
 [⟨some 61, MOp.mv (Opd.s 9), none⟩,
 ⟨some 62, MOp.fa 2 (Opd.s 3), none⟩,
 ⟨some 63, MOp.load none (Opd.s 62), none⟩,
 ⟨some 64, MOp.call 27 [(0, Opd.s 63)], none⟩,
 ⟨some 65, MOp.bin .add (Opd.s 64)
 (Opd.c (AV.int .i64 1)), none⟩,
 ⟨some 66, MOp.bin .leq (Opd.s 61) (Opd.s 65), none⟩]).seq
 (MC.cond (Opd.s 66) MC.skip (MC.exit 4))).seq
 ((MC.block 5
 ((MC.reg
 [⟨some 69, MOp.mv (Opd.s 9), none⟩,
 ⟨some 70, MOp.fa 3 (Opd.s 6), none⟩,
 ⟨some 71, MOp.load none (Opd.s 70), none⟩,
 ⟨some 72, MOp.fa 0 (Opd.s 6), none⟩,
 ⟨some 73, MOp.load none (Opd.s 72), none⟩,
 ⟨some 74, MOp.call 45 [(0, Opd.s 71), (0, Opd.s 73)], none⟩,
 ⟨some 75, MOp.bin .mul (Opd.s 69) (Opd.s 74), none⟩,
 ⟨some 76, MOp.bin .leq (Opd.s 75)
 (Opd.c (AV.int .i64 30)), none⟩]).seq
 (MC.cond (Opd.s 76)
 (MC.reg
 [⟨some 77, MOp.mv (Opd.s 9), none⟩,
 ⟨some 78, MOp.fa 2 (Opd.s 6), none⟩,
 ⟨none, MOp.store 1 (Opd.s 78) (Opd.s 77), none⟩])
 MC.skip))).seq
 (MC.reg
 [⟨some 67, MOp.mv (Opd.s 9), none⟩,
 ⟨some 68, MOp.bin .add (Opd.s 67)
 (Opd.c (AV.int .i64 1)), none⟩,
 ⟨some 9, MOp.mv (Opd.s 68), none⟩])))
def M43b0l : List Bool := [false, false, false, true, true, false, true, false, false, true, false, false, false, false, false, false, false, false, false, false, false, false, false, false, false, false, false, false, false, false, false, false, false, false, false, false, false, false, false, false, false, false, false, false, false, false, false, false, false, false, false, false, false, false, false, false, false, false, false, false, false, false, false, false, false, false, false, false, false, false, false, false, false, false, false, false, false, false, false, false]
def M43b1 : MC :=
 (((MC.reg
 [⟨some 44, MOp.mv (Opd.s 8), none⟩,
 ⟨some 45, MOp.bin .geq (Opd.s 44)
 (Opd.c (AV.int .i64 0)), none⟩]).seq
 (MC.cond (Opd.s 45) MC.skip (MC.exit 2))).seq
 ((MC.block 3
 ((MC.reg
 [⟨some 48, MOp.fa 1 (Opd.s 2), none⟩,
 ⟨some 49, MOp.load none (Opd.s 48), none⟩,
 ⟨some 50, MOp.mv (Opd.s 8), none⟩,
 ⟨some 51, MOp.call 64 [(0, Opd.s 49), (0, Opd.s 50)], none⟩,
 ⟨some 52, MOp.mv (Opd.s 51), none⟩,
 ⟨some 53, MOp.fa 1 (Opd.s 3), some (52, true)⟩,
 ⟨some 54, MOp.load none (Opd.s 53), some (52, true)⟩,
 ⟨some 55, MOp.mv (Opd.s 8), some (52, true)⟩,
 ⟨some 56, MOp.call 64 [(0, Opd.s 54), (0, Opd.s 55)], some (52, true)⟩,
 ⟨some 57, MOp.pick (Opd.s 52) (Opd.s 56)
 (Opd.c (AV.bool false)), none⟩]).seq
 (MC.cond (Opd.s 57)
 (MC.reg
 [⟨some 58, MOp.mv (Opd.s 8), none⟩,
 ⟨some 59, MOp.call 33 [(0, Opd.s 58)], none⟩,
 ⟨some 60, MOp.fa 1 (Opd.s 6), none⟩,
 ⟨none, MOp.store 1 (Opd.s 60) (Opd.s 59), none⟩])
 MC.skip))).seq
 (MC.reg
 [⟨some 46, MOp.mv (Opd.s 8), none⟩,
 ⟨some 47, MOp.bin .sub (Opd.s 46)
 (Opd.c (AV.int .i64 1)), none⟩,
 ⟨some 8, MOp.mv (Opd.s 47), none⟩])))
def M43b1l : List Bool := [false, false, true, true, true, false, true, false, true, false, false, false, false, false, false, false, false, false, false, false, false, false, false, false, false, false, false, false, false, false, false, false, false, false, false, false, false, false, false, false, false, false, false, false, false, false, false, false, false, false, false, false, false, false, false, false, false, false, false, false, false, false, false, false, false, false, false, false, false, false, false, false, false, false, false, false, false, false, false, false]
def M43b2 : MC :=
 (((MC.reg
 [⟨some 27, MOp.mv (Opd.s 7), none⟩,
 ⟨some 28, MOp.bin .lss (Opd.s 27)
 (Opd.c (AV.int .i64 4)), none⟩]).seq
 (MC.cond (Opd.s 28) MC.skip (MC.exit 0))).seq
 ((MC.block 1
 ((MC.reg
 [⟨some 31, MOp.fa 0 (Opd.s 2), none⟩,
 ⟨some 32, MOp.load none (Opd.s 31), none⟩,
 ⟨some 33, MOp.mv (Opd.s 7), none⟩,
 ⟨some 34, MOp.call 64 [(0, Opd.s 32), (0, Opd.s 33)], none⟩,
 ⟨some 35, MOp.mv (Opd.s 34), none⟩,
 ⟨some 36, MOp.fa 0 (Opd.s 3), some (35, true)⟩,
 ⟨some 37, MOp.load none (Opd.s 36), some (35, true)⟩,
 ⟨some 38, MOp.mv (Opd.s 7), some (35, true)⟩,
 ⟨some 39, MOp.call 64 [(0, Opd.s 37), (0, Opd.s 38)], some (35, true)⟩,
 ⟨some 40, MOp.pick (Opd.s 35) (Opd.s 39)
 (Opd.c (AV.bool false)), none⟩]).seq
 (MC.cond (Opd.s 40)
 (MC.reg
 [⟨some 41, MOp.mv (Opd.s 7), none⟩,
 ⟨some 42, MOp.call 31 [(0, Opd.s 41)], none⟩,
 ⟨some 43, MOp.fa 0 (Opd.s 6), none⟩,
 ⟨none, MOp.store 1 (Opd.s 43) (Opd.s 42), none⟩])
 MC.skip))).seq
 (MC.reg
 [⟨some 29, MOp.mv (Opd.s 7), none⟩,
 ⟨some 30, MOp.bin .add (Opd.s 29)
 (Opd.c (AV.int .i64 1)), none⟩,
 ⟨some 7, MOp.mv (Opd.s 30), none⟩])))
def M43b2l : List Bool := [false, false, true, true, true, false, true, true, false, false, false, false, false, false, false, false, false, false, false, false, false, false, false, false, false, false, false, false, false, false, false, false, false, false, false, false, false, false, false, false, false, false, false, false, false, false, false, false, false, false, false, false, false, false, false, false, false, false, false, false, false, false, false, false, false, false, false, false, false, false, false, false, false, false, false, false, false, false, false, false]
def M43r0 : MC :=
 ((MC.reg
 [⟨some 79, MOp.load (some 5) (Opd.s 6), none⟩,
 ⟨none, MOp.store 5 (Opd.s 4) (Opd.s 79), none⟩,
 ⟨some 5, MOp.mv (Opd.c (AV.bool true)), none⟩]).seq
 MC.ret)
def M43r1 : MC :=
 (((MC.reg
 [⟨some 9, MOp.mv (Opd.c (AV.int .i64 1)), none⟩]).seq
 (MC.block 4
 (MC.loop M43b0l M43b0))).seq
 M43r0)
def M43r2 : MC :=
 (((MC.reg
 [⟨some 8, MOp.mv (Opd.c (AV.int .i64 2)), none⟩]).seq
 (MC.block 2
 (MC.loop M43b1l M43b1))).seq
 M43r1)
def M43 : MFun :=
 ⟨80, [MRes.cell 4 (some 5), MRes.tmp 0 5], (MC.reg
 [⟨some 2, MOp.box (Opd.s 0), none⟩,
 ⟨some 3, MOp.box (Opd.s 1), none⟩,
 ⟨some 4, MOp.alloc
 [AV.int .i64 0, AV.int .i64 0,
 AV.int .i64 0, AV.int .i64 0,
 AV.int .i64 0], none⟩,
 ⟨some 5, MOp.mv (Opd.c (AV.bool false)), none⟩]).seq
 (((MC.reg
 [⟨some 10, MOp.load (some 5) (Opd.s 2), none⟩,
 ⟨some 11, MOp.call 58 [(0, Opd.s 10)], none⟩,
 ⟨some 12, MOp.un .not (Opd.s 11), none⟩,
 ⟨some 13, MOp.mv (Opd.s 12), none⟩,
 ⟨some 14, MOp.load (some 5) (Opd.s 3), some (13, false)⟩,
 ⟨some 15, MOp.call 58 [(0, Opd.s 14)], some (13, false)⟩,
 ⟨some 16, MOp.un .not (Opd.s 15), some (13, false)⟩,
 ⟨some 17, MOp.pick (Opd.s 13) (Opd.c (AV.bool true)) (Opd.s 16), none⟩]).seq
 (MC.cond (Opd.s 17)
 ((MC.reg
 [⟨some 18, MOp.build
 [AV.int .i64 0, AV.int .i64 0,
 AV.int .i64 0, AV.int .i64 0,
 AV.int .i64 0]
 [], none⟩,
 ⟨none, MOp.store 5 (Opd.s 4) (Opd.s 18), none⟩,
 ⟨some 5, MOp.mv (Opd.c (AV.bool false)), none⟩]).seq
 MC.ret)
 MC.skip)).seq
 ((MC.draw
 [⟨some 19, MOp.fa 3 (Opd.s 3), none⟩,
 ⟨some 20, MOp.load none (Opd.s 19), none⟩,
 ⟨some 21, MOp.call 27 [(0, Opd.s 20)], none⟩,
 ⟨some 22, MOp.call 35 [(0, Opd.s 21)], none⟩,
 ⟨some 23, MOp.fa 4 (Opd.s 3), none⟩,
 ⟨some 24, MOp.load none (Opd.s 23), none⟩,
 ⟨some 25, MOp.call 29 [(0, Opd.s 24)], none⟩,
 ⟨some 26, MOp.build
 [AV.int .i64 0, AV.int .i64 0,
 AV.int .i64 0, AV.int .i64 0,
 AV.int .i64 0]
 [(2, 1, Opd.c (AV.int .i64 1)), (3, 1, Opd.s 22),
 (4, 1, Opd.s 25)], none⟩,
 ⟨some 6, MOp.alloc
 [AV.int .i64 0, AV.int .i64 0,
 AV.int .i64 0, AV.int .i64 0,
 AV.int .i64 0], none⟩,
 ⟨none, MOp.store 5 (Opd.s 6) (Opd.s 26), none⟩]
 [0, 1, 3, 7, 0, 16, 63, 127, 0, 511]).seq
 (((MC.reg
 [⟨some 7, MOp.mv (Opd.c (AV.int .i64 0)), none⟩]).seq
 (MC.block 0
 (MC.loop M43b2l M43b2))).seq
 M43r2))) ⟩
def M44 : MFun :=
 ⟨11, [MRes.tmp 0 4], (MC.reg
 [⟨some 4, MOp.mv (Opd.c (AV.int .i64 0)), none⟩]).seq
 ((MC.reg
 [⟨some 5, MOp.mv (Opd.s 0), none⟩,
 ⟨some 6, MOp.bin .add (Opd.s 5)
 (Opd.c (AV.int .i64 5)), none⟩,
 ⟨some 7, MOp.bin .mul (Opd.c (AV.int .i64 2))
 (Opd.s 6), none⟩,
 ⟨some 8, MOp.bin .add (Opd.s 7)
 (Opd.c (AV.int .i64 2)), none⟩,
 ⟨some 9, MOp.mv (Opd.s 1), none⟩,
 ⟨some 10, MOp.call 36 [(0, Opd.s 8), (0, Opd.s 9)], none⟩,
 ⟨some 4, MOp.mv (Opd.s 10), none⟩]).seq
 MC.ret) ⟩
def M45 : MFun :=
 ⟨11, [MRes.tmp 0 4], (MC.reg
 [⟨some 4, MOp.mv (Opd.c (AV.int .i64 0)), none⟩]).seq
 ((MC.reg
 [⟨some 5, MOp.mv (Opd.s 0), none⟩,
 ⟨some 6, MOp.bin .add (Opd.s 5)
 (Opd.c (AV.int .i64 5)), none⟩,
 ⟨some 7, MOp.bin .mul (Opd.c (AV.int .i64 2))
 (Opd.s 6), none⟩,
 ⟨some 8, MOp.bin .add (Opd.s 7)
 (Opd.c (AV.int .i64 2)), none⟩,
 ⟨some 9, MOp.mv (Opd.s 1), none⟩,
 ⟨some 10, MOp.call 37 [(0, Opd.s 8), (0, Opd.s 9)], none⟩,
 ⟨some 4, MOp.mv (Opd.s 10), none⟩]).seq
 MC.ret) ⟩
theorem tab22 : tableOf Tryd.prog 22 = some M22 := by kernel_rfl
theorem tab25 : tableOf Tryd.prog 25 = some M25 := by kernel_rfl
theorem tab26 : tableOf Tryd.prog 26 = some M26 := by kernel_rfl
theorem tab27 : tableOf Tryd.prog 27 = some M27 := by kernel_rfl
theorem tab28 : tableOf Tryd.prog 28 = some M28 := by kernel_rfl
theorem tab29 : tableOf Tryd.prog 29 = some M29 := by kernel_rfl
theorem tab30 : tableOf Tryd.prog 30 = some M30 := by kernel_rfl
theorem tab31 : tableOf Tryd.prog 31 = some M31 := by kernel_rfl
theorem tab32 : tableOf Tryd.prog 32 = some M32 := by kernel_rfl
theorem tab33 : tableOf Tryd.prog 33 = some M33 := by kernel_rfl
theorem tab34 : tableOf Tryd.prog 34 = some M34 := by kernel_rfl
theorem tab35 : tableOf Tryd.prog 35 = some M35 := by kernel_rfl
theorem tab36 : tableOf Tryd.prog 36 = some M36 := by kernel_rfl
theorem tab37 : tableOf Tryd.prog 37 = some M37 := by kernel_rfl
theorem tab58 : tableOf Tryd.prog 58 = some M58 := by kernel_rfl
theorem tab62 : tableOf Tryd.prog 62 = some M62 := by kernel_rfl
theorem tab63 : tableOf Tryd.prog 63 = some M63 := by kernel_rfl
theorem tab64 : tableOf Tryd.prog 64 = some M64 := by kernel_rfl
theorem tab65 : tableOf Tryd.prog 65 = some M65 := by kernel_rfl
theorem tab66 : tableOf Tryd.prog 66 = some M66 := by kernel_rfl
theorem tab42 : tableOf Tryd.prog 42 = some M42 := by kernel_rfl
theorem tab43 : tableOf Tryd.prog 43 = some M43 := by kernel_rfl
theorem tab44 : tableOf Tryd.prog 44 = some M44 := by kernel_rfl
theorem tab45 : tableOf Tryd.prog 45 = some M45 := by kernel_rfl
theorem evT_in {k : Nat} {f : Nat} {m : MFun} (hx : ext f = none) (hF : tableOf Tryd.prog f = some m) (args : List AV) (s : St) :
    evT (k + 1) f args s = outR m.res (evC tabGl (evT k) k m.body (env0 m.ntmps args) s) := by
  simp only [evT, evF, hx, hF]
end Go.Proofs.YtbeimfhodgmjhaaDoor
