/- Functions of the program in the evaluator's form, written out by a program. No conditions. -/
import Derived.Test.YtbeimfhodgmjhaaDoorM8
set_option linter.unusedVariables false
namespace Go.Proofs.YtbeimfhodgmjhaaDoor
open Go Go.Ab
def M23b0 : MC :=
 ((MC.reg
 [⟨some 23, MOp.bin .lss (Opd.s 22) (Opd.s 21), none⟩]).seq
 ((MC.cond (Opd.s 23) MC.skip (MC.exit 0)).seq
 ((MC.block 1
 ((MC.reg
 [⟨some 24, MOp.mv (Opd.s 22), none⟩,
 ⟨some 25, MOp.ixa 1 (Opd.s 20) (Opd.s 22), none⟩,
 ⟨some 26, MOp.load none (Opd.s 25), none⟩,
 ⟨some 5, MOp.mv (Opd.s 24), none⟩,
 ⟨some 6, MOp.mv (Opd.s 26), none⟩]).seq
 (MC.reg
 [⟨some 27, MOp.mv (Opd.s 4), none⟩,
 ⟨some 28, MOp.mv (Opd.s 5), none⟩,
 ⟨some 29, MOp.bin .add (Opd.s 28)
 (Opd.c (AV.int .i64 1)), none⟩,
 ⟨some 30, MOp.mv (Opd.s 6), none⟩,
 ⟨some 31, MOp.conv (Cv.toInt .u8) (Opd.s 30), none⟩,
 ⟨some 32, MOp.bsl false 1 1 [AV.int .u8 0]
 [(0, 1, Opd.s 31)], none⟩,
 ⟨some 33, MOp.conv Cv.b2s (Opd.s 32), none⟩,
 ⟨some 34, MOp.build [AV.int .i64 0, AV.str []]
 [(0, 1, Opd.s 29), (1, 1, Opd.s 33)], none⟩,
 ⟨some 35, MOp.bsl false 2 1
 [AV.int .i64 0, AV.str []]
 [(0, 2, Opd.s 34)], none⟩,
 ⟨some 36, MOp.app false 2 24 (Opd.s 27) (Opd.s 35), none⟩,
 ⟨some 4, MOp.mv (Opd.s 36), none⟩]))).seq
 (MC.reg
 [⟨some 37, MOp.bin .add (Opd.s 22)
 (Opd.c (AV.int .i64 1)), none⟩,
 ⟨some 22, MOp.mv (Opd.s 37), none⟩]))))
def M23b0l : List Bool := [false, false, false, false, true, false, false, false, false, false, false, false, false, false, false, false, false, false, false, false, true, true, true, false, false, false, false, false, false, false, false, false, false, false, false, false, false, false, false, false, false, false]
def M23r0 : MC :=
 ((MC.reg
 [⟨some 38, MOp.mv (Opd.s 4), none⟩,
 ⟨some 39, MOp.call 41 [(2, Opd.s 38)], none⟩,
 ⟨some 40, MOp.ext 0 (Opd.s 39), none⟩,
 ⟨some 41, MOp.ext 1 (Opd.s 39), none⟩,
 ⟨some 2, MOp.mv (Opd.s 40), none⟩,
 ⟨some 3, MOp.mv (Opd.s 41), none⟩]).seq
 MC.ret)
def M23 : MFun :=
 ⟨42, [MRes.tmp 0 2, MRes.tmp 0 3], (MC.reg
 [⟨some 1, MOp.box (Opd.s 0), none⟩,
 ⟨some 2, MOp.mv (Opd.c (AV.str [])), none⟩,
 ⟨some 3, MOp.mv (Opd.c (AV.bool false)), none⟩]).seq
 (((MC.reg
 [⟨some 7, MOp.load (some 5) (Opd.s 1), none⟩,
 ⟨some 8, MOp.call 25 [(0, Opd.s 7)], none⟩,
 ⟨some 9, MOp.un .not (Opd.s 8), none⟩]).seq
 (MC.cond (Opd.s 9)
 ((MC.reg
 [⟨some 2, MOp.mv (Opd.c (AV.str [])), none⟩,
 ⟨some 3, MOp.mv (Opd.c (AV.bool false)), none⟩]).seq
 MC.ret)
 MC.skip)).seq
 ((MC.reg
 [⟨some 4, MOp.mv (Opd.c AV.nils), none⟩]).seq
 (((MC.reg
 [⟨some 10, MOp.fa 0 (Opd.s 1), none⟩,
 ⟨some 11, MOp.load none (Opd.s 10), none⟩,
 ⟨some 12, MOp.fa 1 (Opd.s 1), none⟩,
 ⟨some 13, MOp.load none (Opd.s 12), none⟩,
 ⟨some 14, MOp.fa 2 (Opd.s 1), none⟩,
 ⟨some 15, MOp.load none (Opd.s 14), none⟩,
 ⟨some 16, MOp.fa 3 (Opd.s 1), none⟩,
 ⟨some 17, MOp.load none (Opd.s 16), none⟩,
 ⟨some 18, MOp.fa 4 (Opd.s 1), none⟩,
 ⟨some 19, MOp.load none (Opd.s 18), none⟩,
 ⟨some 20, MOp.bsl false 1 5
 [AV.int .i64 0, AV.int .i64 0,
 AV.int .i64 0, AV.int .i64 0,
 AV.int .i64 0]
 [(0, 1, Opd.s 11), (1, 1, Opd.s 13), (2, 1, Opd.s 15),
 (3, 1, Opd.s 17), (4, 1, Opd.s 19)], none⟩,
 ⟨some 21, MOp.len (Opd.s 20), none⟩,
 ⟨some 22, MOp.mv (Opd.c (AV.int .i64 0)), none⟩]).seq
 (MC.block 0
 (MC.loop M23b0l M23b0))).seq
 M23r0))) ⟩
def M24 : MFun :=
 ⟨24, [MRes.tmp 0 2, MRes.tmp 0 3], (MC.reg
 [⟨some 1, MOp.box (Opd.s 0), none⟩,
 ⟨some 2, MOp.mv (Opd.c (AV.str [])), none⟩,
 ⟨some 3, MOp.mv (Opd.c (AV.bool false)), none⟩]).seq
 (((MC.reg
 [⟨some 4, MOp.load (some 5) (Opd.s 1), none⟩,
 ⟨some 5, MOp.call 58 [(0, Opd.s 4)], none⟩,
 ⟨some 6, MOp.un .not (Opd.s 5), none⟩]).seq
 (MC.cond (Opd.s 6)
 ((MC.reg
 [⟨some 2, MOp.mv (Opd.c (AV.str [])), none⟩,
 ⟨some 3, MOp.mv (Opd.c (AV.bool false)), none⟩]).seq
 MC.ret)
 MC.skip)).seq
 ((MC.reg
 [⟨some 7, MOp.fa 0 (Opd.s 1), none⟩,
 ⟨some 8, MOp.load none (Opd.s 7), none⟩,
 ⟨some 9, MOp.conv (Cv.toInt .u8) (Opd.s 8), none⟩,
 ⟨some 10, MOp.fa 1 (Opd.s 1), none⟩,
 ⟨some 11, MOp.load none (Opd.s 10), none⟩,
 ⟨some 12, MOp.conv (Cv.toInt .u8) (Opd.s 11), none⟩,
 ⟨some 13, MOp.fa 2 (Opd.s 1), none⟩,
 ⟨some 14, MOp.load none (Opd.s 13), none⟩,
 ⟨some 15, MOp.conv (Cv.toInt .u8) (Opd.s 14), none⟩,
 ⟨some 16, MOp.fa 3 (Opd.s 1), none⟩,
 ⟨some 17, MOp.load none (Opd.s 16), none⟩,
 ⟨some 18, MOp.conv (Cv.toInt .u8) (Opd.s 17), none⟩,
 ⟨some 19, MOp.fa 4 (Opd.s 1), none⟩,
 ⟨some 20, MOp.load none (Opd.s 19), none⟩,
 ⟨some 21, MOp.conv (Cv.toInt .u8) (Opd.s 20), none⟩,
 ⟨some 22, MOp.bsl false 1 15
 [AV.int .u8 0, AV.int .u8 0,
 AV.int .u8 0, AV.int .u8 0,
 AV.int .u8 0, AV.int .u8 0,
 AV.int .u8 0, AV.int .u8 0,
 AV.int .u8 0, AV.int .u8 0,
 AV.int .u8 0, AV.int .u8 0,
 AV.int .u8 0, AV.int .u8 0,
 AV.int .u8 0]
 [(0, 1, Opd.c (AV.int .u8 1)),
 (1, 1, Opd.c (AV.int .u8 1)), (2, 1, Opd.s 9),
 (3, 1, Opd.c (AV.int .u8 2)),
 (4, 1, Opd.c (AV.int .u8 1)), (5, 1, Opd.s 12),
 (6, 1, Opd.c (AV.int .u8 3)),
 (7, 1, Opd.c (AV.int .u8 1)), (8, 1, Opd.s 15),
 (9, 1, Opd.c (AV.int .u8 4)),
 (10, 1, Opd.c (AV.int .u8 1)), (11, 1, Opd.s 18),
 (12, 1, Opd.c (AV.int .u8 5)),
 (13, 1, Opd.c (AV.int .u8 1)), (14, 1, Opd.s 21)], none⟩,
 ⟨some 23, MOp.conv Cv.b2s (Opd.s 22), none⟩,
 ⟨some 2, MOp.mv (Opd.s 23), none⟩,
 ⟨some 3, MOp.mv (Opd.c (AV.bool true)), none⟩]).seq
 MC.ret)) ⟩
def M38b0 : MC :=
 ((MC.reg
 [⟨some 17, MOp.bin .lss (Opd.s 16)
 (Opd.c (AV.int .i64 5)), none⟩]).seq
 ((MC.cond (Opd.s 17) MC.skip (MC.exit 0)).seq
 ((MC.block 1
 ((MC.reg
 [⟨some 18, MOp.mv (Opd.s 16), none⟩,
 ⟨some 7, MOp.mv (Opd.s 18), none⟩]).seq
 ((MC.reg
 [⟨some 20, MOp.mv (Opd.s 4), none⟩,
 ⟨some 21, MOp.mv (Opd.s 7), none⟩,
 ⟨some 22, MOp.bin .add (Opd.s 21)
 (Opd.c (AV.int .i64 1)), none⟩,
 ⟨some 23, MOp.call 68 [(2, Opd.s 20), (0, Opd.s 22)], none⟩,
 ⟨some 19, MOp.mv (Opd.s 23), none⟩,
 ⟨some 24, MOp.ext 0 (Opd.s 19), none⟩,
 ⟨some 25, MOp.ext 1 (Opd.s 19), none⟩,
 ⟨some 8, MOp.mv (Opd.s 24), none⟩,
 ⟨some 9, MOp.mv (Opd.s 25), none⟩]).seq
 ((MC.reg
 [⟨some 26, MOp.mv (Opd.s 5), none⟩,
 ⟨some 27, MOp.mv (Opd.s 26), none⟩,
 ⟨some 28, MOp.mv (Opd.s 9), some (27, true)⟩,
 ⟨some 29, MOp.pick (Opd.s 27) (Opd.s 28)
 (Opd.c (AV.bool false)), none⟩,
 ⟨some 30, MOp.mv (Opd.s 29), none⟩,
 ⟨some 31, MOp.mv (Opd.s 8), some (30, true)⟩,
 ⟨some 32, MOp.lens (Opd.s 31), some (30, true)⟩,
 ⟨some 33, MOp.bin .eql (Opd.s 32)
 (Opd.c (AV.int .i64 1)), some (30, true)⟩,
 ⟨some 34, MOp.pick (Opd.s 30) (Opd.s 33)
 (Opd.c (AV.bool false)), none⟩,
 ⟨some 5, MOp.mv (Opd.s 34), none⟩]).seq
 ((MC.reg
 [⟨some 35, MOp.mv (Opd.s 5), none⟩]).seq
 (MC.cond (Opd.s 35)
 (MC.reg
 [⟨some 36, MOp.mv (Opd.s 7), none⟩,
 ⟨some 37, MOp.mv (Opd.s 8), none⟩,
 ⟨some 38, MOp.ixs (Opd.s 37)
 (Opd.c (AV.int .i64 0)), none⟩,
 ⟨some 39, MOp.conv (Cv.toInt .i64) (Opd.s 38), none⟩,
 ⟨some 40, MOp.ixp 5 1 (Opd.s 6) (Opd.s 36), none⟩,
 ⟨none, MOp.store 1 (Opd.s 40) (Opd.s 39), none⟩])
 MC.skip)))))).seq
 (MC.reg
 [⟨some 41, MOp.bin .add (Opd.s 16)
 (Opd.c (AV.int .i64 1)), none⟩,
 ⟨some 16, MOp.mv (Opd.s 41), none⟩]))))
def M38b0l : List Bool := [false, false, true, false, true, true, true, false, false, false, false, false, false, false, false, false, true, false, false, false, false, false, false, false, false, false, false, false, false, false, false, false, false, false, false, false, false, false, false, false, false, false, false, false, false, false, false, false, false, false, false, false, false, false, false, false, false, false, false, false, false, false]
def M38r0 : MC :=
 ((MC.reg
 [⟨some 42, MOp.ixp 5 1 (Opd.s 6) (Opd.c (AV.int .i64 0)), none⟩,
 ⟨some 43, MOp.load none (Opd.s 42), none⟩,
 ⟨some 44, MOp.ixp 5 1 (Opd.s 6) (Opd.c (AV.int .i64 1)), none⟩,
 ⟨some 45, MOp.load none (Opd.s 44), none⟩,
 ⟨some 46, MOp.ixp 5 1 (Opd.s 6) (Opd.c (AV.int .i64 2)), none⟩,
 ⟨some 47, MOp.load none (Opd.s 46), none⟩,
 ⟨some 48, MOp.ixp 5 1 (Opd.s 6) (Opd.c (AV.int .i64 3)), none⟩,
 ⟨some 49, MOp.load none (Opd.s 48), none⟩,
 ⟨some 50, MOp.ixp 5 1 (Opd.s 6) (Opd.c (AV.int .i64 4)), none⟩,
 ⟨some 51, MOp.load none (Opd.s 50), none⟩,
 ⟨some 52, MOp.build
 [AV.int .i64 0, AV.int .i64 0,
 AV.int .i64 0, AV.int .i64 0,
 AV.int .i64 0]
 [(0, 1, Opd.s 43), (1, 1, Opd.s 45), (2, 1, Opd.s 47),
 (3, 1, Opd.s 49), (4, 1, Opd.s 51)], none⟩,
 ⟨some 10, MOp.alloc
 [AV.int .i64 0, AV.int .i64 0,
 AV.int .i64 0, AV.int .i64 0,
 AV.int .i64 0], none⟩,
 ⟨none, MOp.store 5 (Opd.s 10) (Opd.s 52), none⟩]).seq
 (((MC.reg
 [⟨some 53, MOp.mv (Opd.s 5), none⟩,
 ⟨some 54, MOp.un .not (Opd.s 53), none⟩,
 ⟨some 55, MOp.mv (Opd.s 54), none⟩,
 ⟨some 56, MOp.load (some 5) (Opd.s 10), some (55, false)⟩,
 ⟨some 57, MOp.call 25 [(0, Opd.s 56)], some (55, false)⟩,
 ⟨some 58, MOp.un .not (Opd.s 57), some (55, false)⟩,
 ⟨some 59, MOp.pick (Opd.s 55) (Opd.c (AV.bool true))
 (Opd.s 58), none⟩]).seq
 (MC.cond (Opd.s 59)
 ((MC.reg
 [⟨some 60, MOp.build
 [AV.int .i64 0,
 AV.int .i64 0,
 AV.int .i64 0,
 AV.int .i64 0,
 AV.int .i64 0]
 [], none⟩,
 ⟨none, MOp.store 5 (Opd.s 2) (Opd.s 60), none⟩,
 ⟨some 3, MOp.mv (Opd.c (AV.bool false)), none⟩]).seq
 MC.ret)
 MC.skip)).seq
 ((MC.reg
 [⟨some 61, MOp.load (some 5) (Opd.s 10), none⟩,
 ⟨none, MOp.store 5 (Opd.s 2) (Opd.s 61), none⟩,
 ⟨some 3, MOp.mv (Opd.c (AV.bool true)), none⟩]).seq
 MC.ret)))
def M38 : MFun :=
 ⟨62, [MRes.cell 2 (some 5), MRes.tmp 0 3], (MC.reg
 [⟨some 2, MOp.alloc
 [AV.int .i64 0, AV.int .i64 0,
 AV.int .i64 0, AV.int .i64 0,
 AV.int .i64 0], none⟩,
 ⟨some 3, MOp.mv (Opd.c (AV.bool false)), none⟩]).seq
 ((MC.reg
 [⟨some 12, MOp.mv (Opd.s 0), none⟩,
 ⟨some 13, MOp.call 67 [(0, Opd.s 12)], none⟩,
 ⟨some 11, MOp.mv (Opd.s 13), none⟩,
 ⟨some 14, MOp.ext 0 (Opd.s 11), none⟩,
 ⟨some 15, MOp.ext 1 (Opd.s 11), none⟩,
 ⟨some 4, MOp.mv (Opd.s 14), none⟩,
 ⟨some 5, MOp.mv (Opd.s 15), none⟩]).seq
 ((MC.reg
 [⟨some 6, MOp.alloc
 [AV.int .i64 0, AV.int .i64 0,
 AV.int .i64 0, AV.int .i64 0,
 AV.int .i64 0], none⟩]).seq
 (((MC.reg
 [⟨some 16, MOp.mv (Opd.c (AV.int .i64 0)), none⟩]).seq
 (MC.block 0
 (MC.loop M38b0l M38b0))).seq
 M38r0))) ⟩
def M39b0 : MC :=
 (((MC.reg
 [⟨some 22, MOp.mv (Opd.s 8), none⟩,
 ⟨some 23, MOp.mv (Opd.s 4), none⟩,
 ⟨some 24, MOp.len (Opd.s 23), none⟩,
 ⟨some 25, MOp.bin .lss (Opd.s 22) (Opd.s 24), none⟩]).seq
 (MC.cond (Opd.s 25) MC.skip (MC.exit 2))).seq
 ((MC.block 3
 (((MC.reg
 [⟨some 28, MOp.mv (Opd.s 4), none⟩,
 ⟨some 29, MOp.mv (Opd.s 8), none⟩,
 ⟨some 30, MOp.ixa 2 (Opd.s 28) (Opd.s 29), none⟩,
 ⟨some 31, MOp.fa 0 (Opd.s 30), none⟩,
 ⟨some 32, MOp.load none (Opd.s 31), none⟩,
 ⟨some 33, MOp.mv (Opd.s 7), none⟩,
 ⟨some 34, MOp.bin .neq (Opd.s 32)
 (Opd.s 33), none⟩]).seq
 (MC.cond (Opd.s 34) (MC.exit 3)
 MC.skip)).seq
 (((MC.reg
 [⟨some 35, MOp.mv (Opd.s 4), none⟩,
 ⟨some 36, MOp.mv (Opd.s 8), none⟩,
 ⟨some 37, MOp.ixa 2 (Opd.s 35) (Opd.s 36), none⟩,
 ⟨some 38, MOp.fa 1 (Opd.s 37), none⟩,
 ⟨some 39, MOp.load none (Opd.s 38), none⟩,
 ⟨some 40, MOp.lens (Opd.s 39), none⟩,
 ⟨some 41, MOp.bin .eql (Opd.s 40)
 (Opd.c
 (AV.int .i64 1)), none⟩]).seq
 (MC.cond (Opd.s 41)
 (MC.reg
 [⟨some 42, MOp.mv (Opd.s 7), none⟩,
 ⟨some 43, MOp.mv (Opd.s 4), none⟩,
 ⟨some 44, MOp.mv (Opd.s 8), none⟩,
 ⟨some 45, MOp.ixa 2 (Opd.s 43) (Opd.s 44), none⟩,
 ⟨some 46, MOp.fa 1 (Opd.s 45), none⟩,
 ⟨some 47, MOp.load none (Opd.s 46), none⟩,
 ⟨some 48, MOp.ixs (Opd.s 47)
 (Opd.c
 (AV.int .i64 0)), none⟩,
 ⟨some 49, MOp.conv (Cv.toInt .i64)
 (Opd.s 48), none⟩,
 ⟨some 50, MOp.ixp 6 1 (Opd.s 6) (Opd.s 42), none⟩,
 ⟨none, MOp.store 1 (Opd.s 50) (Opd.s 49), none⟩])
 MC.skip)).seq
 (MC.exit 2)))).seq
 (MC.reg
 [⟨some 26, MOp.mv (Opd.s 8), none⟩,
 ⟨some 27, MOp.bin .add (Opd.s 26)
 (Opd.c (AV.int .i64 1)), none⟩,
 ⟨some 8, MOp.mv (Opd.s 27), none⟩])))
def M39b0l : List Bool := [false, false, true, false, true, false, true, true, true, false, false, false, false, false, false, false, false, false, false, false, false, false, false, false, false, false, false, false, false, false, false, false, false, false, false, false, false, false, false, false, false, false, false, false, false, false, false, false, false, false, false, false, false, false, false, false, false, false, false, false, false, false, false, false, false, false, false]
def M39r0 : MC :=
 (MC.reg
 [⟨some 20, MOp.mv (Opd.s 7), none⟩,
 ⟨some 21, MOp.bin .add (Opd.s 20)
 (Opd.c (AV.int .i64 1)), none⟩,
 ⟨some 7, MOp.mv (Opd.s 21), none⟩])
def M39b1 : MC :=
 (((MC.reg
 [⟨some 18, MOp.mv (Opd.s 7), none⟩,
 ⟨some 19, MOp.bin .leq (Opd.s 18)
 (Opd.c (AV.int .i64 5)), none⟩]).seq
 (MC.cond (Opd.s 19) MC.skip (MC.exit 0))).seq
 ((MC.block 1
 ((MC.reg
 [⟨some 8, MOp.mv (Opd.c (AV.int .i64 0)), none⟩]).seq
 (MC.block 2
 (MC.loop M39b0l M39b0)))).seq
 M39r0))
def M39b1l : List Bool := [false, false, true, false, true, false, true, true, false, false, false, false, false, false, false, false, false, false, false, false, false, false, false, false, false, false, false, false, false, false, false, false, false, false, false, false, false, false, false, false, false, false, false, false, false, false, false, false, false, false, false, false, false, false, false, false, false, false, false, false, false, false, false, false, false, false, false]
def M39r1 : MC :=
 ((MC.reg
 [⟨some 51, MOp.ixp 6 1 (Opd.s 6) (Opd.c (AV.int .i64 1)), none⟩,
 ⟨some 52, MOp.load none (Opd.s 51), none⟩,
 ⟨some 53, MOp.ixp 6 1 (Opd.s 6) (Opd.c (AV.int .i64 2)), none⟩,
 ⟨some 54, MOp.load none (Opd.s 53), none⟩,
 ⟨some 55, MOp.ixp 6 1 (Opd.s 6) (Opd.c (AV.int .i64 3)), none⟩,
 ⟨some 56, MOp.load none (Opd.s 55), none⟩,
 ⟨some 57, MOp.ixp 6 1 (Opd.s 6) (Opd.c (AV.int .i64 4)), none⟩,
 ⟨some 58, MOp.load none (Opd.s 57), none⟩,
 ⟨some 59, MOp.ixp 6 1 (Opd.s 6) (Opd.c (AV.int .i64 5)), none⟩,
 ⟨some 60, MOp.load none (Opd.s 59), none⟩,
 ⟨some 61, MOp.build
 [AV.int .i64 0, AV.int .i64 0,
 AV.int .i64 0, AV.int .i64 0,
 AV.int .i64 0]
 [(0, 1, Opd.s 52), (1, 1, Opd.s 54), (2, 1, Opd.s 56),
 (3, 1, Opd.s 58), (4, 1, Opd.s 60)], none⟩,
 ⟨some 9, MOp.alloc
 [AV.int .i64 0, AV.int .i64 0,
 AV.int .i64 0, AV.int .i64 0,
 AV.int .i64 0], none⟩,
 ⟨none, MOp.store 5 (Opd.s 9) (Opd.s 61), none⟩]).seq
 (((MC.reg
 [⟨some 62, MOp.load (some 5) (Opd.s 9), none⟩,
 ⟨some 63, MOp.call 58 [(0, Opd.s 62)], none⟩,
 ⟨some 64, MOp.un .not (Opd.s 63), none⟩]).seq
 (MC.cond (Opd.s 64)
 ((MC.reg
 [⟨some 65, MOp.build
 [AV.int .i64 0,
 AV.int .i64 0,
 AV.int .i64 0,
 AV.int .i64 0,
 AV.int .i64 0]
 [], none⟩,
 ⟨none, MOp.store 5 (Opd.s 2) (Opd.s 65), none⟩,
 ⟨some 3, MOp.mv (Opd.c (AV.bool false)), none⟩]).seq
 MC.ret)
 MC.skip)).seq
 ((MC.reg
 [⟨some 66, MOp.load (some 5) (Opd.s 9), none⟩,
 ⟨none, MOp.store 5 (Opd.s 2) (Opd.s 66), none⟩,
 ⟨some 3, MOp.mv (Opd.c (AV.bool true)), none⟩]).seq
 MC.ret)))
def M39 : MFun :=
 ⟨67, [MRes.cell 2 (some 5), MRes.tmp 0 3], (MC.reg
 [⟨some 2, MOp.alloc
 [AV.int .i64 0, AV.int .i64 0,
 AV.int .i64 0, AV.int .i64 0,
 AV.int .i64 0], none⟩,
 ⟨some 3, MOp.mv (Opd.c (AV.bool false)), none⟩]).seq
 ((MC.reg
 [⟨some 11, MOp.mv (Opd.s 0), none⟩,
 ⟨some 12, MOp.call 40 [(0, Opd.s 11)], none⟩,
 ⟨some 10, MOp.mv (Opd.s 12), none⟩,
 ⟨some 13, MOp.ext 0 (Opd.s 10), none⟩,
 ⟨some 14, MOp.ext 1 (Opd.s 10), none⟩,
 ⟨some 4, MOp.mv (Opd.s 13), none⟩,
 ⟨some 5, MOp.mv (Opd.s 14), none⟩]).seq
 (((MC.reg
 [⟨some 15, MOp.mv (Opd.s 5), none⟩,
 ⟨some 16, MOp.un .not (Opd.s 15), none⟩]).seq
 (MC.cond (Opd.s 16)
 ((MC.reg
 [⟨some 17, MOp.build
 [AV.int .i64 0, AV.int .i64 0,
 AV.int .i64 0, AV.int .i64 0,
 AV.int .i64 0]
 [], none⟩,
 ⟨none, MOp.store 5 (Opd.s 2) (Opd.s 17), none⟩,
 ⟨some 3, MOp.mv (Opd.c (AV.bool false)), none⟩]).seq
 MC.ret)
 MC.skip)).seq
 ((MC.reg
 [⟨some 6, MOp.alloc
 [AV.int .i64 0, AV.int .i64 0,
 AV.int .i64 0, AV.int .i64 0,
 AV.int .i64 0, AV.int .i64 0], none⟩]).seq
 (((MC.reg
 [⟨some 7, MOp.mv (Opd.c (AV.int .i64 1)), none⟩]).seq
 (MC.block 0
 (MC.loop M39b1l M39b1))).seq
 M39r1)))) ⟩
def M40b0 : MC :=
 (((MC.reg
 [⟨some 8, MOp.mv (Opd.s 0), none⟩,
 ⟨some 9, MOp.bin .neq (Opd.s 8) (Opd.c (AV.str [])), none⟩]).seq
 (MC.cond (Opd.s 9) MC.skip (MC.exit 0))).seq
 (MC.block 1
 (((MC.reg
 [⟨some 10, MOp.mv (Opd.s 0), none⟩,
 ⟨some 11, MOp.lens (Opd.s 10), none⟩,
 ⟨some 12, MOp.bin .lss (Opd.s 11)
 (Opd.c (AV.int .i64 2)), none⟩,
 ⟨some 13, MOp.mv (Opd.s 12), none⟩,
 ⟨some 14, MOp.mv (Opd.s 0), some (13, false)⟩,
 ⟨some 15, MOp.ixs (Opd.s 14)
 (Opd.c (AV.int .i64 1)), some (13, false)⟩,
 ⟨some 16, MOp.bin .gtr (Opd.s 15)
 (Opd.c (AV.int .u8 40)), some (13, false)⟩,
 ⟨some 17, MOp.pick (Opd.s 13) (Opd.c (AV.bool true))
 (Opd.s 16), none⟩,
 ⟨some 18, MOp.mv (Opd.s 17), none⟩,
 ⟨some 19, MOp.mv (Opd.s 0), some (18, false)⟩,
 ⟨some 20, MOp.lens (Opd.s 19), some (18, false)⟩,
 ⟨some 21, MOp.bin .sub (Opd.s 20)
 (Opd.c (AV.int .i64 2)), some (18, false)⟩,
 ⟨some 22, MOp.mv (Opd.s 0), some (18, false)⟩,
 ⟨some 23, MOp.ixs (Opd.s 22)
 (Opd.c (AV.int .i64 1)), some (18, false)⟩,
 ⟨some 24, MOp.conv (Cv.toInt .i64) (Opd.s 23), some (18, false)⟩,
 ⟨some 25, MOp.bin .lss (Opd.s 21) (Opd.s 24), some (18, false)⟩,
 ⟨some 26, MOp.pick (Opd.s 18) (Opd.c (AV.bool true))
 (Opd.s 25), none⟩]).seq
 (MC.cond (Opd.s 26)
 ((MC.reg
 [⟨some 2, MOp.mv (Opd.c AV.nils), none⟩,
 ⟨some 3, MOp.mv (Opd.c (AV.bool false)), none⟩]).seq
 MC.ret)
 MC.skip)).seq
 ((MC.draw
 [⟨some 27, MOp.mv (Opd.s 4), none⟩,
 ⟨some 28, MOp.mv (Opd.s 0), none⟩,
 ⟨some 29, MOp.ixs (Opd.s 28)
 (Opd.c (AV.int .i64 0)), none⟩,
 ⟨some 30, MOp.conv (Cv.toInt .i64) (Opd.s 29), none⟩,
 ⟨some 31, MOp.mv (Opd.s 0), none⟩,
 ⟨some 32, MOp.mv (Opd.s 0), none⟩,
 ⟨some 33, MOp.ixs (Opd.s 32)
 (Opd.c (AV.int .i64 1)), none⟩,
 ⟨some 34, MOp.conv (Cv.toInt .i64) (Opd.s 33), none⟩,
 ⟨some 35, MOp.bin .add
 (Opd.c (AV.int .i64 2)) (Opd.s 34), none⟩,
 ⟨some 36, MOp.sls (Opd.s 31)
 (some (Opd.c (AV.int .i64 2)))
 (some (Opd.s 35)), none⟩,
 ⟨some 37, MOp.build [AV.int .i64 0, AV.str []]
 [(0, 1, Opd.s 30), (1, 1, Opd.s 36)], none⟩,
 ⟨some 38, MOp.bsl false 2 1
 [AV.int .i64 0, AV.str []]
 [(0, 2, Opd.s 37)], none⟩,
 ⟨some 39, MOp.app false 2 24 (Opd.s 27) (Opd.s 38), none⟩,
 ⟨some 4, MOp.mv (Opd.s 39), none⟩]
 [0, 0, 2, 6, 0, 0, 32, 96, 224, 496, 1022, 2046, 4095, 8191]).seq
 (MC.reg
 [⟨some 40, MOp.mv (Opd.s 0), none⟩,
 ⟨some 41, MOp.mv (Opd.s 0), none⟩,
 ⟨some 42, MOp.ixs (Opd.s 41)
 (Opd.c (AV.int .i64 1)), none⟩,
 ⟨some 43, MOp.conv (Cv.toInt .i64) (Opd.s 42), none⟩,
 ⟨some 44, MOp.bin .add (Opd.c (AV.int .i64 2))
 (Opd.s 43), none⟩,
 ⟨some 45, MOp.sls (Opd.s 40) (some (Opd.s 44)) none, none⟩,
 ⟨some 0, MOp.mv (Opd.s 45), none⟩])))))
def M40b0l : List Bool := [true, false, false, false, true, false, false, false, false, false, false, false, false, false, false, false, false, false, false, false, false, false, false, false, false, false, false, false, false, false, false, false, false, false, false, false, false, false, false, false, false, false, false, false, false, false, false]
def M40r0 : MC :=
 ((MC.reg
 [⟨some 46, MOp.mv (Opd.s 4), none⟩,
 ⟨some 2, MOp.mv (Opd.s 46), none⟩,
 ⟨some 3, MOp.mv (Opd.c (AV.bool true)), none⟩]).seq
 MC.ret)
def M40 : MFun :=
 ⟨47, [MRes.tmp 2 2, MRes.tmp 0 3], (MC.reg
 [⟨some 2, MOp.mv (Opd.c AV.nils), none⟩,
 ⟨some 3, MOp.mv (Opd.c (AV.bool false)), none⟩]).seq
 ((MC.reg
 [⟨some 4, MOp.mv (Opd.c AV.nils), none⟩]).seq
 (((MC.reg
 [⟨some 5, MOp.mv (Opd.s 0), none⟩,
 ⟨some 6, MOp.lens (Opd.s 5), none⟩,
 ⟨some 7, MOp.bin .gtr (Opd.s 6)
 (Opd.c (AV.int .i64 64)), none⟩]).seq
 (MC.cond (Opd.s 7)
 ((MC.reg
 [⟨some 2, MOp.mv (Opd.c AV.nils), none⟩,
 ⟨some 3, MOp.mv (Opd.c (AV.bool false)), none⟩]).seq
 MC.ret)
 MC.skip)).seq
 ((MC.block 0
 (MC.loop M40b0l M40b0)).seq
 M40r0))) ⟩
def M41b0 : MC :=
 ((MC.reg
 [⟨some 10, MOp.bin .lss (Opd.s 9) (Opd.s 8), none⟩]).seq
 ((MC.cond (Opd.s 10) MC.skip (MC.exit 0)).seq
 ((MC.block 1
 ((MC.reg
 [⟨some 11, MOp.ixa 2 (Opd.s 7) (Opd.s 9), none⟩,
 ⟨some 12, MOp.load (some 2) (Opd.s 11), none⟩,
 ⟨some 6, MOp.alloc [AV.int .i64 0, AV.str []], none⟩,
 ⟨none, MOp.store 2 (Opd.s 6) (Opd.s 12), none⟩]).seq
 (((MC.reg
 [⟨some 13, MOp.fa 0 (Opd.s 6), none⟩,
 ⟨some 14, MOp.load none (Opd.s 13), none⟩,
 ⟨some 15, MOp.bin .lss (Opd.s 14)
 (Opd.c (AV.int .i64 0)), none⟩,
 ⟨some 16, MOp.mv (Opd.s 15), none⟩,
 ⟨some 17, MOp.fa 0 (Opd.s 6), some (16, false)⟩,
 ⟨some 18, MOp.load none (Opd.s 17), some (16, false)⟩,
 ⟨some 19, MOp.bin .gtr (Opd.s 18)
 (Opd.c (AV.int .i64 255)), some (16, false)⟩,
 ⟨some 20, MOp.pick (Opd.s 16) (Opd.c (AV.bool true))
 (Opd.s 19), none⟩,
 ⟨some 21, MOp.mv (Opd.s 20), none⟩,
 ⟨some 22, MOp.fa 1 (Opd.s 6), some (21, false)⟩,
 ⟨some 23, MOp.load none (Opd.s 22), some (21, false)⟩,
 ⟨some 24, MOp.lens (Opd.s 23), some (21, false)⟩,
 ⟨some 25, MOp.bin .gtr (Opd.s 24)
 (Opd.c (AV.int .i64 40)), some (21, false)⟩,
 ⟨some 26, MOp.pick (Opd.s 21) (Opd.c (AV.bool true))
 (Opd.s 25), none⟩]).seq
 (MC.cond (Opd.s 26)
 ((MC.reg
 [⟨some 2, MOp.mv (Opd.c (AV.str [])), none⟩,
 ⟨some 3, MOp.mv (Opd.c (AV.bool false)), none⟩]).seq
 MC.ret)
 MC.skip)).seq
 (MC.draw
 [⟨some 27, MOp.mv (Opd.s 4), none⟩,
 ⟨some 28, MOp.fa 0 (Opd.s 6), none⟩,
 ⟨some 29, MOp.load none (Opd.s 28), none⟩,
 ⟨some 30, MOp.conv (Cv.toInt .u8) (Opd.s 29), none⟩,
 ⟨some 31, MOp.fa 1 (Opd.s 6), none⟩,
 ⟨some 32, MOp.load none (Opd.s 31), none⟩,
 ⟨some 33, MOp.lens (Opd.s 32), none⟩,
 ⟨some 34, MOp.conv (Cv.toInt .u8) (Opd.s 33), none⟩,
 ⟨some 35, MOp.bsl false 1 2
 [AV.int .u8 0,
 AV.int .u8 0]
 [(0, 1, Opd.s 30), (1, 1, Opd.s 34)], none⟩,
 ⟨some 36, MOp.app false 1 1 (Opd.s 27) (Opd.s 35), none⟩,
 ⟨some 37, MOp.fa 1 (Opd.s 6), none⟩,
 ⟨some 38, MOp.load none (Opd.s 37), none⟩,
 ⟨some 39, MOp.app false 1 1 (Opd.s 36) (Opd.s 38), none⟩,
 ⟨some 4, MOp.mv (Opd.s 39), none⟩]
 [0, 0, 2, 6, 0, 16, 48, 112, 254, 511, 0, 1024, 4095, 8191])))).seq
 (MC.reg
 [⟨some 40, MOp.bin .add (Opd.s 9)
 (Opd.c (AV.int .i64 1)), none⟩,
 ⟨some 9, MOp.mv (Opd.s 40), none⟩]))))
def M41b0l : List Bool := [false, false, false, false, true, false, false, true, true, true, false, false, false, false, false, false, false, false, false, false, false, false, false, false, false, false, false, false, false, false, false, false, false, false, false, false, false, false, false, false, false, false, false, false, false, false]
def M41r0 : MC :=
 (((MC.reg
 [⟨some 41, MOp.mv (Opd.s 4), none⟩,
 ⟨some 42, MOp.len (Opd.s 41), none⟩,
 ⟨some 43, MOp.bin .gtr (Opd.s 42)
 (Opd.c (AV.int .i64 64)), none⟩]).seq
 (MC.cond (Opd.s 43)
 ((MC.reg
 [⟨some 2, MOp.mv (Opd.c (AV.str [])), none⟩,
 ⟨some 3, MOp.mv (Opd.c (AV.bool false)), none⟩]).seq
 MC.ret)
 MC.skip)).seq
 ((MC.reg
 [⟨some 44, MOp.mv (Opd.s 4), none⟩,
 ⟨some 45, MOp.conv Cv.b2s (Opd.s 44), none⟩,
 ⟨some 2, MOp.mv (Opd.s 45), none⟩,
 ⟨some 3, MOp.mv (Opd.c (AV.bool true)), none⟩]).seq
 MC.ret))
def M41 : MFun :=
 ⟨46, [MRes.tmp 0 2, MRes.tmp 0 3], (MC.reg
 [⟨some 2, MOp.mv (Opd.c (AV.str [])), none⟩,
 ⟨some 3, MOp.mv (Opd.c (AV.bool false)), none⟩]).seq
 ((MC.reg
 [⟨some 4, MOp.mv (Opd.c AV.nils), none⟩]).seq
 (((MC.reg
 [⟨some 7, MOp.mv (Opd.s 0), none⟩,
 ⟨some 8, MOp.len (Opd.s 7), none⟩,
 ⟨some 9, MOp.mv (Opd.c (AV.int .i64 0)), none⟩]).seq
 (MC.block 0
 (MC.loop M41b0l M41b0))).seq
 M41r0)) ⟩
def M60b0 : MC :=
 (((MC.reg
 [⟨some 6, MOp.mv (Opd.s 5), none⟩,
 ⟨some 7, MOp.mv (Opd.s 0), none⟩,
 ⟨some 8, MOp.len (Opd.s 7), none⟩,
 ⟨some 9, MOp.bin .lss (Opd.s 6) (Opd.s 8), none⟩]).seq
 (MC.cond (Opd.s 9) MC.skip (MC.exit 0))).seq
 ((MC.block 1
 (((MC.reg
 [⟨some 12, MOp.mv (Opd.s 0), none⟩,
 ⟨some 13, MOp.mv (Opd.s 5), none⟩,
 ⟨some 14, MOp.ixa 2 (Opd.s 12) (Opd.s 13), none⟩,
 ⟨some 15, MOp.fa 0 (Opd.s 14), none⟩,
 ⟨some 16, MOp.load none (Opd.s 15), none⟩,
 ⟨some 17, MOp.bin .lss (Opd.s 16)
 (Opd.c (AV.int .i64 0)), none⟩,
 ⟨some 18, MOp.mv (Opd.s 17), none⟩,
 ⟨some 19, MOp.mv (Opd.s 0), some (18, false)⟩,
 ⟨some 20, MOp.mv (Opd.s 5), some (18, false)⟩,
 ⟨some 21, MOp.ixa 2 (Opd.s 19) (Opd.s 20), some (18, false)⟩,
 ⟨some 22, MOp.fa 0 (Opd.s 21), some (18, false)⟩,
 ⟨some 23, MOp.load none (Opd.s 22), some (18, false)⟩,
 ⟨some 24, MOp.bin .gtr (Opd.s 23)
 (Opd.c (AV.int .i64 255)), some (18, false)⟩,
 ⟨some 25, MOp.pick (Opd.s 18) (Opd.c (AV.bool true))
 (Opd.s 24), none⟩,
 ⟨some 26, MOp.mv (Opd.s 25), none⟩,
 ⟨some 27, MOp.mv (Opd.s 0), some (26, false)⟩,
 ⟨some 28, MOp.mv (Opd.s 5), some (26, false)⟩,
 ⟨some 29, MOp.ixa 2 (Opd.s 27) (Opd.s 28), some (26, false)⟩,
 ⟨some 30, MOp.fa 1 (Opd.s 29), some (26, false)⟩,
 ⟨some 31, MOp.load none (Opd.s 30), some (26, false)⟩,
 ⟨some 32, MOp.lens (Opd.s 31), some (26, false)⟩,
 ⟨some 33, MOp.bin .gtr (Opd.s 32)
 (Opd.c (AV.int .i64 40)), some (26, false)⟩,
 ⟨some 34, MOp.pick (Opd.s 26) (Opd.c (AV.bool true))
 (Opd.s 33), none⟩]).seq
 (MC.cond (Opd.s 34)
 ((MC.reg
 [⟨some 2, MOp.mv (Opd.c (AV.str [])), none⟩,
 ⟨some 3, MOp.mv (Opd.c (AV.bool false)), none⟩]).seq
 MC.ret)
 MC.skip)).seq
 (MC.draw
 [⟨some 35, MOp.mv (Opd.s 4), none⟩,
 ⟨some 36, MOp.mv (Opd.s 0), none⟩,
 ⟨some 37, MOp.mv (Opd.s 5), none⟩,
 ⟨some 38, MOp.ixa 2 (Opd.s 36) (Opd.s 37), none⟩,
 ⟨some 39, MOp.fa 0 (Opd.s 38), none⟩,
 ⟨some 40, MOp.load none (Opd.s 39), none⟩,
 ⟨some 41, MOp.conv (Cv.toInt .u8) (Opd.s 40), none⟩,
 ⟨some 42, MOp.mv (Opd.s 0), none⟩,
 ⟨some 43, MOp.mv (Opd.s 5), none⟩,
 ⟨some 44, MOp.ixa 2 (Opd.s 42) (Opd.s 43), none⟩,
 ⟨some 45, MOp.fa 1 (Opd.s 44), none⟩,
 ⟨some 46, MOp.load none (Opd.s 45), none⟩,
 ⟨some 47, MOp.lens (Opd.s 46), none⟩,
 ⟨some 48, MOp.conv (Cv.toInt .u8) (Opd.s 47), none⟩,
 ⟨some 49, MOp.bsl false 1 2
 [AV.int .u8 0,
 AV.int .u8 0]
 [(0, 1, Opd.s 41), (1, 1, Opd.s 48)], none⟩,
 ⟨some 50, MOp.conv Cv.b2s (Opd.s 49), none⟩,
 ⟨some 51, MOp.mv (Opd.s 0), none⟩,
 ⟨some 52, MOp.mv (Opd.s 5), none⟩,
 ⟨some 53, MOp.ixa 2 (Opd.s 51) (Opd.s 52), none⟩,
 ⟨some 54, MOp.fa 1 (Opd.s 53), none⟩,
 ⟨some 55, MOp.load none (Opd.s 54), none⟩,
 ⟨some 56, MOp.bin .add (Opd.s 50) (Opd.s 55), none⟩,
 ⟨some 57, MOp.bin .add (Opd.s 35) (Opd.s 56), none⟩,
 ⟨some 4, MOp.mv (Opd.s 57), none⟩]
 [0, 0, 0, 6, 14, 30, 62, 0, 0, 384, 896, 1920, 3968, 8064, 16382, 32766, 0, 0, 196608,
 458752, 983040, 2097150, 4194303, 8388607]))).seq
 (MC.reg
 [⟨some 10, MOp.mv (Opd.s 5), none⟩,
 ⟨some 11, MOp.bin .add (Opd.s 10)
 (Opd.c (AV.int .i64 1)), none⟩,
 ⟨some 5, MOp.mv (Opd.s 11), none⟩])))
def M60b0l : List Bool := [true, false, false, false, true, true, false, false, false, false, false, false, false, false, false, false, false, false, false, false, false, false, false, false, false, false, false, false, false, false, false, false, false, false, false, false, false, false, false, false, false, false, false, false, false, false, false, false, false, false, false, false, false, false, false, false, false, false, false, false, false, false]
def M60r0 : MC :=
 (((MC.reg
 [⟨some 58, MOp.mv (Opd.s 4), none⟩,
 ⟨some 59, MOp.lens (Opd.s 58), none⟩,
 ⟨some 60, MOp.bin .gtr (Opd.s 59)
 (Opd.c (AV.int .i64 64)), none⟩]).seq
 (MC.cond (Opd.s 60)
 ((MC.reg
 [⟨some 2, MOp.mv (Opd.c (AV.str [])), none⟩,
 ⟨some 3, MOp.mv (Opd.c (AV.bool false)), none⟩]).seq
 MC.ret)
 MC.skip)).seq
 ((MC.reg
 [⟨some 61, MOp.mv (Opd.s 4), none⟩,
 ⟨some 2, MOp.mv (Opd.s 61), none⟩,
 ⟨some 3, MOp.mv (Opd.c (AV.bool true)), none⟩]).seq
 MC.ret))
def M60 : MFun :=
 ⟨62, [MRes.tmp 0 2, MRes.tmp 0 3], (MC.reg
 [⟨some 2, MOp.mv (Opd.c (AV.str [])), none⟩,
 ⟨some 3, MOp.mv (Opd.c (AV.bool false)), none⟩]).seq
 ((MC.reg
 [⟨some 4, MOp.mv (Opd.c (AV.str [])), none⟩]).seq
 (((MC.reg
 [⟨some 5, MOp.mv (Opd.c (AV.int .i64 0)), none⟩]).seq
 (MC.block 0
 (MC.loop M60b0l M60b0))).seq
 M60r0)) ⟩
def M67b0 : MC :=
 (((MC.reg
 [⟨some 9, MOp.mv (Opd.s 0), none⟩,
 ⟨some 10, MOp.bin .neq (Opd.s 9) (Opd.c (AV.str [])), none⟩]).seq
 (MC.cond (Opd.s 10) MC.skip (MC.exit 0))).seq
 (MC.block 1
 (((MC.reg
 [⟨some 11, MOp.mv (Opd.s 0), none⟩,
 ⟨some 12, MOp.lens (Opd.s 11), none⟩,
 ⟨some 13, MOp.bin .lss (Opd.s 12)
 (Opd.c (AV.int .i64 2)), none⟩,
 ⟨some 14, MOp.mv (Opd.s 13), none⟩,
 ⟨some 15, MOp.mv (Opd.s 0), some (14, false)⟩,
 ⟨some 16, MOp.ixs (Opd.s 15)
 (Opd.c (AV.int .i64 1)), some (14, false)⟩,
 ⟨some 17, MOp.bin .gtr (Opd.s 16)
 (Opd.c (AV.int .u8 40)), some (14, false)⟩,
 ⟨some 18, MOp.pick (Opd.s 14) (Opd.c (AV.bool true))
 (Opd.s 17), none⟩,
 ⟨some 19, MOp.mv (Opd.s 18), none⟩,
 ⟨some 20, MOp.mv (Opd.s 0), some (19, false)⟩,
 ⟨some 21, MOp.lens (Opd.s 20), some (19, false)⟩,
 ⟨some 22, MOp.mv (Opd.s 0), some (19, false)⟩,
 ⟨some 23, MOp.ixs (Opd.s 22)
 (Opd.c (AV.int .i64 1)), some (19, false)⟩,
 ⟨some 24, MOp.conv (Cv.toInt .i64) (Opd.s 23), some (19, false)⟩,
 ⟨some 25, MOp.bin .add
 (Opd.c (AV.int .i64 2)) (Opd.s 24), some (19, false)⟩,
 ⟨some 26, MOp.bin .lss (Opd.s 21) (Opd.s 25), some (19, false)⟩,
 ⟨some 27, MOp.pick (Opd.s 19) (Opd.c (AV.bool true))
 (Opd.s 26), none⟩]).seq
 (MC.cond (Opd.s 27)
 ((MC.reg
 [⟨some 2, MOp.mv (Opd.c AV.nils), none⟩,
 ⟨some 3, MOp.mv (Opd.c (AV.bool false)), none⟩]).seq
 MC.ret)
 MC.skip)).seq
 ((MC.reg
 [⟨some 28, MOp.mv (Opd.s 0), none⟩,
 ⟨some 29, MOp.ixs (Opd.s 28)
 (Opd.c (AV.int .i64 1)), none⟩,
 ⟨some 30, MOp.conv (Cv.toInt .i64) (Opd.s 29), none⟩,
 ⟨some 31, MOp.bin .add
 (Opd.c (AV.int .i64 2)) (Opd.s 30), none⟩,
 ⟨some 5, MOp.mv (Opd.s 31), none⟩]).seq
 ((MC.draw
 [⟨some 32, MOp.mv (Opd.s 4), none⟩,
 ⟨some 33, MOp.mv (Opd.s 0), none⟩,
 ⟨some 34, MOp.ixs (Opd.s 33)
 (Opd.c (AV.int .i64 0)), none⟩,
 ⟨some 35, MOp.conv (Cv.toInt .i64) (Opd.s 34), none⟩,
 ⟨some 36, MOp.mv (Opd.s 0), none⟩,
 ⟨some 37, MOp.mv (Opd.s 5), none⟩,
 ⟨some 38, MOp.sls (Opd.s 36)
 (some (Opd.c (AV.int .i64 2)))
 (some (Opd.s 37)), none⟩,
 ⟨some 39, MOp.build [AV.int .i64 0, AV.str []]
 [(0, 1, Opd.s 35), (1, 1, Opd.s 38)], none⟩,
 ⟨some 40, MOp.bsl false 2 1
 [AV.int .i64 0, AV.str []]
 [(0, 2, Opd.s 39)], none⟩,
 ⟨some 41, MOp.app false 2 24 (Opd.s 32) (Opd.s 40), none⟩,
 ⟨some 4, MOp.mv (Opd.s 41), none⟩]
 [0, 0, 2, 6, 0, 0, 48, 126, 254, 511, 1023]).seq
 (MC.reg
 [⟨some 42, MOp.mv (Opd.s 0), none⟩,
 ⟨some 43, MOp.mv (Opd.s 5), none⟩,
 ⟨some 44, MOp.sls (Opd.s 42) (some (Opd.s 43)) none, none⟩,
 ⟨some 0, MOp.mv (Opd.s 44), none⟩]))))))
def M67b0l : List Bool := [true, false, false, false, true, false, false, false, false, false, false, false, false, false, false, false, false, false, false, false, false, false, false, false, false, false, false, false, false, false, false, false, false, false, false, false, false, false, false, false, false, false, false, false, false, false]
def M67r0 : MC :=
 ((MC.reg
 [⟨some 45, MOp.mv (Opd.s 4), none⟩,
 ⟨some 2, MOp.mv (Opd.s 45), none⟩,
 ⟨some 3, MOp.mv (Opd.c (AV.bool true)), none⟩]).seq
 MC.ret)
def M67 : MFun :=
 ⟨46, [MRes.tmp 2 2, MRes.tmp 0 3], (MC.reg
 [⟨some 2, MOp.mv (Opd.c AV.nils), none⟩,
 ⟨some 3, MOp.mv (Opd.c (AV.bool false)), none⟩]).seq
 ((MC.reg
 [⟨some 4, MOp.mv (Opd.c AV.nils), none⟩]).seq
 (((MC.reg
 [⟨some 6, MOp.mv (Opd.s 0), none⟩,
 ⟨some 7, MOp.lens (Opd.s 6), none⟩,
 ⟨some 8, MOp.bin .gtr (Opd.s 7)
 (Opd.c (AV.int .i64 64)), none⟩]).seq
 (MC.cond (Opd.s 8)
 ((MC.reg
 [⟨some 2, MOp.mv (Opd.c AV.nils), none⟩,
 ⟨some 3, MOp.mv (Opd.c (AV.bool false)), none⟩]).seq
 MC.ret)
 MC.skip)).seq
 ((MC.block 0
 (MC.loop M67b0l M67b0)).seq
 M67r0))) ⟩
def M68b0 : MC :=
 ((MC.reg
 [⟨some 11, MOp.bin .lss (Opd.s 10) (Opd.s 9), none⟩]).seq
 ((MC.cond (Opd.s 11) MC.skip (MC.exit 0)).seq
 ((MC.block 1
 ((MC.reg
 [⟨some 12, MOp.ixa 2 (Opd.s 8) (Opd.s 10), none⟩,
 ⟨some 13, MOp.load (some 2) (Opd.s 12), none⟩,
 ⟨some 7, MOp.alloc [AV.int .i64 0, AV.str []], none⟩,
 ⟨none, MOp.store 2 (Opd.s 7) (Opd.s 13), none⟩]).seq
 ((MC.reg
 [⟨some 14, MOp.fa 0 (Opd.s 7), none⟩,
 ⟨some 15, MOp.load none (Opd.s 14), none⟩,
 ⟨some 16, MOp.mv (Opd.s 1), none⟩,
 ⟨some 17, MOp.bin .eql (Opd.s 15) (Opd.s 16), none⟩]).seq
 (MC.cond (Opd.s 17)
 ((MC.reg
 [⟨some 18, MOp.fa 1 (Opd.s 7), none⟩,
 ⟨some 19, MOp.load none (Opd.s 18), none⟩,
 ⟨some 4, MOp.mv (Opd.s 19), none⟩,
 ⟨some 5, MOp.mv (Opd.c (AV.bool true)), none⟩]).seq
 MC.ret)
 MC.skip)))).seq
 (MC.reg
 [⟨some 20, MOp.bin .add (Opd.s 10)
 (Opd.c (AV.int .i64 1)), none⟩,
 ⟨some 10, MOp.mv (Opd.s 20), none⟩]))))
def M68b0l : List Bool := [false, true, false, false, false, false, false, false, true, true, true, false, false, false, false, false, false, false, false, false, false]
def M68r0 : MC :=
 ((MC.reg
 [⟨some 4, MOp.mv (Opd.c (AV.str [])), none⟩,
 ⟨some 5, MOp.mv (Opd.c (AV.bool false)), none⟩]).seq
 MC.ret)
def M68 : MFun :=
 ⟨21, [MRes.tmp 0 4, MRes.tmp 0 5], (MC.reg
 [⟨some 4, MOp.mv (Opd.c (AV.str [])), none⟩,
 ⟨some 5, MOp.mv (Opd.c (AV.bool false)), none⟩]).seq
 (((MC.reg
 [⟨some 8, MOp.mv (Opd.s 0), none⟩,
 ⟨some 9, MOp.len (Opd.s 8), none⟩,
 ⟨some 10, MOp.mv (Opd.c (AV.int .i64 0)), none⟩]).seq
 (MC.block 0
 (MC.loop M68b0l M68b0))).seq
 M68r0) ⟩
theorem tab23 : tableOf Tryd.prog 23 = some M23 := by kernel_rfl
theorem tab24 : tableOf Tryd.prog 24 = some M24 := by kernel_rfl
theorem tab38 : tableOf Tryd.prog 38 = some M38 := by kernel_rfl
theorem tab39 : tableOf Tryd.prog 39 = some M39 := by kernel_rfl
theorem tab40 : tableOf Tryd.prog 40 = some M40 := by kernel_rfl
theorem tab41 : tableOf Tryd.prog 41 = some M41 := by kernel_rfl
theorem tab60 : tableOf Tryd.prog 60 = some M60 := by kernel_rfl
theorem tab67 : tableOf Tryd.prog 67 = some M67 := by kernel_rfl
theorem tab68 : tableOf Tryd.prog 68 = some M68 := by kernel_rfl
end Go.Proofs.YtbeimfhodgmjhaaDoor
