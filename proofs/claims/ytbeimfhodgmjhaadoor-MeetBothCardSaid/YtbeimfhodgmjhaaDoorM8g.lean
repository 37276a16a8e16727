/- Functions of the program in the evaluator's form, written out by a program. No conditions. -/
import Derived.Test.YtbeimfhodgmjhaaDoorM8
set_option linter.unusedVariables false
namespace Go.Proofs.YtbeimfhodgmjhaaDoor
open Go Go.Ab
def M71b0 : MC :=
 ((MC.reg
 [⟨some 9, MOp.bin .lss (Opd.s 8) (Opd.s 7), none⟩]).seq
 ((MC.cond (Opd.s 9) MC.skip (MC.exit 0)).seq
 ((MC.block 1
 ((MC.reg
 [⟨some 10, MOp.ixa 1 (Opd.s 6) (Opd.s 8), none⟩,
 ⟨some 11, MOp.load none (Opd.s 10), none⟩,
 ⟨some 5, MOp.mv (Opd.s 11), none⟩]).seq
 ((MC.reg
 [⟨some 12, MOp.mv (Opd.s 5), none⟩,
 ⟨some 13, MOp.bin .eql (Opd.s 12)
 (Opd.c (AV.int .u8 192)), none⟩,
 ⟨some 14, MOp.mv (Opd.s 13), none⟩,
 ⟨some 15, MOp.mv (Opd.s 5), some (14, false)⟩,
 ⟨some 16, MOp.bin .eql (Opd.s 15)
 (Opd.c (AV.int .u8 193)), some (14, false)⟩,
 ⟨some 17, MOp.pick (Opd.s 14) (Opd.c (AV.bool true))
 (Opd.s 16), none⟩,
 ⟨some 18, MOp.mv (Opd.s 17), none⟩,
 ⟨some 19, MOp.mv (Opd.s 5), some (18, false)⟩,
 ⟨some 20, MOp.bin .eql (Opd.s 19)
 (Opd.c (AV.int .u8 125)), some (18, false)⟩,
 ⟨some 21, MOp.pick (Opd.s 18) (Opd.c (AV.bool true))
 (Opd.s 20), none⟩]).seq
 (MC.cond (Opd.s 21)
 (MC.reg
 [⟨some 22, MOp.mv (Opd.s 3), none⟩,
 ⟨some 23, MOp.mv (Opd.s 5), none⟩,
 ⟨some 24, MOp.bin .xor (Opd.s 23)
 (Opd.c (AV.int .u8 32)), none⟩,
 ⟨some 25, MOp.bsl false 1 2
 [AV.int .u8 0,
 AV.int .u8 0]
 [(0, 1, Opd.c (AV.int .u8 125)),
 (1, 1, Opd.s 24)], none⟩,
 ⟨some 26, MOp.app false 1 1 (Opd.s 22) (Opd.s 25), none⟩,
 ⟨some 3, MOp.mv (Opd.s 26), none⟩])
 (MC.reg
 [⟨some 27, MOp.mv (Opd.s 3), none⟩,
 ⟨some 28, MOp.mv (Opd.s 5), none⟩,
 ⟨some 29, MOp.bsl false 1 1 [AV.int .u8 0]
 [(0, 1, Opd.s 28)], none⟩,
 ⟨some 30, MOp.app false 1 1 (Opd.s 27) (Opd.s 29), none⟩,
 ⟨some 3, MOp.mv (Opd.s 30), none⟩]))))).seq
 (MC.reg
 [⟨some 31, MOp.bin .add (Opd.s 8)
 (Opd.c (AV.int .i64 1)), none⟩,
 ⟨some 8, MOp.mv (Opd.s 31), none⟩]))))
def M71b0l : List Bool := [false, false, false, true, false, false, true, true, true, false, false, false, false, false, false, false, false, false, false, false, false, false, false, false, false, false, false, false, false, false, false, false, false]
def M71r0 : MC :=
 ((MC.reg
 [⟨some 32, MOp.mv (Opd.s 3), none⟩,
 ⟨some 2, MOp.mv (Opd.s 32), none⟩]).seq
 MC.ret)
def M71 : MFun :=
 ⟨33, [MRes.tmp 1 2], (MC.reg
 [⟨some 2, MOp.mv (Opd.c AV.nils), none⟩]).seq
 ((MC.reg
 [⟨some 3, MOp.mv (Opd.c AV.nils), none⟩]).seq
 (((MC.reg
 [⟨some 6, MOp.mv (Opd.s 0), none⟩,
 ⟨some 7, MOp.len (Opd.s 6), none⟩,
 ⟨some 8, MOp.mv (Opd.c (AV.int .i64 0)), none⟩]).seq
 (MC.block 0
 (MC.loop M71b0l M71b0))).seq
 M71r0)) ⟩
def M72 : MFun :=
 ⟨15, [MRes.tmp 1 2], (MC.reg
 [⟨some 2, MOp.mv (Opd.c AV.nils), none⟩]).seq
 ((MC.reg
 [⟨some 4, MOp.mv (Opd.s 0), none⟩,
 ⟨some 5, MOp.call 89 [(1, Opd.s 4)], none⟩,
 ⟨some 3, MOp.mv (Opd.s 5), none⟩]).seq
 ((MC.reg
 [⟨some 6, MOp.mv (Opd.s 0), none⟩,
 ⟨some 7, MOp.call 90 [(1, Opd.s 6)], none⟩,
 ⟨some 8, MOp.mv (Opd.s 3), none⟩,
 ⟨some 9, MOp.conv (Cv.toInt .u8) (Opd.s 8), none⟩,
 ⟨some 10, MOp.mv (Opd.s 3), none⟩,
 ⟨some 11, MOp.bin .shr (Opd.s 10)
 (Opd.c (AV.int .u64 8)), none⟩,
 ⟨some 12, MOp.conv (Cv.toInt .u8) (Opd.s 11), none⟩,
 ⟨some 13, MOp.bsl false 1 2
 [AV.int .u8 0, AV.int .u8 0]
 [(0, 1, Opd.s 9), (1, 1, Opd.s 12)], none⟩,
 ⟨some 14, MOp.app false 1 1 (Opd.s 7) (Opd.s 13), none⟩,
 ⟨some 2, MOp.mv (Opd.s 14), none⟩]).seq
 MC.ret)) ⟩
def M109b0 : MC :=
 ((MC.reg
 [⟨some 11, MOp.bin .lss (Opd.s 10)
 (Opd.c (AV.int .i64 8)), none⟩]).seq
 ((MC.cond (Opd.s 11) MC.skip (MC.exit 0)).seq
 ((MC.block 1
 ((MC.reg
 [⟨some 12, MOp.mv (Opd.s 0), none⟩,
 ⟨some 13, MOp.bin .and (Opd.s 12)
 (Opd.c (AV.int .u16 1)), none⟩,
 ⟨some 5, MOp.mv (Opd.s 13), none⟩]).seq
 ((MC.reg
 [⟨some 14, MOp.mv (Opd.s 0), none⟩,
 ⟨some 15, MOp.bin .shr (Opd.s 14)
 (Opd.c (AV.int .u64 1)), none⟩,
 ⟨some 0, MOp.mv (Opd.s 15), none⟩]).seq
 ((MC.reg
 [⟨some 16, MOp.mv (Opd.s 5), none⟩,
 ⟨some 17, MOp.bin .eql (Opd.s 16)
 (Opd.c (AV.int .u16 1)), none⟩]).seq
 (MC.cond (Opd.s 17)
 (MC.reg
 [⟨some 18, MOp.mv (Opd.s 0), none⟩,
 ⟨some 19, MOp.bin .xor (Opd.s 18)
 (Opd.c (AV.int .u16 33800)), none⟩,
 ⟨some 0, MOp.mv (Opd.s 19), none⟩])
 MC.skip))))).seq
 (MC.reg
 [⟨some 20, MOp.bin .add (Opd.s 10)
 (Opd.c (AV.int .i64 1)), none⟩,
 ⟨some 10, MOp.mv (Opd.s 20), none⟩]))))
def M109b0l : List Bool := [true, false, false, false, false, false, false, false, false, false, true, false, false, false, false, false, false, false, false, false, false, false]
def M109r0 : MC :=
 ((MC.reg
 [⟨some 21, MOp.mv (Opd.s 0), none⟩,
 ⟨some 4, MOp.mv (Opd.s 21), none⟩]).seq
 MC.ret)
def M109 : MFun :=
 ⟨22, [MRes.tmp 0 4], (MC.reg
 [⟨some 4, MOp.mv (Opd.c (AV.int .u16 0)), none⟩]).seq
 ((MC.reg
 [⟨some 6, MOp.mv (Opd.s 0), none⟩,
 ⟨some 7, MOp.mv (Opd.s 1), none⟩,
 ⟨some 8, MOp.conv (Cv.toInt .u16) (Opd.s 7), none⟩,
 ⟨some 9, MOp.bin .xor (Opd.s 6) (Opd.s 8), none⟩,
 ⟨some 0, MOp.mv (Opd.s 9), none⟩]).seq
 (((MC.reg
 [⟨some 10, MOp.mv (Opd.c (AV.int .i64 0)), none⟩]).seq
 (MC.block 0
 (MC.loop M109b0l M109b0))).seq
 M109r0)) ⟩
def M89b0 : MC :=
 ((MC.reg
 [⟨some 9, MOp.bin .lss (Opd.s 8) (Opd.s 7), none⟩]).seq
 ((MC.cond (Opd.s 9) MC.skip (MC.exit 0)).seq
 ((MC.block 1
 ((MC.reg
 [⟨some 10, MOp.ixa 1 (Opd.s 6) (Opd.s 8), none⟩,
 ⟨some 11, MOp.load none (Opd.s 10), none⟩,
 ⟨some 5, MOp.mv (Opd.s 11), none⟩]).seq
 (MC.reg
 [⟨some 12, MOp.mv (Opd.s 3), none⟩,
 ⟨some 13, MOp.mv (Opd.s 5), none⟩,
 ⟨some 14, MOp.call 109 [(0, Opd.s 12), (0, Opd.s 13)], none⟩,
 ⟨some 3, MOp.mv (Opd.s 14), none⟩]))).seq
 (MC.reg
 [⟨some 15, MOp.bin .add (Opd.s 8)
 (Opd.c (AV.int .i64 1)), none⟩,
 ⟨some 8, MOp.mv (Opd.s 15), none⟩]))))
def M89b0l : List Bool := [false, false, false, true, false, false, true, true, true, false, false, false, false, false, false, false, false, false]
def M89r0 : MC :=
 ((MC.reg
 [⟨some 16, MOp.mv (Opd.s 3), none⟩,
 ⟨some 17, MOp.un .xor (Opd.s 16), none⟩,
 ⟨some 2, MOp.mv (Opd.s 17), none⟩]).seq
 MC.ret)
def M89 : MFun :=
 ⟨18, [MRes.tmp 0 2], (MC.reg
 [⟨some 2, MOp.mv (Opd.c (AV.int .u16 0)), none⟩]).seq
 ((MC.reg
 [⟨some 3, MOp.mv (Opd.c (AV.int .u16 65535)), none⟩]).seq
 (((MC.reg
 [⟨some 6, MOp.mv (Opd.s 0), none⟩,
 ⟨some 7, MOp.len (Opd.s 6), none⟩,
 ⟨some 8, MOp.mv (Opd.c (AV.int .i64 0)), none⟩]).seq
 (MC.block 0
 (MC.loop M89b0l M89b0))).seq
 M89r0)) ⟩
def M69b0 : MC :=
 (((MC.reg
 [⟨some 34, MOp.mv (Opd.s 8), none⟩,
 ⟨some 35, MOp.mv (Opd.s 7), none⟩,
 ⟨some 36, MOp.len (Opd.s 35), none⟩,
 ⟨some 37, MOp.bin .lss (Opd.s 34) (Opd.s 36), none⟩]).seq
 (MC.cond (Opd.s 37) MC.skip (MC.exit 0))).seq
 (MC.block 1
 (MC.draw
 [⟨some 38, MOp.mv (Opd.s 8), none⟩,
 ⟨some 39, MOp.mv (Opd.s 7), none⟩,
 ⟨some 40, MOp.mv (Opd.s 8), none⟩,
 ⟨some 41, MOp.slc 1 (Opd.s 39) (some (Opd.s 40)) none, none⟩,
 ⟨some 42, MOp.mv (Opd.s 7), none⟩,
 ⟨some 43, MOp.mv (Opd.s 8), none⟩,
 ⟨some 44, MOp.slc 1 (Opd.s 42) none (some (Opd.s 43)), none⟩,
 ⟨some 45, MOp.cpy 1 (Opd.s 41) (Opd.s 44), none⟩,
 ⟨some 46, MOp.bin .add (Opd.s 38) (Opd.s 45), none⟩,
 ⟨some 8, MOp.mv (Opd.s 46), none⟩]
 [0, 0, 0, 6, 0, 0, 48, 126, 255, 511])))
def M69b0l : List Bool := [false, false, false, false, false, false, false, true, true, false, false, false, false, false, false, false, false, false, false, false, false, false, false, false, false, false, false, false, false, false, false, false, false, false, false, false, false, false, false, false, false, false, false, false, false, false, false, false]
def M69r0 : MC :=
 ((MC.reg
 [⟨some 47, MOp.mv (Opd.s 7), none⟩,
 ⟨some 4, MOp.mv (Opd.s 47), none⟩]).seq
 MC.ret)
def M69 : MFun :=
 ⟨48, [MRes.tmp 1 4], (MC.reg
 [⟨some 4, MOp.mv (Opd.c AV.nils), none⟩]).seq
 (((MC.reg
 [⟨some 9, MOp.mv (Opd.s 1), none⟩,
 ⟨some 10, MOp.bin .lss (Opd.s 9)
 (Opd.c (AV.int .i64 0)), none⟩]).seq
 (MC.cond (Opd.s 10) (MC.cond (Opd.c AV.undef) MC.skip MC.skip)
 MC.skip)).seq
 ((MC.reg
 [⟨some 13, MOp.mv (Opd.s 0), none⟩,
 ⟨some 14, MOp.len (Opd.s 13), none⟩,
 ⟨some 15, MOp.conv (Cv.toInt .u64) (Opd.s 14), none⟩,
 ⟨some 16, MOp.mv (Opd.s 1), none⟩,
 ⟨some 17, MOp.conv (Cv.toInt .u64) (Opd.s 16), none⟩,
 ⟨some 18, MOp.call 87 [(0, Opd.s 15), (0, Opd.s 17)], none⟩,
 ⟨some 12, MOp.mv (Opd.s 18), none⟩,
 ⟨some 19, MOp.ext 0 (Opd.s 12), none⟩,
 ⟨some 20, MOp.ext 1 (Opd.s 12), none⟩,
 ⟨some 5, MOp.mv (Opd.s 19), none⟩,
 ⟨some 6, MOp.mv (Opd.s 20), none⟩]).seq
 (((MC.reg
 [⟨some 21, MOp.mv (Opd.s 5), none⟩,
 ⟨some 22, MOp.bin .gtr (Opd.s 21)
 (Opd.c (AV.int .u64 0)), none⟩,
 ⟨some 23, MOp.mv (Opd.s 22), none⟩,
 ⟨some 24, MOp.mv (Opd.s 6), some (23, false)⟩,
 ⟨some 25, MOp.bin .gtr (Opd.s 24)
 (Opd.c (AV.int .u64 9223372036854775807)), some (23, false)⟩,
 ⟨some 26, MOp.pick (Opd.s 23) (Opd.c (AV.bool true)) (Opd.s 25), none⟩]).seq
 (MC.cond (Opd.s 26)
 (MC.cond (Opd.c AV.undef) MC.skip MC.skip) MC.skip)).seq
 ((MC.reg
 [⟨some 28, MOp.mv (Opd.s 6), none⟩,
 ⟨some 29, MOp.conv (Cv.toInt .i64) (Opd.s 28), none⟩,
 ⟨some 30, MOp.mks 1 1 [AV.int .u8 0] (Opd.s 29)
 (Opd.s 29), none⟩,
 ⟨some 7, MOp.mv (Opd.s 30), none⟩]).seq
 ((MC.reg
 [⟨some 31, MOp.mv (Opd.s 7), none⟩,
 ⟨some 32, MOp.mv (Opd.s 0), none⟩,
 ⟨some 33, MOp.cpy 1 (Opd.s 31) (Opd.s 32), none⟩,
 ⟨some 8, MOp.mv (Opd.s 33), none⟩]).seq
 ((MC.block 0
 (MC.loop M69b0l M69b0)).seq
 M69r0)))))) ⟩
def M70b0 : MC :=
 ((MC.reg
 [⟨some 28, MOp.bin .lss (Opd.s 27) (Opd.s 26), none⟩]).seq
 ((MC.cond (Opd.s 28) MC.skip (MC.exit 2)).seq
 ((MC.block 3
 ((MC.reg
 [⟨some 29, MOp.ixa 1 (Opd.s 25) (Opd.s 27), none⟩,
 ⟨some 30, MOp.load none (Opd.s 29), none⟩,
 ⟨some 8, MOp.mv (Opd.s 30), none⟩]).seq
 (MC.reg
 [⟨some 31, MOp.mv (Opd.s 6), none⟩,
 ⟨some 32, MOp.mv (Opd.s 8), none⟩,
 ⟨some 33, MOp.app false 1 1 (Opd.s 31) (Opd.s 32), none⟩,
 ⟨some 6, MOp.mv (Opd.s 33), none⟩]))).seq
 (MC.reg
 [⟨some 34, MOp.bin .add (Opd.s 27)
 (Opd.c (AV.int .i64 1)), none⟩,
 ⟨some 27, MOp.mv (Opd.s 34), none⟩]))))
def M70b0l : List Bool := [false, false, false, false, false, false, true, false, false, false, false, false, false, false, false, false, false, false, false, false, false, false, false, false, false, true, true, true, false, false, false, false, false, false, false, false]
def M70b1 : MC :=
 ((MC.reg
 [⟨some 12, MOp.bin .lss (Opd.s 11) (Opd.s 10), none⟩]).seq
 ((MC.cond (Opd.s 12) MC.skip (MC.exit 0)).seq
 ((MC.block 1
 ((MC.reg
 [⟨some 13, MOp.ixa 1 (Opd.s 9) (Opd.s 11), none⟩,
 ⟨some 14, MOp.load none (Opd.s 13), none⟩,
 ⟨some 5, MOp.mv (Opd.s 14), none⟩]).seq
 ((MC.reg
 [⟨some 15, MOp.mv (Opd.s 3), none⟩,
 ⟨some 16, MOp.mv (Opd.s 5), none⟩,
 ⟨some 17, MOp.len (Opd.s 16), none⟩,
 ⟨some 18, MOp.bin .add (Opd.s 15) (Opd.s 17), none⟩,
 ⟨some 3, MOp.mv (Opd.s 18), none⟩]).seq
 ((MC.reg
 [⟨some 19, MOp.mv (Opd.s 3), none⟩,
 ⟨some 20, MOp.bin .lss (Opd.s 19)
 (Opd.c (AV.int .i64 0)), none⟩]).seq
 (MC.cond (Opd.s 20)
 (MC.cond (Opd.c AV.undef) MC.skip MC.skip)
 MC.skip))))).seq
 (MC.reg
 [⟨some 22, MOp.bin .add (Opd.s 11)
 (Opd.c (AV.int .i64 1)), none⟩,
 ⟨some 11, MOp.mv (Opd.s 22), none⟩]))))
def M70b1l : List Bool := [true, false, false, true, false, false, false, false, false, true, true, true, false, false, false, false, false, false, false, false, false, false, false, false, false, false, false, false, false, false, false, false, false, false, false, false]
def M70r0 : MC :=
 ((MC.reg
 [⟨some 35, MOp.mv (Opd.s 6), none⟩,
 ⟨some 2, MOp.mv (Opd.s 35), none⟩]).seq
 MC.ret)
def M70r1 : MC :=
 ((MC.reg
 [⟨some 23, MOp.mv (Opd.s 3), none⟩,
 ⟨some 24, MOp.call 88 [(1, Opd.c AV.nils), (0, Opd.s 23)], none⟩,
 ⟨some 6, MOp.mv (Opd.s 24), none⟩]).seq
 (((MC.reg
 [⟨some 25, MOp.mv (Opd.s 0), none⟩,
 ⟨some 26, MOp.len (Opd.s 25), none⟩,
 ⟨some 27, MOp.mv (Opd.c (AV.int .i64 0)), none⟩]).seq
 (MC.block 2
 (MC.loop M70b0l M70b0))).seq
 M70r0))
def M70 : MFun :=
 ⟨36, [MRes.tmp 1 2], (MC.reg
 [⟨some 2, MOp.mv (Opd.c AV.nils), none⟩]).seq
 ((MC.reg
 [⟨some 3, MOp.mv (Opd.c (AV.int .i64 0)), none⟩]).seq
 (((MC.reg
 [⟨some 9, MOp.mv (Opd.s 0), none⟩,
 ⟨some 10, MOp.len (Opd.s 9), none⟩,
 ⟨some 11, MOp.mv (Opd.c (AV.int .i64 0)), none⟩]).seq
 (MC.block 0
 (MC.loop M70b1l M70b1))).seq
 M70r1)) ⟩
def M46 : MFun :=
 ⟨19, [MRes.tmp 1 4], (MC.reg
 [⟨some 4, MOp.mv (Opd.c AV.nils), none⟩]).seq
 ((MC.reg
 [⟨some 6, MOp.bsl false 1 1 [AV.int .u8 0]
 [(0, 1, Opd.c (AV.int .u8 255))], none⟩,
 ⟨some 7, MOp.mv (Opd.s 1), none⟩,
 ⟨some 8, MOp.mx [Opd.s 7, Opd.c (AV.int .i64 0)], none⟩,
 ⟨some 9, MOp.mn [Opd.s 8, Opd.c (AV.int .i64 10)], none⟩,
 ⟨some 10, MOp.call 69 [(1, Opd.s 6), (0, Opd.s 9)], none⟩,
 ⟨some 5, MOp.mv (Opd.s 10), none⟩]).seq
 ((MC.reg
 [⟨some 11, MOp.mv (Opd.s 5), none⟩,
 ⟨some 12, MOp.bsl false 1 1 [AV.int .u8 0]
 [(0, 1, Opd.c (AV.int .u8 192))], none⟩,
 ⟨some 13, MOp.mv (Opd.s 0), none⟩,
 ⟨some 14, MOp.call 72 [(1, Opd.s 13)], none⟩,
 ⟨some 15, MOp.call 71 [(1, Opd.s 14)], none⟩,
 ⟨some 16, MOp.bsl false 1 1 [AV.int .u8 0]
 [(0, 1, Opd.c (AV.int .u8 193))], none⟩,
 ⟨some 17, MOp.bsl false 1 4 [AV.nils, AV.nils, AV.nils, AV.nils]
 [(0, 1, Opd.s 11), (1, 1, Opd.s 12), (2, 1, Opd.s 15),
 (3, 1, Opd.s 16)], none⟩,
 ⟨some 18, MOp.call 70 [(1, Opd.s 17)], none⟩,
 ⟨some 4, MOp.mv (Opd.s 18), none⟩]).seq
 MC.ret)) ⟩
def M87 : MFun :=
 ⟨30, [MRes.tmp 0 4, MRes.tmp 0 5], (MC.reg
 [⟨some 4, MOp.mv (Opd.c (AV.int .u64 0)), none⟩,
 ⟨some 5, MOp.mv (Opd.c (AV.int .u64 0)), none⟩]).seq
 ((MC.cond (Opd.c (AV.bool false))
 ((MC.reg
 [⟨some 11, MOp.mv (Opd.s 0), none⟩,
 ⟨some 12, MOp.conv (Cv.toInt .u32) (Opd.s 11), none⟩,
 ⟨some 13, MOp.mv (Opd.s 1), none⟩,
 ⟨some 14, MOp.conv (Cv.toInt .u32) (Opd.s 13), none⟩,
 ⟨some 15, MOp.call 107 [(0, Opd.s 12), (0, Opd.s 14)], none⟩,
 ⟨some 10, MOp.mv (Opd.s 15), none⟩,
 ⟨some 16, MOp.ext 0 (Opd.s 10), none⟩,
 ⟨some 17, MOp.ext 1 (Opd.s 10), none⟩,
 ⟨some 6, MOp.mv (Opd.s 16), none⟩,
 ⟨some 7, MOp.mv (Opd.s 17), none⟩]).seq
 ((MC.reg
 [⟨some 18, MOp.mv (Opd.s 6), none⟩,
 ⟨some 19, MOp.conv (Cv.toInt .u64) (Opd.s 18), none⟩,
 ⟨some 20, MOp.mv (Opd.s 7), none⟩,
 ⟨some 21, MOp.conv (Cv.toInt .u64) (Opd.s 20), none⟩,
 ⟨some 4, MOp.mv (Opd.s 19), none⟩,
 ⟨some 5, MOp.mv (Opd.s 21), none⟩]).seq
 MC.ret))
 MC.skip).seq
 ((MC.reg
 [⟨some 23, MOp.mv (Opd.s 0), none⟩,
 ⟨some 24, MOp.mv (Opd.s 1), none⟩,
 ⟨some 25, MOp.call 108 [(0, Opd.s 23), (0, Opd.s 24)], none⟩,
 ⟨some 22, MOp.mv (Opd.s 25), none⟩,
 ⟨some 26, MOp.ext 0 (Opd.s 22), none⟩,
 ⟨some 27, MOp.ext 1 (Opd.s 22), none⟩,
 ⟨some 8, MOp.mv (Opd.s 26), none⟩,
 ⟨some 9, MOp.mv (Opd.s 27), none⟩]).seq
 ((MC.reg
 [⟨some 28, MOp.mv (Opd.s 8), none⟩,
 ⟨some 29, MOp.mv (Opd.s 9), none⟩,
 ⟨some 4, MOp.mv (Opd.s 28), none⟩,
 ⟨some 5, MOp.mv (Opd.s 29), none⟩]).seq
 MC.ret))) ⟩
def M108 : MFun :=
 ⟨51, [MRes.tmp 0 4, MRes.tmp 0 5], (MC.reg
 [⟨some 4, MOp.mv (Opd.c (AV.int .u64 0)), none⟩,
 ⟨some 5, MOp.mv (Opd.c (AV.int .u64 0)), none⟩]).seq
 ((MC.reg
 [⟨some 14, MOp.mv (Opd.s 0), none⟩,
 ⟨some 15, MOp.bin .and (Opd.s 14)
 (Opd.c (AV.int .u64 4294967295)), none⟩,
 ⟨some 6, MOp.mv (Opd.s 15), none⟩]).seq
 ((MC.reg
 [⟨some 16, MOp.mv (Opd.s 0), none⟩,
 ⟨some 17, MOp.bin .shr (Opd.s 16)
 (Opd.c (AV.int .u64 32)), none⟩,
 ⟨some 7, MOp.mv (Opd.s 17), none⟩]).seq
 ((MC.reg
 [⟨some 18, MOp.mv (Opd.s 1), none⟩,
 ⟨some 19, MOp.bin .and (Opd.s 18)
 (Opd.c (AV.int .u64 4294967295)), none⟩,
 ⟨some 8, MOp.mv (Opd.s 19), none⟩]).seq
 ((MC.reg
 [⟨some 20, MOp.mv (Opd.s 1), none⟩,
 ⟨some 21, MOp.bin .shr (Opd.s 20)
 (Opd.c (AV.int .u64 32)), none⟩,
 ⟨some 9, MOp.mv (Opd.s 21), none⟩]).seq
 ((MC.reg
 [⟨some 22, MOp.mv (Opd.s 6), none⟩,
 ⟨some 23, MOp.mv (Opd.s 8), none⟩,
 ⟨some 24, MOp.bin .mul (Opd.s 22) (Opd.s 23), none⟩,
 ⟨some 10, MOp.mv (Opd.s 24), none⟩]).seq
 ((MC.reg
 [⟨some 25, MOp.mv (Opd.s 7), none⟩,
 ⟨some 26, MOp.mv (Opd.s 8), none⟩,
 ⟨some 27, MOp.bin .mul (Opd.s 25) (Opd.s 26), none⟩,
 ⟨some 28, MOp.mv (Opd.s 10), none⟩,
 ⟨some 29, MOp.bin .shr (Opd.s 28)
 (Opd.c (AV.int .u64 32)), none⟩,
 ⟨some 30, MOp.bin .add (Opd.s 27) (Opd.s 29), none⟩,
 ⟨some 11, MOp.mv (Opd.s 30), none⟩]).seq
 ((MC.reg
 [⟨some 31, MOp.mv (Opd.s 11), none⟩,
 ⟨some 32, MOp.bin .and (Opd.s 31)
 (Opd.c (AV.int .u64 4294967295)), none⟩,
 ⟨some 12, MOp.mv (Opd.s 32), none⟩]).seq
 ((MC.reg
 [⟨some 33, MOp.mv (Opd.s 11), none⟩,
 ⟨some 34, MOp.bin .shr (Opd.s 33)
 (Opd.c (AV.int .u64 32)), none⟩,
 ⟨some 13, MOp.mv (Opd.s 34), none⟩]).seq
 ((MC.reg
 [⟨some 35, MOp.mv (Opd.s 12), none⟩,
 ⟨some 36, MOp.mv (Opd.s 6), none⟩,
 ⟨some 37, MOp.mv (Opd.s 9), none⟩,
 ⟨some 38, MOp.bin .mul (Opd.s 36) (Opd.s 37), none⟩,
 ⟨some 39, MOp.bin .add (Opd.s 35) (Opd.s 38), none⟩,
 ⟨some 12, MOp.mv (Opd.s 39), none⟩]).seq
 ((MC.reg
 [⟨some 40, MOp.mv (Opd.s 7), none⟩,
 ⟨some 41, MOp.mv (Opd.s 9), none⟩,
 ⟨some 42, MOp.bin .mul (Opd.s 40) (Opd.s 41), none⟩,
 ⟨some 43, MOp.mv (Opd.s 13), none⟩,
 ⟨some 44, MOp.bin .add (Opd.s 42) (Opd.s 43), none⟩,
 ⟨some 45, MOp.mv (Opd.s 12), none⟩,
 ⟨some 46, MOp.bin .shr (Opd.s 45)
 (Opd.c (AV.int .u64 32)), none⟩,
 ⟨some 47, MOp.bin .add (Opd.s 44) (Opd.s 46), none⟩,
 ⟨some 4, MOp.mv (Opd.s 47), none⟩]).seq
 ((MC.reg
 [⟨some 48, MOp.mv (Opd.s 0), none⟩,
 ⟨some 49, MOp.mv (Opd.s 1), none⟩,
 ⟨some 50, MOp.bin .mul (Opd.s 48) (Opd.s 49), none⟩,
 ⟨some 5, MOp.mv (Opd.s 50), none⟩]).seq
 MC.ret))))))))))) ⟩
def M90 : MFun :=
 ⟨8, [MRes.tmp 1 2], (MC.reg
 [⟨some 2, MOp.mv (Opd.c AV.nils), none⟩]).seq
 (((MC.reg
 [⟨some 3, MOp.mv (Opd.s 0), none⟩,
 ⟨some 4, MOp.eqv false EqK.slc (Opd.s 3) (Opd.c AV.nils), none⟩]).seq
 (MC.cond (Opd.s 4)
 ((MC.reg
 [⟨some 2, MOp.mv (Opd.c AV.nils), none⟩]).seq
 MC.ret)
 MC.skip)).seq
 ((MC.reg
 [⟨some 5, MOp.bsl false 1 0 [] [], none⟩,
 ⟨some 6, MOp.mv (Opd.s 0), none⟩,
 ⟨some 7, MOp.app false 1 1 (Opd.s 5) (Opd.s 6), none⟩,
 ⟨some 2, MOp.mv (Opd.s 7), none⟩]).seq
 MC.ret)) ⟩
theorem tab71 : tableOf Tryd.prog 71 = some M71 := by kernel_rfl
theorem tab72 : tableOf Tryd.prog 72 = some M72 := by kernel_rfl
theorem tab109 : tableOf Tryd.prog 109 = some M109 := by kernel_rfl
theorem tab89 : tableOf Tryd.prog 89 = some M89 := by kernel_rfl
theorem tab69 : tableOf Tryd.prog 69 = some M69 := by kernel_rfl
theorem tab70 : tableOf Tryd.prog 70 = some M70 := by kernel_rfl
theorem tab46 : tableOf Tryd.prog 46 = some M46 := by kernel_rfl
theorem tab87 : tableOf Tryd.prog 87 = some M87 := by kernel_rfl
theorem tab108 : tableOf Tryd.prog 108 = some M108 := by kernel_rfl
theorem tab90 : tableOf Tryd.prog 90 = some M90 := by kernel_rfl
end Go.Proofs.YtbeimfhodgmjhaaDoor
