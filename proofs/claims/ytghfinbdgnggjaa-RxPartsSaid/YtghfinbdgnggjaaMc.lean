/- Functions of the program in the evaluator's form, written out by a program. No conditions. -/
import Derived.Test.YtghfinbdgnggjaaM
set_option linter.unusedVariables false
namespace Go.Proofs.Ytghfinbdgnggjaa
open Go Go.Ab
def M7 : MFun :=
 ⟨38, [MRes.tmp 0 4], (MC.reg
 [⟨some 4, MOp.mv (Opd.c (AV.bool false)), none⟩]).seq
 ((MC.reg
 [⟨some 6, MOp.call 19 [], none⟩,
 ⟨some 5, MOp.mv (Opd.s 6), none⟩]).seq
 (((MC.reg
 [⟨some 7, MOp.mv (Opd.s 5), none⟩,
 ⟨some 8, MOp.un .not (Opd.s 7), none⟩]).seq
 (MC.cond (Opd.s 8)
 ((MC.reg
 [⟨some 4, MOp.mv (Opd.c (AV.bool false)), none⟩]).seq
 MC.ret)
 MC.skip)).seq
 ((MC.reg
 [⟨some 9, MOp.mv (Opd.s 0), none⟩,
 ⟨some 10, MOp.call 20
 [(1, Opd.s 9), (0, Opd.c (AV.int .i64 100))], none⟩,
 ⟨some 0, MOp.mv (Opd.s 10), none⟩]).seq
 ((MC.draw
 [⟨some 11, MOp.mv (Opd.s 0), none⟩,
 ⟨some 12, MOp.mv (Opd.s 1), none⟩,
 ⟨some 13, MOp.call 29 [(1, Opd.s 11), (0, Opd.s 12)], none⟩,
 ⟨some 14, MOp.conv Cv.b2s (Opd.s 13), none⟩,
 ⟨some 15, MOp.mv (Opd.s 0), none⟩,
 ⟨some 16, MOp.mv (Opd.s 1), none⟩,
 ⟨some 17, MOp.call 30 [(1, Opd.s 15), (0, Opd.s 16)], none⟩,
 ⟨some 18, MOp.conv Cv.b2s (Opd.s 17), none⟩,
 ⟨some 19, MOp.bin .eql (Opd.s 14) (Opd.s 18), none⟩,
 ⟨some 20, MOp.mv (Opd.s 19), none⟩,
 ⟨some 21, MOp.mv (Opd.s 0), some (20, true)⟩,
 ⟨some 22, MOp.call 31 [(1, Opd.s 21)], some (20, true)⟩,
 ⟨some 23, MOp.conv Cv.b2s (Opd.s 22), some (20, true)⟩,
 ⟨some 24, MOp.mv (Opd.s 0), some (20, true)⟩,
 ⟨some 25, MOp.call 32 [(1, Opd.s 24)], some (20, true)⟩,
 ⟨some 26, MOp.conv Cv.b2s (Opd.s 25), some (20, true)⟩,
 ⟨some 27, MOp.bin .eql (Opd.s 23) (Opd.s 26), some (20, true)⟩,
 ⟨some 28, MOp.pick (Opd.s 20) (Opd.s 27) (Opd.c (AV.bool false)), none⟩,
 ⟨some 29, MOp.mv (Opd.s 28), none⟩,
 ⟨some 30, MOp.mv (Opd.s 0), some (29, true)⟩,
 ⟨some 31, MOp.call 33 [(1, Opd.s 30)], some (29, true)⟩,
 ⟨some 32, MOp.conv Cv.b2s (Opd.s 31), some (29, true)⟩,
 ⟨some 33, MOp.mv (Opd.s 0), some (29, true)⟩,
 ⟨some 34, MOp.call 34 [(1, Opd.s 33)], some (29, true)⟩,
 ⟨some 35, MOp.conv Cv.b2s (Opd.s 34), some (29, true)⟩,
 ⟨some 36, MOp.bin .eql (Opd.s 32) (Opd.s 35), some (29, true)⟩,
 ⟨some 37, MOp.pick (Opd.s 29) (Opd.s 36) (Opd.c (AV.bool false)), none⟩,
 ⟨some 4, MOp.mv (Opd.s 37), none⟩]
 [0, 0, 3, 7, 0, 0, 55, 119, 255, 511, 1023, 2047, 4095, 1023, 12287, 28671, 65535, 131071, 262143,
 524287, 1048575, 2097151, 524287, 6291455, 14680063, 33554431, 67108863, 134217727]).seq
 MC.ret)))) ⟩
def M14 : MFun :=
 ⟨64, [MRes.tmp 0 4], (MC.reg
 [⟨some 4, MOp.mv (Opd.c (AV.bool false)), none⟩]).seq
 ((MC.reg
 [⟨some 7, MOp.call 19 [], none⟩,
 ⟨some 5, MOp.mv (Opd.s 7), none⟩]).seq
 (((MC.reg
 [⟨some 8, MOp.mv (Opd.s 5), none⟩,
 ⟨some 9, MOp.un .not (Opd.s 8), none⟩]).seq
 (MC.cond (Opd.s 9)
 ((MC.reg
 [⟨some 4, MOp.mv (Opd.c (AV.bool false)), none⟩]).seq
 MC.ret)
 MC.skip)).seq
 ((MC.reg
 [⟨some 10, MOp.mv (Opd.s 0), none⟩,
 ⟨some 11, MOp.call 20
 [(1, Opd.s 10), (0, Opd.c (AV.int .i64 100))], none⟩,
 ⟨some 0, MOp.mv (Opd.s 11), none⟩]).seq
 ((MC.reg
 [⟨some 12, MOp.mv (Opd.s 1), none⟩,
 ⟨some 13, MOp.bin .rem (Opd.s 12)
 (Opd.c (AV.int .i64 11)), none⟩,
 ⟨some 14, MOp.bin .add (Opd.s 13)
 (Opd.c (AV.int .i64 11)), none⟩,
 ⟨some 15, MOp.bin .rem (Opd.s 14)
 (Opd.c (AV.int .i64 11)), none⟩,
 ⟨some 1, MOp.mv (Opd.s 15), none⟩]).seq
 ((MC.reg
 [⟨some 16, MOp.mv (Opd.s 0), none⟩,
 ⟨some 17, MOp.mv (Opd.s 1), none⟩,
 ⟨some 18, MOp.call 29 [(1, Opd.s 16), (0, Opd.s 17)], none⟩,
 ⟨some 19, MOp.len (Opd.s 18), none⟩,
 ⟨some 6, MOp.mv (Opd.s 19), none⟩]).seq
 ((MC.reg
 [⟨some 20, MOp.mv (Opd.s 6), none⟩,
 ⟨some 21, MOp.mv (Opd.s 1), none⟩,
 ⟨some 22, MOp.mv (Opd.s 0), none⟩,
 ⟨some 23, MOp.len (Opd.s 22), none⟩,
 ⟨some 24, MOp.bin .add (Opd.s 21) (Opd.s 23), none⟩,
 ⟨some 25, MOp.bin .add (Opd.s 24)
 (Opd.c (AV.int .i64 4)), none⟩,
 ⟨some 26, MOp.bin .geq (Opd.s 20) (Opd.s 25), none⟩,
 ⟨some 27, MOp.mv (Opd.s 26), none⟩,
 ⟨some 28, MOp.mv (Opd.s 6), some (27, true)⟩,
 ⟨some 29, MOp.mv (Opd.s 1), some (27, true)⟩,
 ⟨some 30, MOp.mv (Opd.s 0), some (27, true)⟩,
 ⟨some 31, MOp.len (Opd.s 30), some (27, true)⟩,
 ⟨some 32, MOp.bin .add (Opd.s 31)
 (Opd.c (AV.int .i64 2)), some (27, true)⟩,
 ⟨some 33, MOp.bin .mul (Opd.c (AV.int .i64 2))
 (Opd.s 32), some (27, true)⟩,
 ⟨some 34, MOp.bin .add (Opd.s 29) (Opd.s 33), some (27, true)⟩,
 ⟨some 35, MOp.bin .add (Opd.s 34)
 (Opd.c (AV.int .i64 2)), some (27, true)⟩,
 ⟨some 36, MOp.bin .leq (Opd.s 28) (Opd.s 35), some (27, true)⟩,
 ⟨some 37, MOp.pick (Opd.s 27) (Opd.s 36) (Opd.c (AV.bool false)), none⟩,
 ⟨some 38, MOp.mv (Opd.s 37), none⟩,
 ⟨some 39, MOp.mv (Opd.s 0), some (38, true)⟩,
 ⟨some 40, MOp.call 31 [(1, Opd.s 39)], some (38, true)⟩,
 ⟨some 41, MOp.len (Opd.s 40), some (38, true)⟩,
 ⟨some 42, MOp.mv (Opd.s 0), some (38, true)⟩,
 ⟨some 43, MOp.len (Opd.s 42), some (38, true)⟩,
 ⟨some 44, MOp.bin .geq (Opd.s 41) (Opd.s 43), some (38, true)⟩,
 ⟨some 45, MOp.pick (Opd.s 38) (Opd.s 44) (Opd.c (AV.bool false)), none⟩,
 ⟨some 46, MOp.mv (Opd.s 45), none⟩,
 ⟨some 47, MOp.mv (Opd.s 0), some (46, true)⟩,
 ⟨some 48, MOp.call 29
 [(1, Opd.s 47), (0, Opd.c (AV.int .i64 (-5)))], some (46, true)⟩,
 ⟨some 49, MOp.len (Opd.s 48), some (46, true)⟩,
 ⟨some 50, MOp.mv (Opd.s 0), some (46, true)⟩,
 ⟨some 51, MOp.call 29
 [(1, Opd.s 50), (0, Opd.c (AV.int .i64 0))], some (46, true)⟩,
 ⟨some 52, MOp.len (Opd.s 51), some (46, true)⟩,
 ⟨some 53, MOp.bin .eql (Opd.s 49) (Opd.s 52), some (46, true)⟩,
 ⟨some 54, MOp.pick (Opd.s 46) (Opd.s 53) (Opd.c (AV.bool false)), none⟩,
 ⟨some 55, MOp.mv (Opd.s 54), none⟩,
 ⟨some 56, MOp.mv (Opd.s 0), some (55, true)⟩,
 ⟨some 57, MOp.call 29
 [(1, Opd.s 56), (0, Opd.c (AV.int .i64 99))], some (55, true)⟩,
 ⟨some 58, MOp.len (Opd.s 57), some (55, true)⟩,
 ⟨some 59, MOp.mv (Opd.s 0), some (55, true)⟩,
 ⟨some 60, MOp.call 29
 [(1, Opd.s 59), (0, Opd.c (AV.int .i64 10))], some (55, true)⟩,
 ⟨some 61, MOp.len (Opd.s 60), some (55, true)⟩,
 ⟨some 62, MOp.bin .eql (Opd.s 58) (Opd.s 61), some (55, true)⟩,
 ⟨some 63, MOp.pick (Opd.s 55) (Opd.s 62) (Opd.c (AV.bool false)), none⟩,
 ⟨some 4, MOp.mv (Opd.s 63), none⟩]).seq
 MC.ret)))))) ⟩
def M15b0 : MC :=
 ((MC.reg
 [⟨some 23, MOp.bin .lss (Opd.s 22) (Opd.s 21), none⟩]).seq
 ((MC.cond (Opd.s 23) MC.skip (MC.exit 0)).seq
 ((MC.block 1
 ((MC.reg
 [⟨some 24, MOp.mv (Opd.s 22), none⟩,
 ⟨some 7, MOp.mv (Opd.s 24), none⟩]).seq
 ((MC.reg
 [⟨some 25, MOp.mv (Opd.s 6), none⟩,
 ⟨some 26, MOp.mv (Opd.s 7), none⟩,
 ⟨some 27, MOp.ixa 1 (Opd.s 25) (Opd.s 26), none⟩,
 ⟨some 28, MOp.load none (Opd.s 27), none⟩,
 ⟨some 29, MOp.bin .eql (Opd.s 28)
 (Opd.c (AV.int .u8 192)), none⟩,
 ⟨some 30, MOp.mv (Opd.s 29), none⟩,
 ⟨some 31, MOp.mv (Opd.s 6), some (30, false)⟩,
 ⟨some 32, MOp.mv (Opd.s 7), some (30, false)⟩,
 ⟨some 33, MOp.ixa 1 (Opd.s 31) (Opd.s 32), some (30, false)⟩,
 ⟨some 34, MOp.load none (Opd.s 33), some (30, false)⟩,
 ⟨some 35, MOp.bin .eql (Opd.s 34)
 (Opd.c (AV.int .u8 193)), some (30, false)⟩,
 ⟨some 36, MOp.pick (Opd.s 30)
 (Opd.c (AV.bool true)) (Opd.s 35), none⟩,
 ⟨some 37, MOp.mv (Opd.s 36), none⟩,
 ⟨some 38, MOp.mv (Opd.s 6), some (37, false)⟩,
 ⟨some 39, MOp.mv (Opd.s 7), some (37, false)⟩,
 ⟨some 40, MOp.ixa 1 (Opd.s 38) (Opd.s 39), some (37, false)⟩,
 ⟨some 41, MOp.load none (Opd.s 40), some (37, false)⟩,
 ⟨some 42, MOp.bin .eql (Opd.s 41)
 (Opd.c (AV.int .u8 125)), some (37, false)⟩,
 ⟨some 43, MOp.mv (Opd.s 42), some (37, false)⟩,
 ⟨some 44, MOp.mv (Opd.s 7), some (43, true)⟩,
 ⟨some 45, MOp.bin .add (Opd.s 44)
 (Opd.c (AV.int .i64 1)), some (43, true)⟩,
 ⟨some 46, MOp.mv (Opd.s 6), some (43, true)⟩,
 ⟨some 47, MOp.len (Opd.s 46), some (43, true)⟩,
 ⟨some 48, MOp.bin .eql (Opd.s 45) (Opd.s 47), some (43, true)⟩,
 ⟨some 49, MOp.pick (Opd.s 43) (Opd.s 48)
 (Opd.c (AV.bool false)), some (37, false)⟩,
 ⟨some 50, MOp.pick (Opd.s 37)
 (Opd.c (AV.bool true)) (Opd.s 49), none⟩]).seq
 (MC.cond (Opd.s 50)
 ((MC.reg
 [⟨some 4, MOp.mv (Opd.c (AV.bool false)), none⟩]).seq
 MC.ret)
 MC.skip)))).seq
 (MC.reg
 [⟨some 51, MOp.bin .add (Opd.s 22)
 (Opd.c (AV.int .i64 1)), none⟩,
 ⟨some 22, MOp.mv (Opd.s 51), none⟩]))))
def M15b0l : List Bool := [true, true, false, false, false, false, true, false, false, false, false, false, false, false, false, false, false, false, false, false, false, true, true, false, false, false, false, false, false, false, false, false, false, false, false, false, false, false, false, false, false, false, false, false, false, false, false, false, false, false, false, false, false, false, false, false, false, false, false, false, false]
def M15 : MFun :=
 ⟨61, [MRes.tmp 0 4], (MC.reg
 [⟨some 4, MOp.mv (Opd.c (AV.bool false)), none⟩]).seq
 ((MC.reg
 [⟨some 8, MOp.call 19 [], none⟩,
 ⟨some 5, MOp.mv (Opd.s 8), none⟩]).seq
 (((MC.reg
 [⟨some 9, MOp.mv (Opd.s 5), none⟩,
 ⟨some 10, MOp.un .not (Opd.s 9), none⟩]).seq
 (MC.cond (Opd.s 10)
 ((MC.reg
 [⟨some 4, MOp.mv (Opd.c (AV.bool false)), none⟩]).seq
 MC.ret)
 MC.skip)).seq
 ((MC.reg
 [⟨some 11, MOp.mv (Opd.s 0), none⟩,
 ⟨some 12, MOp.call 20
 [(1, Opd.s 11), (0, Opd.c (AV.int .i64 60))], none⟩,
 ⟨some 13, MOp.mv (Opd.s 1), none⟩,
 ⟨some 14, MOp.call 20
 [(1, Opd.s 13), (0, Opd.c (AV.int .i64 60))], none⟩,
 ⟨some 0, MOp.mv (Opd.s 12), none⟩,
 ⟨some 1, MOp.mv (Opd.s 14), none⟩]).seq
 ((MC.reg
 [⟨some 15, MOp.mv (Opd.s 0), none⟩,
 ⟨some 16, MOp.app false 1 1 (Opd.c AV.nils) (Opd.s 15), none⟩,
 ⟨some 17, MOp.mv (Opd.s 1), none⟩,
 ⟨some 18, MOp.app false 1 1 (Opd.s 16) (Opd.s 17), none⟩,
 ⟨some 19, MOp.call 31 [(1, Opd.s 18)], none⟩,
 ⟨some 6, MOp.mv (Opd.s 19), none⟩]).seq
 (((MC.reg
 [⟨some 20, MOp.mv (Opd.s 6), none⟩,
 ⟨some 21, MOp.len (Opd.s 20), none⟩,
 ⟨some 22, MOp.mv (Opd.c (AV.int .i64 0)), none⟩]).seq
 (MC.block 0
 (MC.loop M15b0l M15b0))).seq
 ((MC.draw
 [⟨some 52, MOp.mv (Opd.s 6), none⟩,
 ⟨some 53, MOp.conv Cv.b2s (Opd.s 52), none⟩,
 ⟨some 54, MOp.mv (Opd.s 0), none⟩,
 ⟨some 55, MOp.call 31 [(1, Opd.s 54)], none⟩,
 ⟨some 56, MOp.mv (Opd.s 1), none⟩,
 ⟨some 57, MOp.call 31 [(1, Opd.s 56)], none⟩,
 ⟨some 58, MOp.app false 1 1 (Opd.s 55) (Opd.s 57), none⟩,
 ⟨some 59, MOp.conv Cv.b2s (Opd.s 58), none⟩,
 ⟨some 60, MOp.bin .eql (Opd.s 53) (Opd.s 59), none⟩,
 ⟨some 4, MOp.mv (Opd.s 60), none⟩]
 [0, 1, 0, 4, 0, 28, 60, 124, 255, 511]).seq
 MC.ret)))))) ⟩
def M29 : MFun :=
 ⟨19, [MRes.tmp 1 4], (MC.reg
 [⟨some 4, MOp.mv (Opd.c AV.nils), none⟩]).seq
 ((MC.reg
 [⟨some 6, MOp.bsl false 1 1 [AV.int .u8 0]
 [(0, 1, Opd.c (AV.int .u8 255))], none⟩,
 ⟨some 7, MOp.mv (Opd.s 1), none⟩,
 ⟨some 8, MOp.mx [Opd.s 7, Opd.c (AV.int .i64 0)], none⟩,
 ⟨some 9, MOp.mn [Opd.s 8, Opd.c (AV.int .i64 10)], none⟩,
 ⟨some 10, MOp.call 44 [(1, Opd.s 6), (0, Opd.s 9)], none⟩,
 ⟨some 5, MOp.mv (Opd.s 10), none⟩]).seq
 ((MC.reg
 [⟨some 11, MOp.mv (Opd.s 5), none⟩,
 ⟨some 12, MOp.bsl false 1 1 [AV.int .u8 0]
 [(0, 1, Opd.c (AV.int .u8 192))], none⟩,
 ⟨some 13, MOp.mv (Opd.s 0), none⟩,
 ⟨some 14, MOp.call 25 [(1, Opd.s 13)], none⟩,
 ⟨some 15, MOp.call 31 [(1, Opd.s 14)], none⟩,
 ⟨some 16, MOp.bsl false 1 1 [AV.int .u8 0]
 [(0, 1, Opd.c (AV.int .u8 193))], none⟩,
 ⟨some 17, MOp.bsl false 1 4 [AV.nils, AV.nils, AV.nils, AV.nils]
 [(0, 1, Opd.s 11), (1, 1, Opd.s 12), (2, 1, Opd.s 15),
 (3, 1, Opd.s 16)], none⟩,
 ⟨some 18, MOp.call 45 [(1, Opd.s 17)], none⟩,
 ⟨some 4, MOp.mv (Opd.s 18), none⟩]).seq
 MC.ret)) ⟩
def M30b0 : MC :=
 (((MC.reg
 [⟨some 7, MOp.mv (Opd.s 6), none⟩,
 ⟨some 8, MOp.mv (Opd.s 1), none⟩,
 ⟨some 9, MOp.mx
 [Opd.s 8, Opd.c (AV.int .i64 0)], none⟩,
 ⟨some 10, MOp.mn
 [Opd.s 9, Opd.c (AV.int .i64 10)], none⟩,
 ⟨some 11, MOp.bin .lss (Opd.s 7) (Opd.s 10), none⟩]).seq
 (MC.cond (Opd.s 11) MC.skip (MC.exit 0))).seq
 ((MC.block 1
 (MC.reg
 [⟨some 14, MOp.mv (Opd.s 5), none⟩,
 ⟨some 15, MOp.bsl false 1 1 [AV.int .u8 0]
 [(0, 1, Opd.c (AV.int .u8 255))], none⟩,
 ⟨some 16, MOp.app false 1 1 (Opd.s 14) (Opd.s 15), none⟩,
 ⟨some 5, MOp.mv (Opd.s 16), none⟩])).seq
 (MC.reg
 [⟨some 12, MOp.mv (Opd.s 6), none⟩,
 ⟨some 13, MOp.bin .add (Opd.s 12)
 (Opd.c (AV.int .i64 1)), none⟩,
 ⟨some 6, MOp.mv (Opd.s 13), none⟩])))
def M30b0l : List Bool := [true, true, false, false, false, true, true, false, false, false, false, false, false, false, false, false, false, false, false, false, false, false, false, false, false, false]
def M30 : MFun :=
 ⟨26, [MRes.tmp 1 4], (MC.reg
 [⟨some 4, MOp.mv (Opd.c AV.nils), none⟩]).seq
 ((MC.reg
 [⟨some 5, MOp.mv (Opd.c AV.nils), none⟩]).seq
 (((MC.reg
 [⟨some 6, MOp.mv (Opd.c (AV.int .i64 0)), none⟩]).seq
 (MC.block 0
 (MC.loop M30b0l M30b0))).seq
 ((MC.reg
 [⟨some 17, MOp.mv (Opd.s 5), none⟩,
 ⟨some 18, MOp.bsl false 1 1 [AV.int .u8 0]
 [(0, 1, Opd.c (AV.int .u8 192))], none⟩,
 ⟨some 19, MOp.app false 1 1 (Opd.s 17) (Opd.s 18), none⟩,
 ⟨some 20, MOp.mv (Opd.s 0), none⟩,
 ⟨some 21, MOp.call 26 [(1, Opd.s 20)], none⟩,
 ⟨some 22, MOp.call 32 [(1, Opd.s 21)], none⟩,
 ⟨some 23, MOp.app false 1 1 (Opd.s 19) (Opd.s 22), none⟩,
 ⟨some 24, MOp.bsl false 1 1 [AV.int .u8 0]
 [(0, 1, Opd.c (AV.int .u8 193))], none⟩,
 ⟨some 25, MOp.app false 1 1 (Opd.s 23) (Opd.s 24), none⟩,
 ⟨some 4, MOp.mv (Opd.s 25), none⟩]).seq
 MC.ret))) ⟩
def M31b0 : MC :=
 ((MC.reg
 [⟨some 9, MOp.bin .lss (Opd.s 8) (Opd.s 7), none⟩]).seq
 ((MC.cond (Opd.s 9) MC.skip (MC.exit 0)).seq
 ((MC.block 1
 ((MC.reg
 [⟨some 10, MOp.ixa 1 (Opd.s 6) (Opd.s 8), none⟩,
 ⟨some 11, MOp.load none (Opd.s 10), none⟩,
 ⟨some 5, MOp.mv (Opd.s 11), none⟩]).seq
 ((MC.reg
 [⟨some 12, MOp.mv (Opd.s 5), none⟩,
 ⟨some 13, MOp.bin .eql (Opd.s 12)
 (Opd.c (AV.int .u8 192)), none⟩,
 ⟨some 14, MOp.mv (Opd.s 13), none⟩,
 ⟨some 15, MOp.mv (Opd.s 5), some (14, false)⟩,
 ⟨some 16, MOp.bin .eql (Opd.s 15)
 (Opd.c (AV.int .u8 193)), some (14, false)⟩,
 ⟨some 17, MOp.pick (Opd.s 14) (Opd.c (AV.bool true))
 (Opd.s 16), none⟩,
 ⟨some 18, MOp.mv (Opd.s 17), none⟩,
 ⟨some 19, MOp.mv (Opd.s 5), some (18, false)⟩,
 ⟨some 20, MOp.bin .eql (Opd.s 19)
 (Opd.c (AV.int .u8 125)), some (18, false)⟩,
 ⟨some 21, MOp.pick (Opd.s 18) (Opd.c (AV.bool true))
 (Opd.s 20), none⟩]).seq
 (MC.cond (Opd.s 21)
 (MC.reg
 [⟨some 22, MOp.mv (Opd.s 3), none⟩,
 ⟨some 23, MOp.mv (Opd.s 5), none⟩,
 ⟨some 24, MOp.bin .xor (Opd.s 23)
 (Opd.c (AV.int .u8 32)), none⟩,
 ⟨some 25, MOp.bsl false 1 2
 [AV.int .u8 0,
 AV.int .u8 0]
 [(0, 1, Opd.c (AV.int .u8 125)),
 (1, 1, Opd.s 24)], none⟩,
 ⟨some 26, MOp.app false 1 1 (Opd.s 22) (Opd.s 25), none⟩,
 ⟨some 3, MOp.mv (Opd.s 26), none⟩])
 (MC.reg
 [⟨some 27, MOp.mv (Opd.s 3), none⟩,
 ⟨some 28, MOp.mv (Opd.s 5), none⟩,
 ⟨some 29, MOp.bsl false 1 1 [AV.int .u8 0]
 [(0, 1, Opd.s 28)], none⟩,
 ⟨some 30, MOp.app false 1 1 (Opd.s 27) (Opd.s 29), none⟩,
 ⟨some 3, MOp.mv (Opd.s 30), none⟩]))))).seq
 (MC.reg
 [⟨some 31, MOp.bin .add (Opd.s 8)
 (Opd.c (AV.int .i64 1)), none⟩,
 ⟨some 8, MOp.mv (Opd.s 31), none⟩]))))
def M31b0l : List Bool := [false, false, false, true, false, false, true, true, true, false, false, false, false, false, false, false, false, false, false, false, false, false, false, false, false, false, false, false, false, false, false, false, false]
def M31 : MFun :=
 ⟨33, [MRes.tmp 1 2], (MC.reg
 [⟨some 2, MOp.mv (Opd.c AV.nils), none⟩]).seq
 ((MC.reg
 [⟨some 3, MOp.mv (Opd.c AV.nils), none⟩]).seq
 (((MC.reg
 [⟨some 6, MOp.mv (Opd.s 0), none⟩,
 ⟨some 7, MOp.len (Opd.s 6), none⟩,
 ⟨some 8, MOp.mv (Opd.c (AV.int .i64 0)), none⟩]).seq
 (MC.block 0
 (MC.loop M31b0l M31b0))).seq
 ((MC.reg
 [⟨some 32, MOp.mv (Opd.s 3), none⟩,
 ⟨some 2, MOp.mv (Opd.s 32), none⟩]).seq
 MC.ret))) ⟩
def M32b0 : MC :=
 (((MC.reg
 [⟨some 5, MOp.mv (Opd.s 4), none⟩,
 ⟨some 6, MOp.mv (Opd.s 0), none⟩,
 ⟨some 7, MOp.len (Opd.s 6), none⟩,
 ⟨some 8, MOp.bin .lss (Opd.s 5) (Opd.s 7), none⟩]).seq
 (MC.cond (Opd.s 8) MC.skip (MC.exit 0))).seq
 ((MC.block 1
 ((MC.reg
 [⟨some 11, MOp.mv (Opd.s 0), none⟩,
 ⟨some 12, MOp.mv (Opd.s 4), none⟩,
 ⟨some 13, MOp.ixa 1 (Opd.s 11) (Opd.s 12), none⟩,
 ⟨some 14, MOp.load none (Opd.s 13), none⟩,
 ⟨some 15, MOp.bin .eql (Opd.s 14)
 (Opd.c (AV.int .u8 192)), none⟩,
 ⟨some 16, MOp.mv (Opd.s 15), none⟩,
 ⟨some 17, MOp.mv (Opd.s 0), some (16, false)⟩,
 ⟨some 18, MOp.mv (Opd.s 4), some (16, false)⟩,
 ⟨some 19, MOp.ixa 1 (Opd.s 17) (Opd.s 18), some (16, false)⟩,
 ⟨some 20, MOp.load none (Opd.s 19), some (16, false)⟩,
 ⟨some 21, MOp.bin .eql (Opd.s 20)
 (Opd.c (AV.int .u8 193)), some (16, false)⟩,
 ⟨some 22, MOp.pick (Opd.s 16) (Opd.c (AV.bool true))
 (Opd.s 21), none⟩,
 ⟨some 23, MOp.mv (Opd.s 22), none⟩,
 ⟨some 24, MOp.mv (Opd.s 0), some (23, false)⟩,
 ⟨some 25, MOp.mv (Opd.s 4), some (23, false)⟩,
 ⟨some 26, MOp.ixa 1 (Opd.s 24) (Opd.s 25), some (23, false)⟩,
 ⟨some 27, MOp.load none (Opd.s 26), some (23, false)⟩,
 ⟨some 28, MOp.bin .eql (Opd.s 27)
 (Opd.c (AV.int .u8 125)), some (23, false)⟩,
 ⟨some 29, MOp.pick (Opd.s 23) (Opd.c (AV.bool true))
 (Opd.s 28), none⟩]).seq
 (MC.cond (Opd.s 29)
 (MC.reg
 [⟨some 30, MOp.mv (Opd.s 3), none⟩,
 ⟨some 31, MOp.mv (Opd.s 0), none⟩,
 ⟨some 32, MOp.mv (Opd.s 4), none⟩,
 ⟨some 33, MOp.ixa 1 (Opd.s 31) (Opd.s 32), none⟩,
 ⟨some 34, MOp.load none (Opd.s 33), none⟩,
 ⟨some 35, MOp.bin .xor (Opd.s 34)
 (Opd.c (AV.int .u8 32)), none⟩,
 ⟨some 36, MOp.bsl false 1 2
 [AV.int .u8 0,
 AV.int .u8 0]
 [(0, 1, Opd.c (AV.int .u8 125)),
 (1, 1, Opd.s 35)], none⟩,
 ⟨some 37, MOp.app false 1 1 (Opd.s 30) (Opd.s 36), none⟩,
 ⟨some 3, MOp.mv (Opd.s 37), none⟩])
 (MC.reg
 [⟨some 38, MOp.mv (Opd.s 3), none⟩,
 ⟨some 39, MOp.mv (Opd.s 0), none⟩,
 ⟨some 40, MOp.mv (Opd.s 4), none⟩,
 ⟨some 41, MOp.ixa 1 (Opd.s 39) (Opd.s 40), none⟩,
 ⟨some 42, MOp.load none (Opd.s 41), none⟩,
 ⟨some 43, MOp.bsl false 1 1 [AV.int .u8 0]
 [(0, 1, Opd.s 42)], none⟩,
 ⟨some 44, MOp.app false 1 1 (Opd.s 38) (Opd.s 43), none⟩,
 ⟨some 3, MOp.mv (Opd.s 44), none⟩])))).seq
 (MC.reg
 [⟨some 9, MOp.mv (Opd.s 4), none⟩,
 ⟨some 10, MOp.bin .add (Opd.s 9)
 (Opd.c (AV.int .i64 1)), none⟩,
 ⟨some 4, MOp.mv (Opd.s 10), none⟩])))
def M32b0l : List Bool := [true, false, false, true, true, false, false, false, false, false, false, false, false, false, false, false, false, false, false, false, false, false, false, false, false, false, false, false, false, false, false, false, false, false, false, false, false, false, false, false, false, false, false, false, false, false]
def M32 : MFun :=
 ⟨46, [MRes.tmp 1 2], (MC.reg
 [⟨some 2, MOp.mv (Opd.c AV.nils), none⟩]).seq
 ((MC.reg
 [⟨some 3, MOp.mv (Opd.c AV.nils), none⟩]).seq
 (((MC.reg
 [⟨some 4, MOp.mv (Opd.c (AV.int .i64 0)), none⟩]).seq
 (MC.block 0
 (MC.loop M32b0l M32b0))).seq
 ((MC.reg
 [⟨some 45, MOp.mv (Opd.s 3), none⟩,
 ⟨some 2, MOp.mv (Opd.s 45), none⟩]).seq
 MC.ret))) ⟩
def M33 : MFun :=
 ⟨9, [MRes.tmp 1 2], (MC.reg
 [⟨some 2, MOp.mv (Opd.c AV.nils), none⟩]).seq
 ((MC.reg
 [⟨some 3, MOp.bsl false 1 1 [AV.int .u8 0]
 [(0, 1, Opd.c (AV.int .u8 192))], none⟩,
 ⟨some 4, MOp.mv (Opd.s 0), none⟩,
 ⟨some 5, MOp.call 31 [(1, Opd.s 4)], none⟩,
 ⟨some 6, MOp.bsl false 1 2
 [AV.int .u8 0, AV.int .u8 0]
 [(0, 1, Opd.c (AV.int .u8 125)),
 (1, 1, Opd.c (AV.int .u8 193))], none⟩,
 ⟨some 7, MOp.bsl false 1 3 [AV.nils, AV.nils, AV.nils]
 [(0, 1, Opd.s 3), (1, 1, Opd.s 5), (2, 1, Opd.s 6)], none⟩,
 ⟨some 8, MOp.call 45 [(1, Opd.s 7)], none⟩,
 ⟨some 2, MOp.mv (Opd.s 8), none⟩]).seq
 MC.ret) ⟩
def M34 : MFun :=
 ⟨9, [MRes.tmp 1 2], (MC.reg
 [⟨some 2, MOp.mv (Opd.c AV.nils), none⟩]).seq
 ((MC.reg
 [⟨some 3, MOp.bsl false 1 1 [AV.int .u8 0]
 [(0, 1, Opd.c (AV.int .u8 192))], none⟩,
 ⟨some 4, MOp.mv (Opd.s 0), none⟩,
 ⟨some 5, MOp.call 32 [(1, Opd.s 4)], none⟩,
 ⟨some 6, MOp.app false 1 1 (Opd.s 3) (Opd.s 5), none⟩,
 ⟨some 7, MOp.bsl false 1 2
 [AV.int .u8 0, AV.int .u8 0]
 [(0, 1, Opd.c (AV.int .u8 125)),
 (1, 1, Opd.c (AV.int .u8 193))], none⟩,
 ⟨some 8, MOp.app false 1 1 (Opd.s 6) (Opd.s 7), none⟩,
 ⟨some 2, MOp.mv (Opd.s 8), none⟩]).seq
 MC.ret) ⟩
def M44b0 : MC :=
 (((MC.reg
 [⟨some 34, MOp.mv (Opd.s 8), none⟩,
 ⟨some 35, MOp.mv (Opd.s 7), none⟩,
 ⟨some 36, MOp.len (Opd.s 35), none⟩,
 ⟨some 37, MOp.bin .lss (Opd.s 34) (Opd.s 36), none⟩]).seq
 (MC.cond (Opd.s 37) MC.skip (MC.exit 0))).seq
 (MC.block 1
 (MC.draw
 [⟨some 38, MOp.mv (Opd.s 8), none⟩,
 ⟨some 39, MOp.mv (Opd.s 7), none⟩,
 ⟨some 40, MOp.mv (Opd.s 8), none⟩,
 ⟨some 41, MOp.slc 1 (Opd.s 39) (some (Opd.s 40)) none, none⟩,
 ⟨some 42, MOp.mv (Opd.s 7), none⟩,
 ⟨some 43, MOp.mv (Opd.s 8), none⟩,
 ⟨some 44, MOp.slc 1 (Opd.s 42) none (some (Opd.s 43)), none⟩,
 ⟨some 45, MOp.cpy 1 (Opd.s 41) (Opd.s 44), none⟩,
 ⟨some 46, MOp.bin .add (Opd.s 38) (Opd.s 45), none⟩,
 ⟨some 8, MOp.mv (Opd.s 46), none⟩]
 [0, 0, 0, 6, 0, 0, 48, 126, 255, 511])))
def M44b0l : List Bool := [false, false, false, false, false, false, false, true, true, false, false, false, false, false, false, false, false, false, false, false, false, false, false, false, false, false, false, false, false, false, false, false, false, false, false, false, false, false, false, false, false, false, false, false, false, false, false, false]
def M44 : MFun :=
 ⟨48, [MRes.tmp 1 4], (MC.reg
 [⟨some 4, MOp.mv (Opd.c AV.nils), none⟩]).seq
 (((MC.reg
 [⟨some 9, MOp.mv (Opd.s 1), none⟩,
 ⟨some 10, MOp.bin .lss (Opd.s 9)
 (Opd.c (AV.int .i64 0)), none⟩]).seq
 (MC.cond (Opd.s 10) (MC.cond (Opd.c AV.undef) MC.skip MC.skip)
 MC.skip)).seq
 ((MC.reg
 [⟨some 13, MOp.mv (Opd.s 0), none⟩,
 ⟨some 14, MOp.len (Opd.s 13), none⟩,
 ⟨some 15, MOp.conv (Cv.toInt .u64) (Opd.s 14), none⟩,
 ⟨some 16, MOp.mv (Opd.s 1), none⟩,
 ⟨some 17, MOp.conv (Cv.toInt .u64) (Opd.s 16), none⟩,
 ⟨some 18, MOp.call 49 [(0, Opd.s 15), (0, Opd.s 17)], none⟩,
 ⟨some 12, MOp.mv (Opd.s 18), none⟩,
 ⟨some 19, MOp.ext 0 (Opd.s 12), none⟩,
 ⟨some 20, MOp.ext 1 (Opd.s 12), none⟩,
 ⟨some 5, MOp.mv (Opd.s 19), none⟩,
 ⟨some 6, MOp.mv (Opd.s 20), none⟩]).seq
 (((MC.reg
 [⟨some 21, MOp.mv (Opd.s 5), none⟩,
 ⟨some 22, MOp.bin .gtr (Opd.s 21)
 (Opd.c (AV.int .u64 0)), none⟩,
 ⟨some 23, MOp.mv (Opd.s 22), none⟩,
 ⟨some 24, MOp.mv (Opd.s 6), some (23, false)⟩,
 ⟨some 25, MOp.bin .gtr (Opd.s 24)
 (Opd.c (AV.int .u64 9223372036854775807)), some (23, false)⟩,
 ⟨some 26, MOp.pick (Opd.s 23) (Opd.c (AV.bool true)) (Opd.s 25), none⟩]).seq
 (MC.cond (Opd.s 26)
 (MC.cond (Opd.c AV.undef) MC.skip MC.skip) MC.skip)).seq
 ((MC.reg
 [⟨some 28, MOp.mv (Opd.s 6), none⟩,
 ⟨some 29, MOp.conv (Cv.toInt .i64) (Opd.s 28), none⟩,
 ⟨some 30, MOp.mks 1 1 [AV.int .u8 0] (Opd.s 29)
 (Opd.s 29), none⟩,
 ⟨some 7, MOp.mv (Opd.s 30), none⟩]).seq
 ((MC.reg
 [⟨some 31, MOp.mv (Opd.s 7), none⟩,
 ⟨some 32, MOp.mv (Opd.s 0), none⟩,
 ⟨some 33, MOp.cpy 1 (Opd.s 31) (Opd.s 32), none⟩,
 ⟨some 8, MOp.mv (Opd.s 33), none⟩]).seq
 ((MC.block 0
 (MC.loop M44b0l M44b0)).seq
 ((MC.reg
 [⟨some 47, MOp.mv (Opd.s 7), none⟩,
 ⟨some 4, MOp.mv (Opd.s 47), none⟩]).seq
 MC.ret))))))) ⟩
def M45b0 : MC :=
 ((MC.reg
 [⟨some 28, MOp.bin .lss (Opd.s 27) (Opd.s 26), none⟩]).seq
 ((MC.cond (Opd.s 28) MC.skip (MC.exit 2)).seq
 ((MC.block 3
 ((MC.reg
 [⟨some 29, MOp.ixa 1 (Opd.s 25) (Opd.s 27), none⟩,
 ⟨some 30, MOp.load none (Opd.s 29), none⟩,
 ⟨some 8, MOp.mv (Opd.s 30), none⟩]).seq
 (MC.reg
 [⟨some 31, MOp.mv (Opd.s 6), none⟩,
 ⟨some 32, MOp.mv (Opd.s 8), none⟩,
 ⟨some 33, MOp.app false 1 1 (Opd.s 31) (Opd.s 32), none⟩,
 ⟨some 6, MOp.mv (Opd.s 33), none⟩]))).seq
 (MC.reg
 [⟨some 34, MOp.bin .add (Opd.s 27)
 (Opd.c (AV.int .i64 1)), none⟩,
 ⟨some 27, MOp.mv (Opd.s 34), none⟩]))))
def M45b0l : List Bool := [false, false, false, false, false, false, true, false, false, false, false, false, false, false, false, false, false, false, false, false, false, false, false, false, false, true, true, true, false, false, false, false, false, false, false, false]
def M45b1 : MC :=
 ((MC.reg
 [⟨some 12, MOp.bin .lss (Opd.s 11) (Opd.s 10), none⟩]).seq
 ((MC.cond (Opd.s 12) MC.skip (MC.exit 0)).seq
 ((MC.block 1
 ((MC.reg
 [⟨some 13, MOp.ixa 1 (Opd.s 9) (Opd.s 11), none⟩,
 ⟨some 14, MOp.load none (Opd.s 13), none⟩,
 ⟨some 5, MOp.mv (Opd.s 14), none⟩]).seq
 ((MC.reg
 [⟨some 15, MOp.mv (Opd.s 3), none⟩,
 ⟨some 16, MOp.mv (Opd.s 5), none⟩,
 ⟨some 17, MOp.len (Opd.s 16), none⟩,
 ⟨some 18, MOp.bin .add (Opd.s 15) (Opd.s 17), none⟩,
 ⟨some 3, MOp.mv (Opd.s 18), none⟩]).seq
 ((MC.reg
 [⟨some 19, MOp.mv (Opd.s 3), none⟩,
 ⟨some 20, MOp.bin .lss (Opd.s 19)
 (Opd.c (AV.int .i64 0)), none⟩]).seq
 (MC.cond (Opd.s 20)
 (MC.cond (Opd.c AV.undef) MC.skip MC.skip)
 MC.skip))))).seq
 (MC.reg
 [⟨some 22, MOp.bin .add (Opd.s 11)
 (Opd.c (AV.int .i64 1)), none⟩,
 ⟨some 11, MOp.mv (Opd.s 22), none⟩]))))
def M45b1l : List Bool := [true, false, false, true, false, false, false, false, false, true, true, true, false, false, false, false, false, false, false, false, false, false, false, false, false, false, false, false, false, false, false, false, false, false, false, false]
def M45 : MFun :=
 ⟨36, [MRes.tmp 1 2], (MC.reg
 [⟨some 2, MOp.mv (Opd.c AV.nils), none⟩]).seq
 ((MC.reg
 [⟨some 3, MOp.mv (Opd.c (AV.int .i64 0)), none⟩]).seq
 (((MC.reg
 [⟨some 9, MOp.mv (Opd.s 0), none⟩,
 ⟨some 10, MOp.len (Opd.s 9), none⟩,
 ⟨some 11, MOp.mv (Opd.c (AV.int .i64 0)), none⟩]).seq
 (MC.block 0
 (MC.loop M45b1l M45b1))).seq
 ((MC.reg
 [⟨some 23, MOp.mv (Opd.s 3), none⟩,
 ⟨some 24, MOp.call 50 [(1, Opd.c AV.nils), (0, Opd.s 23)], none⟩,
 ⟨some 6, MOp.mv (Opd.s 24), none⟩]).seq
 (((MC.reg
 [⟨some 25, MOp.mv (Opd.s 0), none⟩,
 ⟨some 26, MOp.len (Opd.s 25), none⟩,
 ⟨some 27, MOp.mv (Opd.c (AV.int .i64 0)), none⟩]).seq
 (MC.block 2
 (MC.loop M45b0l M45b0))).seq
 ((MC.reg
 [⟨some 35, MOp.mv (Opd.s 6), none⟩,
 ⟨some 2, MOp.mv (Opd.s 35), none⟩]).seq
 MC.ret))))) ⟩
theorem tab7 : tableOf Try.prog 7 = some M7 := by kernel_rfl
theorem tab14 : tableOf Try.prog 14 = some M14 := by kernel_rfl
theorem tab15 : tableOf Try.prog 15 = some M15 := by kernel_rfl
theorem tab29 : tableOf Try.prog 29 = some M29 := by kernel_rfl
theorem tab30 : tableOf Try.prog 30 = some M30 := by kernel_rfl
theorem tab31 : tableOf Try.prog 31 = some M31 := by kernel_rfl
theorem tab32 : tableOf Try.prog 32 = some M32 := by kernel_rfl
theorem tab33 : tableOf Try.prog 33 = some M33 := by kernel_rfl
theorem tab34 : tableOf Try.prog 34 = some M34 := by kernel_rfl
theorem tab44 : tableOf Try.prog 44 = some M44 := by kernel_rfl
theorem tab45 : tableOf Try.prog 45 = some M45 := by kernel_rfl
end Go.Proofs.Ytghfinbdgnggjaa
