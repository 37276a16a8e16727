/- Functions of the program in the evaluator's form, written out by a program. No conditions. -/
import Derived.Test.YtghfinbdgnggjaaM
set_option linter.unusedVariables false
namespace Go.Proofs.Ytghfinbdgnggjaa
open Go Go.Ab
def M4 : MFun :=
 ⟨48, [MRes.tmp 0 6], (MC.reg
 [⟨some 6, MOp.mv (Opd.c (AV.bool false)), none⟩]).seq
 ((MC.reg
 [⟨some 8, MOp.call 19 [], none⟩,
 ⟨some 7, MOp.mv (Opd.s 8), none⟩]).seq
 (((MC.reg
 [⟨some 9, MOp.mv (Opd.s 7), none⟩,
 ⟨some 10, MOp.un .not (Opd.s 9), none⟩]).seq
 (MC.cond (Opd.s 10)
 ((MC.reg
 [⟨some 6, MOp.mv (Opd.c (AV.bool false)), none⟩]).seq
 MC.ret)
 MC.skip)).seq
 ((MC.reg
 [⟨some 11, MOp.mv (Opd.s 0), none⟩,
 ⟨some 12, MOp.call 20
 [(1, Opd.s 11), (0, Opd.c (AV.int .i64 200))], none⟩,
 ⟨some 0, MOp.mv (Opd.s 12), none⟩]).seq
 ((MC.draw
 [⟨some 13, MOp.mv (Opd.s 0), none⟩,
 ⟨some 14, MOp.call 21 [(1, Opd.s 13)], none⟩,
 ⟨some 15, MOp.mv (Opd.s 0), none⟩,
 ⟨some 16, MOp.call 22 [(1, Opd.s 15)], none⟩,
 ⟨some 17, MOp.bin .eql (Opd.s 14) (Opd.s 16), none⟩,
 ⟨some 18, MOp.mv (Opd.s 17), none⟩,
 ⟨some 19, MOp.mv (Opd.s 1), some (18, true)⟩,
 ⟨some 20, MOp.mv (Opd.s 2), some (18, true)⟩,
 ⟨some 21, MOp.call 23 [(0, Opd.s 19), (0, Opd.s 20)], some (18, true)⟩,
 ⟨some 22, MOp.mv (Opd.s 1), some (18, true)⟩,
 ⟨some 23, MOp.mv (Opd.s 2), some (18, true)⟩,
 ⟨some 24, MOp.call 24 [(0, Opd.s 22), (0, Opd.s 23)], some (18, true)⟩,
 ⟨some 25, MOp.bin .eql (Opd.s 21) (Opd.s 24), some (18, true)⟩,
 ⟨some 26, MOp.pick (Opd.s 18) (Opd.s 25) (Opd.c (AV.bool false)), none⟩,
 ⟨some 27, MOp.mv (Opd.s 26), none⟩,
 ⟨some 28, MOp.mv (Opd.s 0), some (27, true)⟩,
 ⟨some 29, MOp.call 25 [(1, Opd.s 28)], some (27, true)⟩,
 ⟨some 30, MOp.conv Cv.b2s (Opd.s 29), some (27, true)⟩,
 ⟨some 31, MOp.mv (Opd.s 0), some (27, true)⟩,
 ⟨some 32, MOp.call 26 [(1, Opd.s 31)], some (27, true)⟩,
 ⟨some 33, MOp.conv Cv.b2s (Opd.s 32), some (27, true)⟩,
 ⟨some 34, MOp.bin .eql (Opd.s 30) (Opd.s 33), some (27, true)⟩,
 ⟨some 35, MOp.pick (Opd.s 27) (Opd.s 34) (Opd.c (AV.bool false)), none⟩,
 ⟨some 36, MOp.mv (Opd.s 35), none⟩,
 ⟨some 37, MOp.mv (Opd.s 0), some (36, true)⟩,
 ⟨some 38, MOp.call 25 [(1, Opd.s 37)], some (36, true)⟩,
 ⟨some 39, MOp.call 27 [(1, Opd.s 38)], some (36, true)⟩,
 ⟨some 40, MOp.pick (Opd.s 36) (Opd.s 39) (Opd.c (AV.bool false)), none⟩,
 ⟨some 41, MOp.mv (Opd.s 40), none⟩,
 ⟨some 42, MOp.mv (Opd.s 0), some (41, true)⟩,
 ⟨some 43, MOp.call 27 [(1, Opd.s 42)], some (41, true)⟩,
 ⟨some 44, MOp.mv (Opd.s 0), some (41, true)⟩,
 ⟨some 45, MOp.call 28 [(1, Opd.s 44)], some (41, true)⟩,
 ⟨some 46, MOp.eqv false (EqK.flat (EqF.one SK.b)) (Opd.s 43)
 (Opd.s 45), some (41, true)⟩,
 ⟨some 47, MOp.pick (Opd.s 41) (Opd.s 46) (Opd.c (AV.bool false)), none⟩,
 ⟨some 6, MOp.mv (Opd.s 47), none⟩]
 [0, 1, 0, 7, 15, 31, 63, 63, 255, 63, 63, 2047, 4095, 8191, 16383, 32767, 65535, 131071, 32767,
 393215, 917503, 2097151, 4194303, 8388607, 16777215, 33554431, 67108863, 134217727, 268435455,
 536870911, 1073741823, 536870911, 4294967295, 8589934591, 17179869183, 34359738367]).seq
 MC.ret)))) ⟩
def M5b0 : MC :=
 (((MC.reg
 [⟨some 34, MOp.mv (Opd.s 11), none⟩,
 ⟨some 35, MOp.bin .lss (Opd.s 34)
 (Opd.c (AV.int .i64 16)), none⟩]).seq
 (MC.cond (Opd.s 35) MC.skip (MC.exit 0))).seq
 ((MC.block 1
 ((MC.reg
 [⟨some 38, MOp.mv (Opd.s 2), none⟩,
 ⟨some 39, MOp.mv (Opd.s 11), none⟩,
 ⟨some 40, MOp.bin .shr (Opd.s 38) (Opd.s 39), none⟩,
 ⟨some 41, MOp.bin .and (Opd.s 40)
 (Opd.c (AV.int .u16 1)), none⟩,
 ⟨some 42, MOp.bin .eql (Opd.s 41)
 (Opd.c (AV.int .u16 1)), none⟩]).seq
 (MC.cond (Opd.s 42)
 (MC.draw
 [⟨some 43, MOp.mv (Opd.s 10), none⟩,
 ⟨some 44, MOp.mv (Opd.s 9), none⟩,
 ⟨some 45, MOp.mv (Opd.s 11), none⟩,
 ⟨some 46, MOp.bin .add (Opd.s 44) (Opd.s 45), none⟩,
 ⟨some 47, MOp.bin .quo (Opd.s 46)
 (Opd.c (AV.int .i64 8)), none⟩,
 ⟨some 48, MOp.ixa 1 (Opd.s 43) (Opd.s 47), none⟩,
 ⟨some 49, MOp.load none (Opd.s 48), none⟩,
 ⟨some 50, MOp.mv (Opd.s 9), none⟩,
 ⟨some 51, MOp.mv (Opd.s 11), none⟩,
 ⟨some 52, MOp.bin .add (Opd.s 50) (Opd.s 51), none⟩,
 ⟨some 53, MOp.bin .rem (Opd.s 52)
 (Opd.c (AV.int .i64 8)), none⟩,
 ⟨some 54, MOp.bin .shl
 (Opd.c (AV.int .u8 1))
 (Opd.s 53), none⟩,
 ⟨some 55, MOp.bin .xor (Opd.s 49) (Opd.s 54), none⟩,
 ⟨some 56, MOp.ixa 1 (Opd.s 43) (Opd.s 47), none⟩,
 ⟨none, MOp.store 1 (Opd.s 56) (Opd.s 55), none⟩]
 [0, 0, 0, 6, 14, 31, 63, 0, 0, 384, 896, 1920, 4095, 8191, 16383])
 MC.skip))).seq
 (MC.reg
 [⟨some 36, MOp.mv (Opd.s 11), none⟩,
 ⟨some 37, MOp.bin .add (Opd.s 36)
 (Opd.c (AV.int .i64 1)), none⟩,
 ⟨some 11, MOp.mv (Opd.s 37), none⟩])))
def M5b0l : List Bool := [false, false, true, false, false, false, false, false, false, true, true, true, false, false, false, false, false, false, false, false, false, false, false, false, false, false, false, false, false, false, false, false, false, false, false, false, false, false, false, false, false, false, false, false, false, false, false, false, false, false, false, false, false, false, false, false, false, false, false, false]
def M5 : MFun :=
 ⟨60, [MRes.tmp 0 6], (MC.reg
 [⟨some 6, MOp.mv (Opd.c (AV.bool false)), none⟩]).seq
 ((MC.reg
 [⟨some 12, MOp.call 19 [], none⟩,
 ⟨some 7, MOp.mv (Opd.s 12), none⟩]).seq
 (((MC.reg
 [⟨some 13, MOp.mv (Opd.s 7), none⟩,
 ⟨some 14, MOp.un .not (Opd.s 13), none⟩]).seq
 (MC.cond (Opd.s 14)
 ((MC.reg
 [⟨some 6, MOp.mv (Opd.c (AV.bool false)), none⟩]).seq
 MC.ret)
 MC.skip)).seq
 ((MC.reg
 [⟨some 15, MOp.mv (Opd.s 0), none⟩,
 ⟨some 16, MOp.call 20
 [(1, Opd.s 15), (0, Opd.c (AV.int .i64 100))], none⟩,
 ⟨some 17, MOp.call 25 [(1, Opd.s 16)], none⟩,
 ⟨some 8, MOp.mv (Opd.s 17), none⟩]).seq
 (((MC.reg
 [⟨some 18, MOp.mv (Opd.s 1), none⟩,
 ⟨some 19, MOp.bin .lss (Opd.s 18)
 (Opd.c (AV.int .i64 0)), none⟩,
 ⟨some 20, MOp.mv (Opd.s 19), none⟩,
 ⟨some 21, MOp.mv (Opd.s 2), some (20, false)⟩,
 ⟨some 22, MOp.bin .eql (Opd.s 21)
 (Opd.c (AV.int .u16 0)), some (20, false)⟩,
 ⟨some 23, MOp.pick (Opd.s 20) (Opd.c (AV.bool true)) (Opd.s 22), none⟩]).seq
 (MC.cond (Opd.s 23)
 ((MC.reg
 [⟨some 24, MOp.mv (Opd.s 8), none⟩,
 ⟨some 25, MOp.call 27 [(1, Opd.s 24)], none⟩,
 ⟨some 6, MOp.mv (Opd.s 25), none⟩]).seq
 MC.ret)
 MC.skip)).seq
 ((MC.reg
 [⟨some 26, MOp.mv (Opd.s 1), none⟩,
 ⟨some 27, MOp.mv (Opd.s 8), none⟩,
 ⟨some 28, MOp.len (Opd.s 27), none⟩,
 ⟨some 29, MOp.bin .mul (Opd.s 28)
 (Opd.c (AV.int .i64 8)), none⟩,
 ⟨some 30, MOp.bin .sub (Opd.s 29)
 (Opd.c (AV.int .i64 15)), none⟩,
 ⟨some 31, MOp.bin .rem (Opd.s 26) (Opd.s 30), none⟩,
 ⟨some 9, MOp.mv (Opd.s 31), none⟩]).seq
 ((MC.reg
 [⟨some 32, MOp.mv (Opd.s 8), none⟩,
 ⟨some 33, MOp.app true 1 1 (Opd.c AV.nils) (Opd.s 32), none⟩,
 ⟨some 10, MOp.mv (Opd.s 33), none⟩]).seq
 (((MC.reg
 [⟨some 11, MOp.mv (Opd.c (AV.int .i64 0)), none⟩]).seq
 (MC.block 0
 (MC.loop M5b0l M5b0))).seq
 ((MC.reg
 [⟨some 57, MOp.mv (Opd.s 10), none⟩,
 ⟨some 58, MOp.call 27 [(1, Opd.s 57)], none⟩,
 ⟨some 59, MOp.un .not (Opd.s 58), none⟩,
 ⟨some 6, MOp.mv (Opd.s 59), none⟩]).seq
 MC.ret)))))))) ⟩
def M6b0 : MC :=
 ((MC.reg
 [⟨some 21, MOp.bin .lss (Opd.s 20) (Opd.s 19), none⟩]).seq
 ((MC.cond (Opd.s 21) MC.skip (MC.exit 0)).seq
 ((MC.block 1
 ((MC.reg
 [⟨some 22, MOp.mv (Opd.s 20), none⟩,
 ⟨some 7, MOp.mv (Opd.s 22), none⟩]).seq
 (MC.reg
 [⟨some 23, MOp.mv (Opd.s 6), none⟩,
 ⟨some 24, MOp.mv (Opd.s 1), none⟩,
 ⟨some 25, MOp.mv (Opd.s 7), none⟩,
 ⟨some 26, MOp.ixa 1 (Opd.s 24) (Opd.s 25), none⟩,
 ⟨some 27, MOp.load none (Opd.s 26), none⟩,
 ⟨some 28, MOp.call 23 [(0, Opd.s 23), (0, Opd.s 27)], none⟩,
 ⟨some 6, MOp.mv (Opd.s 28), none⟩]))).seq
 (MC.reg
 [⟨some 29, MOp.bin .add (Opd.s 20)
 (Opd.c (AV.int .i64 1)), none⟩,
 ⟨some 20, MOp.mv (Opd.s 29), none⟩]))))
def M6b0l : List Bool := [true, true, false, false, false, false, true, false, false, false, false, false, false, false, false, false, false, false, false, true, true, false, false, false, false, false, false, false, false, false, false, false, false, false, false, false, false, false]
def M6 : MFun :=
 ⟨38, [MRes.tmp 0 4], (MC.reg
 [⟨some 4, MOp.mv (Opd.c (AV.bool false)), none⟩]).seq
 ((MC.reg
 [⟨some 8, MOp.call 19 [], none⟩,
 ⟨some 5, MOp.mv (Opd.s 8), none⟩]).seq
 (((MC.reg
 [⟨some 9, MOp.mv (Opd.s 5), none⟩,
 ⟨some 10, MOp.un .not (Opd.s 9), none⟩]).seq
 (MC.cond (Opd.s 10)
 ((MC.reg
 [⟨some 4, MOp.mv (Opd.c (AV.bool false)), none⟩]).seq
 MC.ret)
 MC.skip)).seq
 ((MC.reg
 [⟨some 11, MOp.mv (Opd.s 0), none⟩,
 ⟨some 12, MOp.call 20
 [(1, Opd.s 11), (0, Opd.c (AV.int .i64 60))], none⟩,
 ⟨some 13, MOp.mv (Opd.s 1), none⟩,
 ⟨some 14, MOp.call 20
 [(1, Opd.s 13), (0, Opd.c (AV.int .i64 60))], none⟩,
 ⟨some 0, MOp.mv (Opd.s 12), none⟩,
 ⟨some 1, MOp.mv (Opd.s 14), none⟩]).seq
 ((MC.reg
 [⟨some 15, MOp.mv (Opd.s 0), none⟩,
 ⟨some 16, MOp.call 21 [(1, Opd.s 15)], none⟩,
 ⟨some 17, MOp.un .xor (Opd.s 16), none⟩,
 ⟨some 6, MOp.mv (Opd.s 17), none⟩]).seq
 (((MC.reg
 [⟨some 18, MOp.mv (Opd.s 1), none⟩,
 ⟨some 19, MOp.len (Opd.s 18), none⟩,
 ⟨some 20, MOp.mv (Opd.c (AV.int .i64 0)), none⟩]).seq
 (MC.block 0
 (MC.loop M6b0l M6b0))).seq
 ((MC.reg
 [⟨some 30, MOp.mv (Opd.s 6), none⟩,
 ⟨some 31, MOp.un .xor (Opd.s 30), none⟩,
 ⟨some 32, MOp.mv (Opd.s 0), none⟩,
 ⟨some 33, MOp.app false 1 1 (Opd.c AV.nils) (Opd.s 32), none⟩,
 ⟨some 34, MOp.mv (Opd.s 1), none⟩,
 ⟨some 35, MOp.app false 1 1 (Opd.s 33) (Opd.s 34), none⟩,
 ⟨some 36, MOp.call 21 [(1, Opd.s 35)], none⟩,
 ⟨some 37, MOp.bin .eql (Opd.s 31) (Opd.s 36), none⟩,
 ⟨some 4, MOp.mv (Opd.s 37), none⟩]).seq
 MC.ret)))))) ⟩
def M12 : MFun :=
 ⟨76, [MRes.tmp 0 6], (MC.reg
 [⟨some 6, MOp.mv (Opd.c (AV.bool false)), none⟩]).seq
 ((MC.reg
 [⟨some 10, MOp.call 19 [], none⟩,
 ⟨some 7, MOp.mv (Opd.s 10), none⟩]).seq
 (((MC.reg
 [⟨some 11, MOp.mv (Opd.s 7), none⟩,
 ⟨some 12, MOp.un .not (Opd.s 11), none⟩]).seq
 (MC.cond (Opd.s 12)
 ((MC.reg
 [⟨some 6, MOp.mv (Opd.c (AV.bool false)), none⟩]).seq
 MC.ret)
 MC.skip)).seq
 ((MC.reg
 [⟨some 13, MOp.mv (Opd.s 0), none⟩,
 ⟨some 14, MOp.call 20
 [(1, Opd.s 13), (0, Opd.c (AV.int .i64 60))], none⟩,
 ⟨some 0, MOp.mv (Opd.s 14), none⟩]).seq
 (((MC.reg
 [⟨some 15, MOp.mv (Opd.s 0), none⟩,
 ⟨some 16, MOp.len (Opd.s 15), none⟩,
 ⟨some 17, MOp.bin .eql (Opd.s 16)
 (Opd.c (AV.int .i64 0)), none⟩,
 ⟨some 18, MOp.mv (Opd.s 17), none⟩,
 ⟨some 19, MOp.mv (Opd.s 1), some (18, false)⟩,
 ⟨some 20, MOp.bin .lss (Opd.s 19)
 (Opd.c (AV.int .i64 0)), some (18, false)⟩,
 ⟨some 21, MOp.pick (Opd.s 18) (Opd.c (AV.bool true)) (Opd.s 20), none⟩,
 ⟨some 22, MOp.mv (Opd.s 21), none⟩,
 ⟨some 23, MOp.mv (Opd.s 2), some (22, false)⟩,
 ⟨some 24, MOp.bin .lss (Opd.s 23)
 (Opd.c (AV.int .i64 0)), some (22, false)⟩,
 ⟨some 25, MOp.pick (Opd.s 22) (Opd.c (AV.bool true)) (Opd.s 24), none⟩]).seq
 (MC.cond (Opd.s 25)
 ((MC.reg
 [⟨some 6, MOp.mv (Opd.c (AV.bool true)), none⟩]).seq
 MC.ret)
 MC.skip)).seq
 ((MC.draw
 [⟨some 26, MOp.mv (Opd.s 1), none⟩,
 ⟨some 27, MOp.mv (Opd.s 0), none⟩,
 ⟨some 28, MOp.len (Opd.s 27), none⟩,
 ⟨some 29, MOp.bin .mul (Opd.s 28)
 (Opd.c (AV.int .i64 8)), none⟩,
 ⟨some 30, MOp.bin .rem (Opd.s 26) (Opd.s 29), none⟩,
 ⟨some 31, MOp.mv (Opd.s 2), none⟩,
 ⟨some 32, MOp.mv (Opd.s 0), none⟩,
 ⟨some 33, MOp.len (Opd.s 32), none⟩,
 ⟨some 34, MOp.bin .mul (Opd.s 33)
 (Opd.c (AV.int .i64 8)), none⟩,
 ⟨some 35, MOp.bin .rem (Opd.s 31) (Opd.s 34), none⟩,
 ⟨some 1, MOp.mv (Opd.s 30), none⟩,
 ⟨some 2, MOp.mv (Opd.s 35), none⟩]
 [0, 0, 2, 6, 15, 0, 0, 64, 192, 480, 31, 2047]).seq
 ((MC.reg
 [⟨some 36, MOp.mv (Opd.s 0), none⟩,
 ⟨some 37, MOp.app true 1 1 (Opd.c AV.nils) (Opd.s 36), none⟩,
 ⟨some 38, MOp.mv (Opd.s 0), none⟩,
 ⟨some 39, MOp.app true 1 1 (Opd.c AV.nils) (Opd.s 38), none⟩,
 ⟨some 8, MOp.mv (Opd.s 37), none⟩,
 ⟨some 9, MOp.mv (Opd.s 39), none⟩]).seq
 ((MC.draw
 [⟨some 40, MOp.mv (Opd.s 8), none⟩,
 ⟨some 41, MOp.mv (Opd.s 1), none⟩,
 ⟨some 42, MOp.bin .quo (Opd.s 41)
 (Opd.c (AV.int .i64 8)), none⟩,
 ⟨some 43, MOp.ixa 1 (Opd.s 40) (Opd.s 42), none⟩,
 ⟨some 44, MOp.load none (Opd.s 43), none⟩,
 ⟨some 45, MOp.mv (Opd.s 1), none⟩,
 ⟨some 46, MOp.bin .rem (Opd.s 45)
 (Opd.c (AV.int .i64 8)), none⟩,
 ⟨some 47, MOp.bin .shl (Opd.c (AV.int .u8 1))
 (Opd.s 46), none⟩,
 ⟨some 48, MOp.bin .xor (Opd.s 44) (Opd.s 47), none⟩,
 ⟨some 49, MOp.ixa 1 (Opd.s 40) (Opd.s 42), none⟩,
 ⟨none, MOp.store 1 (Opd.s 49) (Opd.s 48), none⟩]
 [0, 0, 2, 7, 15, 0, 32, 96, 255, 511, 1023]).seq
 ((MC.draw
 [⟨some 50, MOp.mv (Opd.s 9), none⟩,
 ⟨some 51, MOp.mv (Opd.s 2), none⟩,
 ⟨some 52, MOp.bin .quo (Opd.s 51)
 (Opd.c (AV.int .i64 8)), none⟩,
 ⟨some 53, MOp.ixa 1 (Opd.s 50) (Opd.s 52), none⟩,
 ⟨some 54, MOp.load none (Opd.s 53), none⟩,
 ⟨some 55, MOp.mv (Opd.s 2), none⟩,
 ⟨some 56, MOp.bin .rem (Opd.s 55)
 (Opd.c (AV.int .i64 8)), none⟩,
 ⟨some 57, MOp.bin .shl (Opd.c (AV.int .u8 1))
 (Opd.s 56), none⟩,
 ⟨some 58, MOp.bin .xor (Opd.s 54) (Opd.s 57), none⟩,
 ⟨some 59, MOp.ixa 1 (Opd.s 50) (Opd.s 52), none⟩,
 ⟨none, MOp.store 1 (Opd.s 59) (Opd.s 58), none⟩]
 [0, 0, 2, 7, 15, 0, 32, 96, 255, 511, 1023]).seq
 ((MC.reg
 [⟨some 60, MOp.mv (Opd.s 8), none⟩,
 ⟨some 61, MOp.call 21 [(1, Opd.s 60)], none⟩,
 ⟨some 62, MOp.mv (Opd.s 0), none⟩,
 ⟨some 63, MOp.call 21 [(1, Opd.s 62)], none⟩,
 ⟨some 64, MOp.bin .neq (Opd.s 61) (Opd.s 63), none⟩,
 ⟨some 65, MOp.mv (Opd.s 64), none⟩,
 ⟨some 66, MOp.mv (Opd.s 8), some (65, true)⟩,
 ⟨some 67, MOp.call 21 [(1, Opd.s 66)], some (65, true)⟩,
 ⟨some 68, MOp.mv (Opd.s 9), some (65, true)⟩,
 ⟨some 69, MOp.call 21 [(1, Opd.s 68)], some (65, true)⟩,
 ⟨some 70, MOp.bin .eql (Opd.s 67) (Opd.s 69), some (65, true)⟩,
 ⟨some 71, MOp.mv (Opd.s 1), some (65, true)⟩,
 ⟨some 72, MOp.mv (Opd.s 2), some (65, true)⟩,
 ⟨some 73, MOp.bin .eql (Opd.s 71) (Opd.s 72), some (65, true)⟩,
 ⟨some 74, MOp.eqv false (EqK.flat (EqF.one SK.b))
 (Opd.s 70) (Opd.s 73), some (65, true)⟩,
 ⟨some 75, MOp.pick (Opd.s 65) (Opd.s 74)
 (Opd.c (AV.bool false)), none⟩,
 ⟨some 6, MOp.mv (Opd.s 75), none⟩]).seq
 MC.ret))))))))) ⟩
def M13 : MFun :=
 ⟨48, [MRes.tmp 0 2], (MC.reg
 [⟨some 2, MOp.mv (Opd.c (AV.bool false)), none⟩]).seq
 ((MC.reg
 [⟨some 7, MOp.call 19 [], none⟩,
 ⟨some 3, MOp.mv (Opd.s 7), none⟩]).seq
 (((MC.reg
 [⟨some 8, MOp.mv (Opd.s 3), none⟩,
 ⟨some 9, MOp.un .not (Opd.s 8), none⟩]).seq
 (MC.cond (Opd.s 9)
 ((MC.reg
 [⟨some 2, MOp.mv (Opd.c (AV.bool false)), none⟩]).seq
 MC.ret)
 MC.skip)).seq
 ((MC.reg
 [⟨some 10, MOp.mv (Opd.s 0), none⟩,
 ⟨some 11, MOp.call 20
 [(1, Opd.s 10), (0, Opd.c (AV.int .i64 60))], none⟩,
 ⟨some 0, MOp.mv (Opd.s 11), none⟩]).seq
 ((MC.reg
 [⟨some 12, MOp.bsl false 1 1 [AV.int .u8 0]
 [(0, 1, Opd.c (AV.int .u8 0))], none⟩,
 ⟨some 13, MOp.mv (Opd.s 0), none⟩,
 ⟨some 14, MOp.app false 1 1 (Opd.s 12) (Opd.s 13), none⟩,
 ⟨some 15, MOp.mv (Opd.s 0), none⟩,
 ⟨some 16, MOp.app false 1 1 (Opd.c AV.nils) (Opd.s 15), none⟩,
 ⟨some 17, MOp.bsl false 1 1 [AV.int .u8 0]
 [(0, 1, Opd.c (AV.int .u8 0))], none⟩,
 ⟨some 18, MOp.app false 1 1 (Opd.s 16) (Opd.s 17), none⟩,
 ⟨some 4, MOp.mv (Opd.s 14), none⟩,
 ⟨some 5, MOp.mv (Opd.s 18), none⟩]).seq
 ((MC.reg
 [⟨some 19, MOp.mv (Opd.s 0), none⟩,
 ⟨some 20, MOp.call 25 [(1, Opd.s 19)], none⟩,
 ⟨some 6, MOp.mv (Opd.s 20), none⟩]).seq
 ((MC.reg
 [⟨some 21, MOp.mv (Opd.s 6), none⟩,
 ⟨some 22, MOp.call 27 [(1, Opd.s 21)], none⟩,
 ⟨some 23, MOp.mv (Opd.s 22), none⟩,
 ⟨some 24, MOp.mv (Opd.s 6), some (23, true)⟩,
 ⟨some 25, MOp.len (Opd.s 24), some (23, true)⟩,
 ⟨some 26, MOp.mv (Opd.s 0), some (23, true)⟩,
 ⟨some 27, MOp.len (Opd.s 26), some (23, true)⟩,
 ⟨some 28, MOp.bin .add (Opd.s 27)
 (Opd.c (AV.int .i64 2)), some (23, true)⟩,
 ⟨some 29, MOp.bin .eql (Opd.s 25) (Opd.s 28), some (23, true)⟩,
 ⟨some 30, MOp.pick (Opd.s 23) (Opd.s 29) (Opd.c (AV.bool false)), none⟩,
 ⟨some 31, MOp.mv (Opd.s 30), none⟩,
 ⟨some 32, MOp.mv (Opd.s 5), some (31, true)⟩,
 ⟨some 33, MOp.call 21 [(1, Opd.s 32)], some (31, true)⟩,
 ⟨some 34, MOp.mv (Opd.s 0), some (31, true)⟩,
 ⟨some 35, MOp.call 21 [(1, Opd.s 34)], some (31, true)⟩,
 ⟨some 36, MOp.un .xor (Opd.s 35), some (31, true)⟩,
 ⟨some 37, MOp.call 23
 [(0, Opd.s 36), (0, Opd.c (AV.int .u8 0))], some (31, true)⟩,
 ⟨some 38, MOp.un .xor (Opd.s 37), some (31, true)⟩,
 ⟨some 39, MOp.bin .eql (Opd.s 33) (Opd.s 38), some (31, true)⟩,
 ⟨some 40, MOp.pick (Opd.s 31) (Opd.s 39) (Opd.c (AV.bool false)), none⟩,
 ⟨some 41, MOp.mv (Opd.s 40), none⟩,
 ⟨some 42, MOp.mv (Opd.s 4), some (41, true)⟩,
 ⟨some 43, MOp.call 21 [(1, Opd.s 42)], some (41, true)⟩,
 ⟨some 44, MOp.mv (Opd.s 4), some (41, true)⟩,
 ⟨some 45, MOp.call 22 [(1, Opd.s 44)], some (41, true)⟩,
 ⟨some 46, MOp.bin .eql (Opd.s 43) (Opd.s 45), some (41, true)⟩,
 ⟨some 47, MOp.pick (Opd.s 41) (Opd.s 46) (Opd.c (AV.bool false)), none⟩,
 ⟨some 2, MOp.mv (Opd.s 47), none⟩]).seq
 MC.ret)))))) ⟩
theorem tab4 : tableOf Try.prog 4 = some M4 := by kernel_rfl
theorem tab5 : tableOf Try.prog 5 = some M5 := by kernel_rfl
theorem tab6 : tableOf Try.prog 6 = some M6 := by kernel_rfl
theorem tab12 : tableOf Try.prog 12 = some M12 := by kernel_rfl
theorem tab13 : tableOf Try.prog 13 = some M13 := by kernel_rfl
end Go.Proofs.Ytghfinbdgnggjaa
