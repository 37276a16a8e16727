/- Functions of the program in the evaluator's form, written out by a program. No conditions. -/
import Derived.Test.YtbeimfhodgmjhaaDoorM8
set_option linter.unusedVariables false
namespace Go.Proofs.YtbeimfhodgmjhaaDoor
open Go Go.Ab
def M54 : MFun :=
 ⟨40, [MRes.tmp 0 2, MRes.tmp 0 3], (MC.reg
 [⟨some 1, MOp.box (Opd.s 0), none⟩,
 ⟨some 2, MOp.mv (Opd.c (AV.str [])), none⟩,
 ⟨some 3, MOp.mv (Opd.c (AV.bool false)), none⟩]).seq
 ((MC.reg
 [⟨some 8, MOp.fa 4 (Opd.s 1), none⟩,
 ⟨some 9, MOp.load (some 5) (Opd.s 8), none⟩,
 ⟨some 10, MOp.call 23 [(0, Opd.s 9)], none⟩,
 ⟨some 7, MOp.mv (Opd.s 10), none⟩,
 ⟨some 11, MOp.ext 0 (Opd.s 7), none⟩,
 ⟨some 12, MOp.ext 1 (Opd.s 7), none⟩,
 ⟨some 4, MOp.mv (Opd.s 11), none⟩,
 ⟨some 5, MOp.mv (Opd.s 12), none⟩]).seq
 (((MC.reg
 [⟨some 13, MOp.mv (Opd.s 5), none⟩,
 ⟨some 14, MOp.un .not (Opd.s 13), none⟩,
 ⟨some 15, MOp.mv (Opd.s 14), none⟩,
 ⟨some 16, MOp.load (some 9) (Opd.s 1), some (15, false)⟩,
 ⟨some 17, MOp.call 82 [(0, Opd.s 16)], some (15, false)⟩,
 ⟨some 18, MOp.un .not (Opd.s 17), some (15, false)⟩,
 ⟨some 19, MOp.pick (Opd.s 15) (Opd.c (AV.bool true)) (Opd.s 18), none⟩]).seq
 (MC.cond (Opd.s 19)
 ((MC.reg
 [⟨some 2, MOp.mv (Opd.c (AV.str [])), none⟩,
 ⟨some 3, MOp.mv (Opd.c (AV.bool false)), none⟩]).seq
 MC.ret)
 MC.skip)).seq
 ((MC.draw
 [⟨some 20, MOp.fa 0 (Opd.s 1), none⟩,
 ⟨some 21, MOp.load none (Opd.s 20), none⟩,
 ⟨some 22, MOp.call 83 [(1, Opd.c AV.nils), (0, Opd.s 21)], none⟩,
 ⟨some 23, MOp.fa 1 (Opd.s 1), none⟩,
 ⟨some 24, MOp.load none (Opd.s 23), none⟩,
 ⟨some 25, MOp.call 83 [(1, Opd.s 22), (0, Opd.s 24)], none⟩,
 ⟨some 6, MOp.mv (Opd.s 25), none⟩]
 [0, 1, 3, 0, 8, 31, 63]).seq
 ((MC.reg
 [⟨some 26, MOp.mv (Opd.s 6), none⟩,
 ⟨some 27, MOp.fa 2 (Opd.s 1), none⟩,
 ⟨some 28, MOp.fa 0 (Opd.s 27), none⟩,
 ⟨some 29, MOp.load none (Opd.s 28), none⟩,
 ⟨some 30, MOp.conv (Cv.toInt .u8) (Opd.s 29), none⟩,
 ⟨some 31, MOp.fa 2 (Opd.s 1), none⟩,
 ⟨some 32, MOp.fa 1 (Opd.s 31), none⟩,
 ⟨some 33, MOp.load none (Opd.s 32), none⟩,
 ⟨some 34, MOp.conv (Cv.toInt .u8) (Opd.s 33), none⟩,
 ⟨some 35, MOp.bsl false 1 2
 [AV.int .u8 0, AV.int .u8 0]
 [(0, 1, Opd.s 30), (1, 1, Opd.s 34)], none⟩,
 ⟨some 36, MOp.app false 1 1 (Opd.s 26) (Opd.s 35), none⟩,
 ⟨some 37, MOp.conv Cv.b2s (Opd.s 36), none⟩,
 ⟨some 38, MOp.mv (Opd.s 4), none⟩,
 ⟨some 39, MOp.bin .add (Opd.s 37) (Opd.s 38), none⟩,
 ⟨some 2, MOp.mv (Opd.s 39), none⟩,
 ⟨some 3, MOp.mv (Opd.c (AV.bool true)), none⟩]).seq
 MC.ret)))) ⟩
def M55 : MFun :=
 ⟨35, [MRes.tmp 0 2, MRes.tmp 0 3], (MC.reg
 [⟨some 1, MOp.box (Opd.s 0), none⟩,
 ⟨some 2, MOp.mv (Opd.c (AV.str [])), none⟩,
 ⟨some 3, MOp.mv (Opd.c (AV.bool false)), none⟩]).seq
 (((MC.reg
 [⟨some 6, MOp.load (some 9) (Opd.s 1), none⟩,
 ⟨some 7, MOp.call 84 [(0, Opd.s 6)], none⟩,
 ⟨some 8, MOp.un .not (Opd.s 7), none⟩]).seq
 (MC.cond (Opd.s 8)
 ((MC.reg
 [⟨some 2, MOp.mv (Opd.c (AV.str [])), none⟩,
 ⟨some 3, MOp.mv (Opd.c (AV.bool false)), none⟩]).seq
 MC.ret)
 MC.skip)).seq
 ((MC.reg
 [⟨some 10, MOp.fa 4 (Opd.s 1), none⟩,
 ⟨some 11, MOp.load (some 5) (Opd.s 10), none⟩,
 ⟨some 12, MOp.call 24 [(0, Opd.s 11)], none⟩,
 ⟨some 9, MOp.mv (Opd.s 12), none⟩,
 ⟨some 13, MOp.ext 0 (Opd.s 9), none⟩,
 ⟨some 14, MOp.ext 1 (Opd.s 9), none⟩,
 ⟨some 4, MOp.mv (Opd.s 13), none⟩,
 ⟨some 5, MOp.mv (Opd.s 14), none⟩]).seq
 ((MC.draw
 [⟨some 15, MOp.fa 0 (Opd.s 1), none⟩,
 ⟨some 16, MOp.load none (Opd.s 15), none⟩,
 ⟨some 17, MOp.call 75 [(0, Opd.s 16)], none⟩,
 ⟨some 18, MOp.fa 1 (Opd.s 1), none⟩,
 ⟨some 19, MOp.load none (Opd.s 18), none⟩,
 ⟨some 20, MOp.call 75 [(0, Opd.s 19)], none⟩,
 ⟨some 21, MOp.bin .add (Opd.s 17) (Opd.s 20), none⟩,
 ⟨some 22, MOp.fa 2 (Opd.s 1), none⟩,
 ⟨some 23, MOp.fa 0 (Opd.s 22), none⟩,
 ⟨some 24, MOp.load none (Opd.s 23), none⟩,
 ⟨some 25, MOp.conv (Cv.toInt .u8) (Opd.s 24), none⟩,
 ⟨some 26, MOp.fa 2 (Opd.s 1), none⟩,
 ⟨some 27, MOp.fa 1 (Opd.s 26), none⟩,
 ⟨some 28, MOp.load none (Opd.s 27), none⟩,
 ⟨some 29, MOp.conv (Cv.toInt .u8) (Opd.s 28), none⟩,
 ⟨some 30, MOp.bsi 1 2
 [AV.int .u8 0, AV.int .u8 0]
 [(0, 1, Opd.s 25), (1, 1, Opd.s 29)], none⟩,
 ⟨some 31, MOp.conv Cv.b2s (Opd.s 30), none⟩,
 ⟨some 32, MOp.bin .add (Opd.s 21) (Opd.s 31), none⟩,
 ⟨some 33, MOp.mv (Opd.s 4), none⟩,
 ⟨some 34, MOp.bin .add (Opd.s 32) (Opd.s 33), none⟩,
 ⟨some 2, MOp.mv (Opd.s 34), none⟩,
 ⟨some 3, MOp.mv (Opd.c (AV.bool true)), none⟩]
 [0, 1, 3, 0, 8, 31, 63, 0, 128, 384, 896, 0, 2048, 6144, 14336, 32640, 65408, 131071, 0, 524287,
 1048575, 2097151]).seq
 MC.ret))) ⟩
def M56 : MFun :=
 ⟨41, [MRes.cell 2 (some 9), MRes.tmp 0 3], (MC.reg
 [⟨some 2, MOp.alloc
 [AV.int .u32 0, AV.int .u32 0,
 AV.int .i64 0, AV.int .i64 0,
 AV.int .i64 0, AV.int .i64 0,
 AV.int .i64 0, AV.int .i64 0,
 AV.int .i64 0], none⟩,
 ⟨some 3, MOp.mv (Opd.c (AV.bool false)), none⟩]).seq
 (((MC.reg
 [⟨some 7, MOp.mv (Opd.s 0), none⟩,
 ⟨some 8, MOp.lens (Opd.s 7), none⟩,
 ⟨some 9, MOp.bin .lss (Opd.s 8)
 (Opd.c (AV.int .i64 10)), none⟩]).seq
 (MC.cond (Opd.s 9)
 ((MC.reg
 [⟨some 10, MOp.build
 [AV.int .u32 0, AV.int .u32 0,
 AV.int .i64 0, AV.int .i64 0,
 AV.int .i64 0, AV.int .i64 0,
 AV.int .i64 0, AV.int .i64 0,
 AV.int .i64 0]
 [], none⟩,
 ⟨none, MOp.store 9 (Opd.s 2) (Opd.s 10), none⟩,
 ⟨some 3, MOp.mv (Opd.c (AV.bool false)), none⟩]).seq
 MC.ret)
 MC.skip)).seq
 ((MC.draw
 [⟨some 11, MOp.mv (Opd.s 0), none⟩,
 ⟨some 12, MOp.call 85 [(0, Opd.s 11)], none⟩,
 ⟨some 13, MOp.mv (Opd.s 0), none⟩,
 ⟨some 14, MOp.sls (Opd.s 13)
 (some (Opd.c (AV.int .i64 4))) none, none⟩,
 ⟨some 15, MOp.call 85 [(0, Opd.s 14)], none⟩,
 ⟨some 16, MOp.mv (Opd.s 0), none⟩,
 ⟨some 17, MOp.ixs (Opd.s 16) (Opd.c (AV.int .i64 8)), none⟩,
 ⟨some 18, MOp.conv (Cv.toInt .i64) (Opd.s 17), none⟩,
 ⟨some 19, MOp.mv (Opd.s 0), none⟩,
 ⟨some 20, MOp.ixs (Opd.s 19) (Opd.c (AV.int .i64 9)), none⟩,
 ⟨some 21, MOp.conv (Cv.toInt .i64) (Opd.s 20), none⟩,
 ⟨some 22, MOp.build
 [AV.int .i64 0, AV.int .i64 0]
 [(0, 1, Opd.s 18), (1, 1, Opd.s 21)], none⟩,
 ⟨some 23, MOp.build
 [AV.int .u32 0, AV.int .u32 0,
 AV.int .i64 0, AV.int .i64 0,
 AV.int .i64 0, AV.int .i64 0,
 AV.int .i64 0, AV.int .i64 0,
 AV.int .i64 0]
 [(0, 1, Opd.s 12), (1, 1, Opd.s 15), (2, 2, Opd.s 22)], none⟩,
 ⟨some 4, MOp.alloc
 [AV.int .u32 0, AV.int .u32 0,
 AV.int .i64 0, AV.int .i64 0,
 AV.int .i64 0, AV.int .i64 0,
 AV.int .i64 0, AV.int .i64 0,
 AV.int .i64 0], none⟩,
 ⟨none, MOp.store 9 (Opd.s 4) (Opd.s 23), none⟩]
 [0, 1, 0, 4, 15, 0, 32, 96, 0, 256, 768, 2016, 4095, 0, 16383]).seq
 ((MC.reg
 [⟨some 25, MOp.mv (Opd.s 0), none⟩,
 ⟨some 26, MOp.sls (Opd.s 25)
 (some (Opd.c (AV.int .i64 10))) none, none⟩,
 ⟨some 27, MOp.call 38 [(0, Opd.s 26)], none⟩,
 ⟨some 24, MOp.mv (Opd.s 27), none⟩,
 ⟨some 28, MOp.ext 0 (Opd.s 24), none⟩,
 ⟨some 29, MOp.ext 1 (Opd.s 24), none⟩,
 ⟨some 5, MOp.alloc
 [AV.int .i64 0, AV.int .i64 0,
 AV.int .i64 0, AV.int .i64 0,
 AV.int .i64 0], none⟩,
 ⟨none, MOp.store 5 (Opd.s 5) (Opd.s 28), none⟩,
 ⟨some 6, MOp.mv (Opd.s 29), none⟩]).seq
 (((MC.reg
 [⟨some 30, MOp.mv (Opd.s 6), none⟩,
 ⟨some 31, MOp.un .not (Opd.s 30), none⟩,
 ⟨some 32, MOp.mv (Opd.s 31), none⟩,
 ⟨some 33, MOp.load (some 9) (Opd.s 4), some (32, false)⟩,
 ⟨some 34, MOp.call 82 [(0, Opd.s 33)], some (32, false)⟩,
 ⟨some 35, MOp.un .not (Opd.s 34), some (32, false)⟩,
 ⟨some 36, MOp.pick (Opd.s 32) (Opd.c (AV.bool true)) (Opd.s 35), none⟩]).seq
 (MC.cond (Opd.s 36)
 ((MC.reg
 [⟨some 37, MOp.build
 [AV.int .u32 0,
 AV.int .u32 0,
 AV.int .i64 0,
 AV.int .i64 0,
 AV.int .i64 0,
 AV.int .i64 0,
 AV.int .i64 0,
 AV.int .i64 0,
 AV.int .i64 0]
 [], none⟩,
 ⟨none, MOp.store 9 (Opd.s 2) (Opd.s 37), none⟩,
 ⟨some 3, MOp.mv (Opd.c (AV.bool false)), none⟩]).seq
 MC.ret)
 MC.skip)).seq
 ((MC.reg
 [⟨some 38, MOp.load (some 5) (Opd.s 5), none⟩,
 ⟨some 39, MOp.fa 4 (Opd.s 4), none⟩,
 ⟨none, MOp.store 5 (Opd.s 39) (Opd.s 38), none⟩]).seq
 ((MC.reg
 [⟨some 40, MOp.load (some 9) (Opd.s 4), none⟩,
 ⟨none, MOp.store 9 (Opd.s 2) (Opd.s 40), none⟩,
 ⟨some 3, MOp.mv (Opd.c (AV.bool true)), none⟩]).seq
 MC.ret)))))) ⟩
def M57 : MFun :=
 ⟨40, [MRes.cell 2 (some 9), MRes.tmp 0 3], (MC.reg
 [⟨some 2, MOp.alloc
 [AV.int .u32 0, AV.int .u32 0,
 AV.int .i64 0, AV.int .i64 0,
 AV.int .i64 0, AV.int .i64 0,
 AV.int .i64 0, AV.int .i64 0,
 AV.int .i64 0], none⟩,
 ⟨some 3, MOp.mv (Opd.c (AV.bool false)), none⟩]).seq
 (((MC.reg
 [⟨some 7, MOp.mv (Opd.s 0), none⟩,
 ⟨some 8, MOp.lens (Opd.s 7), none⟩,
 ⟨some 9, MOp.bin .lss (Opd.s 8)
 (Opd.c (AV.int .i64 10)), none⟩]).seq
 (MC.cond (Opd.s 9)
 ((MC.reg
 [⟨some 10, MOp.build
 [AV.int .u32 0, AV.int .u32 0,
 AV.int .i64 0, AV.int .i64 0,
 AV.int .i64 0, AV.int .i64 0,
 AV.int .i64 0, AV.int .i64 0,
 AV.int .i64 0]
 [], none⟩,
 ⟨none, MOp.store 9 (Opd.s 2) (Opd.s 10), none⟩,
 ⟨some 3, MOp.mv (Opd.c (AV.bool false)), none⟩]).seq
 MC.ret)
 MC.skip)).seq
 ((MC.reg
 [⟨some 12, MOp.mv (Opd.s 0), none⟩,
 ⟨some 13, MOp.sls (Opd.s 12)
 (some (Opd.c (AV.int .i64 10))) none, none⟩,
 ⟨some 14, MOp.call 39 [(0, Opd.s 13)], none⟩,
 ⟨some 11, MOp.mv (Opd.s 14), none⟩,
 ⟨some 15, MOp.ext 0 (Opd.s 11), none⟩,
 ⟨some 16, MOp.ext 1 (Opd.s 11), none⟩,
 ⟨some 4, MOp.alloc
 [AV.int .i64 0, AV.int .i64 0,
 AV.int .i64 0, AV.int .i64 0,
 AV.int .i64 0], none⟩,
 ⟨none, MOp.store 5 (Opd.s 4) (Opd.s 15), none⟩,
 ⟨some 5, MOp.mv (Opd.s 16), none⟩]).seq
 ((MC.draw
 [⟨some 17, MOp.mv (Opd.s 0), none⟩,
 ⟨some 18, MOp.call 79 [(0, Opd.s 17)], none⟩,
 ⟨some 19, MOp.mv (Opd.s 0), none⟩,
 ⟨some 20, MOp.sls (Opd.s 19)
 (some (Opd.c (AV.int .i64 4))) none, none⟩,
 ⟨some 21, MOp.call 79 [(0, Opd.s 20)], none⟩,
 ⟨some 22, MOp.mv (Opd.s 0), none⟩,
 ⟨some 23, MOp.ixs (Opd.s 22) (Opd.c (AV.int .i64 8)), none⟩,
 ⟨some 24, MOp.conv (Cv.toInt .i64) (Opd.s 23), none⟩,
 ⟨some 25, MOp.mv (Opd.s 0), none⟩,
 ⟨some 26, MOp.ixs (Opd.s 25) (Opd.c (AV.int .i64 9)), none⟩,
 ⟨some 27, MOp.conv (Cv.toInt .i64) (Opd.s 26), none⟩,
 ⟨some 28, MOp.build
 [AV.int .i64 0, AV.int .i64 0]
 [(0, 1, Opd.s 24), (1, 1, Opd.s 27)], none⟩,
 ⟨some 29, MOp.load (some 5) (Opd.s 4), none⟩,
 ⟨some 30, MOp.build
 [AV.int .u32 0, AV.int .u32 0,
 AV.int .i64 0, AV.int .i64 0,
 AV.int .i64 0, AV.int .i64 0,
 AV.int .i64 0, AV.int .i64 0,
 AV.int .i64 0]
 [(0, 1, Opd.s 18), (1, 1, Opd.s 21), (2, 2, Opd.s 28),
 (4, 5, Opd.s 29)], none⟩,
 ⟨some 6, MOp.alloc
 [AV.int .u32 0, AV.int .u32 0,
 AV.int .i64 0, AV.int .i64 0,
 AV.int .i64 0, AV.int .i64 0,
 AV.int .i64 0, AV.int .i64 0,
 AV.int .i64 0], none⟩,
 ⟨none, MOp.store 9 (Opd.s 6) (Opd.s 30), none⟩]
 [0, 1, 0, 4, 15, 0, 32, 96, 0, 256, 768, 2016, 0, 8191, 0, 32767]).seq
 (((MC.reg
 [⟨some 31, MOp.mv (Opd.s 5), none⟩,
 ⟨some 32, MOp.un .not (Opd.s 31), none⟩,
 ⟨some 33, MOp.mv (Opd.s 32), none⟩,
 ⟨some 34, MOp.load (some 9) (Opd.s 6), some (33, false)⟩,
 ⟨some 35, MOp.call 84 [(0, Opd.s 34)], some (33, false)⟩,
 ⟨some 36, MOp.un .not (Opd.s 35), some (33, false)⟩,
 ⟨some 37, MOp.pick (Opd.s 33) (Opd.c (AV.bool true)) (Opd.s 36), none⟩]).seq
 (MC.cond (Opd.s 37)
 ((MC.reg
 [⟨some 38, MOp.build
 [AV.int .u32 0,
 AV.int .u32 0,
 AV.int .i64 0,
 AV.int .i64 0,
 AV.int .i64 0,
 AV.int .i64 0,
 AV.int .i64 0,
 AV.int .i64 0,
 AV.int .i64 0]
 [], none⟩,
 ⟨none, MOp.store 9 (Opd.s 2) (Opd.s 38), none⟩,
 ⟨some 3, MOp.mv (Opd.c (AV.bool false)), none⟩]).seq
 MC.ret)
 MC.skip)).seq
 ((MC.reg
 [⟨some 39, MOp.load (some 9) (Opd.s 6), none⟩,
 ⟨none, MOp.store 9 (Opd.s 2) (Opd.s 39), none⟩,
 ⟨some 3, MOp.mv (Opd.c (AV.bool true)), none⟩]).seq
 MC.ret))))) ⟩
def M59 : MFun :=
 ⟨9, [MRes.tmp 0 2], (MC.reg
 [⟨some 2, MOp.mv (Opd.c (AV.bool false)), none⟩]).seq
 ((MC.reg
 [⟨some 3, MOp.mv (Opd.s 0), none⟩,
 ⟨some 4, MOp.bin .neq (Opd.s 3)
 (Opd.c (AV.int .u32 0)), none⟩,
 ⟨some 5, MOp.mv (Opd.s 4), none⟩,
 ⟨some 6, MOp.mv (Opd.s 0), some (5, true)⟩,
 ⟨some 7, MOp.bin .neq (Opd.s 6)
 (Opd.c (AV.int .u32 4294967295)), some (5, true)⟩,
 ⟨some 8, MOp.pick (Opd.s 5) (Opd.s 7) (Opd.c (AV.bool false)), none⟩,
 ⟨some 2, MOp.mv (Opd.s 8), none⟩]).seq
 MC.ret) ⟩
def M75 : MFun :=
 ⟨19, [MRes.tmp 0 2], (MC.reg
 [⟨some 2, MOp.mv (Opd.c (AV.str [])), none⟩]).seq
 ((MC.reg
 [⟨some 3, MOp.mv (Opd.s 0), none⟩,
 ⟨some 4, MOp.bin .rem (Opd.s 3)
 (Opd.c (AV.int .u32 256)), none⟩,
 ⟨some 5, MOp.conv (Cv.toInt .u8) (Opd.s 4), none⟩,
 ⟨some 6, MOp.mv (Opd.s 0), none⟩,
 ⟨some 7, MOp.bin .quo (Opd.s 6)
 (Opd.c (AV.int .u32 256)), none⟩,
 ⟨some 8, MOp.bin .rem (Opd.s 7)
 (Opd.c (AV.int .u32 256)), none⟩,
 ⟨some 9, MOp.conv (Cv.toInt .u8) (Opd.s 8), none⟩,
 ⟨some 10, MOp.mv (Opd.s 0), none⟩,
 ⟨some 11, MOp.bin .quo (Opd.s 10)
 (Opd.c (AV.int .u32 65536)), none⟩,
 ⟨some 12, MOp.bin .rem (Opd.s 11)
 (Opd.c (AV.int .u32 256)), none⟩,
 ⟨some 13, MOp.conv (Cv.toInt .u8) (Opd.s 12), none⟩,
 ⟨some 14, MOp.mv (Opd.s 0), none⟩,
 ⟨some 15, MOp.bin .quo (Opd.s 14)
 (Opd.c (AV.int .u32 16777216)), none⟩,
 ⟨some 16, MOp.conv (Cv.toInt .u8) (Opd.s 15), none⟩,
 ⟨some 17, MOp.bsl false 1 4
 [AV.int .u8 0, AV.int .u8 0,
 AV.int .u8 0, AV.int .u8 0]
 [(0, 1, Opd.s 5), (1, 1, Opd.s 9), (2, 1, Opd.s 13), (3, 1, Opd.s 16)], none⟩,
 ⟨some 18, MOp.conv Cv.b2s (Opd.s 17), none⟩,
 ⟨some 2, MOp.mv (Opd.s 18), none⟩]).seq
 MC.ret) ⟩
def M79 : MFun :=
 ⟨21, [MRes.tmp 0 2], (MC.reg
 [⟨some 2, MOp.mv (Opd.c (AV.int .u32 0)), none⟩]).seq
 ((MC.draw
 [⟨some 3, MOp.mv (Opd.s 0), none⟩,
 ⟨some 4, MOp.ixs (Opd.s 3) (Opd.c (AV.int .i64 0)), none⟩,
 ⟨some 5, MOp.conv (Cv.toInt .u32) (Opd.s 4), none⟩,
 ⟨some 6, MOp.mv (Opd.s 0), none⟩,
 ⟨some 7, MOp.ixs (Opd.s 6) (Opd.c (AV.int .i64 1)), none⟩,
 ⟨some 8, MOp.conv (Cv.toInt .u32) (Opd.s 7), none⟩,
 ⟨some 9, MOp.bin .mul (Opd.s 8)
 (Opd.c (AV.int .u32 256)), none⟩,
 ⟨some 10, MOp.bin .add (Opd.s 5) (Opd.s 9), none⟩,
 ⟨some 11, MOp.mv (Opd.s 0), none⟩,
 ⟨some 12, MOp.ixs (Opd.s 11) (Opd.c (AV.int .i64 2)), none⟩,
 ⟨some 13, MOp.conv (Cv.toInt .u32) (Opd.s 12), none⟩,
 ⟨some 14, MOp.bin .mul (Opd.s 13)
 (Opd.c (AV.int .u32 65536)), none⟩,
 ⟨some 15, MOp.bin .add (Opd.s 10) (Opd.s 14), none⟩,
 ⟨some 16, MOp.mv (Opd.s 0), none⟩,
 ⟨some 17, MOp.ixs (Opd.s 16) (Opd.c (AV.int .i64 3)), none⟩,
 ⟨some 18, MOp.conv (Cv.toInt .u32) (Opd.s 17), none⟩,
 ⟨some 19, MOp.bin .mul (Opd.s 18)
 (Opd.c (AV.int .u32 16777216)), none⟩,
 ⟨some 20, MOp.bin .add (Opd.s 15) (Opd.s 19), none⟩,
 ⟨some 2, MOp.mv (Opd.s 20), none⟩]
 [0, 1, 3, 0, 8, 24, 56, 127, 0, 256, 768, 1792, 4095, 0, 8192, 24576, 57344, 131071, 262143]).seq
 MC.ret) ⟩
def M82 : MFun :=
 ⟨34, [MRes.tmp 0 2], (MC.reg
 [⟨some 1, MOp.box (Opd.s 0), none⟩,
 ⟨some 2, MOp.mv (Opd.c (AV.bool false)), none⟩]).seq
 ((MC.reg
 [⟨some 4, MOp.fa 2 (Opd.s 1), none⟩,
 ⟨some 5, MOp.load (some 2) (Opd.s 4), none⟩,
 ⟨some 3, MOp.alloc
 [AV.int .i64 0, AV.int .i64 0], none⟩,
 ⟨none, MOp.store 2 (Opd.s 3) (Opd.s 5), none⟩]).seq
 ((MC.reg
 [⟨some 6, MOp.fa 0 (Opd.s 1), none⟩,
 ⟨some 7, MOp.load none (Opd.s 6), none⟩,
 ⟨some 8, MOp.call 94 [(0, Opd.s 7)], none⟩,
 ⟨some 9, MOp.mv (Opd.s 8), none⟩,
 ⟨some 10, MOp.fa 1 (Opd.s 1), some (9, true)⟩,
 ⟨some 11, MOp.load none (Opd.s 10), some (9, true)⟩,
 ⟨some 12, MOp.call 94 [(0, Opd.s 11)], some (9, true)⟩,
 ⟨some 13, MOp.pick (Opd.s 9) (Opd.s 12) (Opd.c (AV.bool false)), none⟩,
 ⟨some 14, MOp.mv (Opd.s 13), none⟩,
 ⟨some 15, MOp.fa 0 (Opd.s 3), some (14, true)⟩,
 ⟨some 16, MOp.load none (Opd.s 15), some (14, true)⟩,
 ⟨some 17, MOp.bin .geq (Opd.s 16)
 (Opd.c (AV.int .i64 0)), some (14, true)⟩,
 ⟨some 18, MOp.pick (Opd.s 14) (Opd.s 17) (Opd.c (AV.bool false)), none⟩,
 ⟨some 19, MOp.mv (Opd.s 18), none⟩,
 ⟨some 20, MOp.fa 0 (Opd.s 3), some (19, true)⟩,
 ⟨some 21, MOp.load none (Opd.s 20), some (19, true)⟩,
 ⟨some 22, MOp.bin .lss (Opd.s 21)
 (Opd.c (AV.int .i64 8)), some (19, true)⟩,
 ⟨some 23, MOp.pick (Opd.s 19) (Opd.s 22) (Opd.c (AV.bool false)), none⟩,
 ⟨some 24, MOp.mv (Opd.s 23), none⟩,
 ⟨some 25, MOp.fa 1 (Opd.s 3), some (24, true)⟩,
 ⟨some 26, MOp.load none (Opd.s 25), some (24, true)⟩,
 ⟨some 27, MOp.bin .geq (Opd.s 26)
 (Opd.c (AV.int .i64 0)), some (24, true)⟩,
 ⟨some 28, MOp.pick (Opd.s 24) (Opd.s 27) (Opd.c (AV.bool false)), none⟩,
 ⟨some 29, MOp.mv (Opd.s 28), none⟩,
 ⟨some 30, MOp.fa 1 (Opd.s 3), some (29, true)⟩,
 ⟨some 31, MOp.load none (Opd.s 30), some (29, true)⟩,
 ⟨some 32, MOp.bin .lss (Opd.s 31)
 (Opd.c (AV.int .i64 250)), some (29, true)⟩,
 ⟨some 33, MOp.pick (Opd.s 29) (Opd.s 32) (Opd.c (AV.bool false)), none⟩,
 ⟨some 2, MOp.mv (Opd.s 33), none⟩]).seq
 MC.ret)) ⟩
def M83 : MFun :=
 ⟨19, [MRes.tmp 1 4], (MC.reg
 [⟨some 4, MOp.mv (Opd.c AV.nils), none⟩]).seq
 ((MC.reg
 [⟨some 5, MOp.mv (Opd.s 0), none⟩,
 ⟨some 6, MOp.mv (Opd.s 1), none⟩,
 ⟨some 7, MOp.conv (Cv.toInt .u8) (Opd.s 6), none⟩,
 ⟨some 8, MOp.mv (Opd.s 1), none⟩,
 ⟨some 9, MOp.bin .shr (Opd.s 8)
 (Opd.c (AV.int .u64 8)), none⟩,
 ⟨some 10, MOp.conv (Cv.toInt .u8) (Opd.s 9), none⟩,
 ⟨some 11, MOp.mv (Opd.s 1), none⟩,
 ⟨some 12, MOp.bin .shr (Opd.s 11)
 (Opd.c (AV.int .u64 16)), none⟩,
 ⟨some 13, MOp.conv (Cv.toInt .u8) (Opd.s 12), none⟩,
 ⟨some 14, MOp.mv (Opd.s 1), none⟩,
 ⟨some 15, MOp.bin .shr (Opd.s 14)
 (Opd.c (AV.int .u64 24)), none⟩,
 ⟨some 16, MOp.conv (Cv.toInt .u8) (Opd.s 15), none⟩,
 ⟨some 17, MOp.bsl false 1 4
 [AV.int .u8 0, AV.int .u8 0,
 AV.int .u8 0, AV.int .u8 0]
 [(0, 1, Opd.s 7), (1, 1, Opd.s 10), (2, 1, Opd.s 13), (3, 1, Opd.s 16)], none⟩,
 ⟨some 18, MOp.app false 1 1 (Opd.s 5) (Opd.s 17), none⟩,
 ⟨some 4, MOp.mv (Opd.s 18), none⟩]).seq
 MC.ret) ⟩
def M84 : MFun :=
 ⟨40, [MRes.tmp 0 2], (MC.reg
 [⟨some 1, MOp.box (Opd.s 0), none⟩,
 ⟨some 2, MOp.mv (Opd.c (AV.bool false)), none⟩]).seq
 ((MC.reg
 [⟨some 3, MOp.fa 0 (Opd.s 1), none⟩,
 ⟨some 4, MOp.load none (Opd.s 3), none⟩,
 ⟨some 5, MOp.call 59 [(0, Opd.s 4)], none⟩,
 ⟨some 6, MOp.mv (Opd.s 5), none⟩,
 ⟨some 7, MOp.fa 1 (Opd.s 1), some (6, true)⟩,
 ⟨some 8, MOp.load none (Opd.s 7), some (6, true)⟩,
 ⟨some 9, MOp.call 59 [(0, Opd.s 8)], some (6, true)⟩,
 ⟨some 10, MOp.pick (Opd.s 6) (Opd.s 9) (Opd.c (AV.bool false)), none⟩,
 ⟨some 11, MOp.mv (Opd.s 10), none⟩,
 ⟨some 12, MOp.fa 2 (Opd.s 1), some (11, true)⟩,
 ⟨some 13, MOp.fa 0 (Opd.s 12), some (11, true)⟩,
 ⟨some 14, MOp.load none (Opd.s 13), some (11, true)⟩,
 ⟨some 15, MOp.bin .geq (Opd.s 14)
 (Opd.c (AV.int .i64 0)), some (11, true)⟩,
 ⟨some 16, MOp.pick (Opd.s 11) (Opd.s 15) (Opd.c (AV.bool false)), none⟩,
 ⟨some 17, MOp.mv (Opd.s 16), none⟩,
 ⟨some 18, MOp.fa 2 (Opd.s 1), some (17, true)⟩,
 ⟨some 19, MOp.fa 0 (Opd.s 18), some (17, true)⟩,
 ⟨some 20, MOp.load none (Opd.s 19), some (17, true)⟩,
 ⟨some 21, MOp.bin .lss (Opd.s 20)
 (Opd.c (AV.int .i64 8)), some (17, true)⟩,
 ⟨some 22, MOp.pick (Opd.s 17) (Opd.s 21) (Opd.c (AV.bool false)), none⟩,
 ⟨some 23, MOp.mv (Opd.s 22), none⟩,
 ⟨some 24, MOp.fa 2 (Opd.s 1), some (23, true)⟩,
 ⟨some 25, MOp.fa 1 (Opd.s 24), some (23, true)⟩,
 ⟨some 26, MOp.load none (Opd.s 25), some (23, true)⟩,
 ⟨some 27, MOp.bin .geq (Opd.s 26)
 (Opd.c (AV.int .i64 0)), some (23, true)⟩,
 ⟨some 28, MOp.pick (Opd.s 23) (Opd.s 27) (Opd.c (AV.bool false)), none⟩,
 ⟨some 29, MOp.mv (Opd.s 28), none⟩,
 ⟨some 30, MOp.fa 2 (Opd.s 1), some (29, true)⟩,
 ⟨some 31, MOp.fa 1 (Opd.s 30), some (29, true)⟩,
 ⟨some 32, MOp.load none (Opd.s 31), some (29, true)⟩,
 ⟨some 33, MOp.bin .leq (Opd.s 32)
 (Opd.c (AV.int .i64 249)), some (29, true)⟩,
 ⟨some 34, MOp.pick (Opd.s 29) (Opd.s 33) (Opd.c (AV.bool false)), none⟩,
 ⟨some 35, MOp.mv (Opd.s 34), none⟩,
 ⟨some 36, MOp.fa 4 (Opd.s 1), some (35, true)⟩,
 ⟨some 37, MOp.load (some 5) (Opd.s 36), some (35, true)⟩,
 ⟨some 38, MOp.call 58 [(0, Opd.s 37)], some (35, true)⟩,
 ⟨some 39, MOp.pick (Opd.s 35) (Opd.s 38) (Opd.c (AV.bool false)), none⟩,
 ⟨some 2, MOp.mv (Opd.s 39), none⟩]).seq
 MC.ret) ⟩
def M85 : MFun :=
 ⟨21, [MRes.tmp 0 2], (MC.reg
 [⟨some 2, MOp.mv (Opd.c (AV.int .u32 0)), none⟩]).seq
 ((MC.draw
 [⟨some 3, MOp.mv (Opd.s 0), none⟩,
 ⟨some 4, MOp.ixs (Opd.s 3) (Opd.c (AV.int .i64 0)), none⟩,
 ⟨some 5, MOp.conv (Cv.toInt .u32) (Opd.s 4), none⟩,
 ⟨some 6, MOp.mv (Opd.s 0), none⟩,
 ⟨some 7, MOp.ixs (Opd.s 6) (Opd.c (AV.int .i64 1)), none⟩,
 ⟨some 8, MOp.conv (Cv.toInt .u32) (Opd.s 7), none⟩,
 ⟨some 9, MOp.bin .shl (Opd.s 8)
 (Opd.c (AV.int .u64 8)), none⟩,
 ⟨some 10, MOp.bin .or (Opd.s 5) (Opd.s 9), none⟩,
 ⟨some 11, MOp.mv (Opd.s 0), none⟩,
 ⟨some 12, MOp.ixs (Opd.s 11) (Opd.c (AV.int .i64 2)), none⟩,
 ⟨some 13, MOp.conv (Cv.toInt .u32) (Opd.s 12), none⟩,
 ⟨some 14, MOp.bin .shl (Opd.s 13)
 (Opd.c (AV.int .u64 16)), none⟩,
 ⟨some 15, MOp.bin .or (Opd.s 10) (Opd.s 14), none⟩,
 ⟨some 16, MOp.mv (Opd.s 0), none⟩,
 ⟨some 17, MOp.ixs (Opd.s 16) (Opd.c (AV.int .i64 3)), none⟩,
 ⟨some 18, MOp.conv (Cv.toInt .u32) (Opd.s 17), none⟩,
 ⟨some 19, MOp.bin .shl (Opd.s 18)
 (Opd.c (AV.int .u64 24)), none⟩,
 ⟨some 20, MOp.bin .or (Opd.s 15) (Opd.s 19), none⟩,
 ⟨some 2, MOp.mv (Opd.s 20), none⟩]
 [0, 1, 3, 0, 8, 24, 56, 127, 0, 256, 768, 1792, 4095, 0, 8192, 24576, 57344, 131071, 262143]).seq
 MC.ret) ⟩
def M94 : MFun :=
 ⟨9, [MRes.tmp 0 2], (MC.reg
 [⟨some 2, MOp.mv (Opd.c (AV.bool false)), none⟩]).seq
 ((MC.reg
 [⟨some 3, MOp.mv (Opd.s 0), none⟩,
 ⟨some 4, MOp.bin .neq (Opd.s 3)
 (Opd.c (AV.int .u32 0)), none⟩,
 ⟨some 5, MOp.mv (Opd.s 4), none⟩,
 ⟨some 6, MOp.mv (Opd.s 0), some (5, true)⟩,
 ⟨some 7, MOp.bin .neq (Opd.s 6)
 (Opd.c (AV.int .u32 4294967295)), some (5, true)⟩,
 ⟨some 8, MOp.pick (Opd.s 5) (Opd.s 7) (Opd.c (AV.bool false)), none⟩,
 ⟨some 2, MOp.mv (Opd.s 8), none⟩]).seq
 MC.ret) ⟩
def M47 : MFun :=
 ⟨31, [MRes.tmp 0 2, MRes.tmp 0 3], (MC.reg
 [⟨some 1, MOp.box (Opd.s 0), none⟩,
 ⟨some 2, MOp.mv (Opd.c (AV.str [])), none⟩,
 ⟨some 3, MOp.mv (Opd.c (AV.bool false)), none⟩]).seq
 (((MC.reg
 [⟨some 6, MOp.load (some 6) (Opd.s 1), none⟩,
 ⟨some 7, MOp.call 49 [(0, Opd.s 6)], none⟩,
 ⟨some 8, MOp.un .not (Opd.s 7), none⟩]).seq
 (MC.cond (Opd.s 8)
 ((MC.reg
 [⟨some 2, MOp.mv (Opd.c (AV.str [])), none⟩,
 ⟨some 3, MOp.mv (Opd.c (AV.bool false)), none⟩]).seq
 MC.ret)
 MC.skip)).seq
 ((MC.draw
 [⟨some 9, MOp.fa 0 (Opd.s 1), none⟩,
 ⟨some 10, MOp.load none (Opd.s 9), none⟩,
 ⟨some 11, MOp.call 73 [(1, Opd.c AV.nils), (0, Opd.s 10)], none⟩,
 ⟨some 12, MOp.fa 1 (Opd.s 1), none⟩,
 ⟨some 13, MOp.load none (Opd.s 12), none⟩,
 ⟨some 14, MOp.call 73 [(1, Opd.s 11), (0, Opd.s 13)], none⟩,
 ⟨some 4, MOp.mv (Opd.s 14), none⟩]
 [0, 1, 3, 0, 8, 31, 63]).seq
 ((MC.reg
 [⟨some 5, MOp.mv (Opd.c (AV.int .u8 0)), none⟩]).seq
 (((MC.reg
 [⟨some 15, MOp.fa 4 (Opd.s 1), none⟩,
 ⟨some 16, MOp.load none (Opd.s 15), none⟩]).seq
 (MC.cond (Opd.s 16)
 (MC.reg
 [⟨some 5, MOp.mv (Opd.c (AV.int .u8 1)), none⟩])
 MC.skip)).seq
 ((MC.draw
 [⟨some 17, MOp.mv (Opd.s 4), none⟩,
 ⟨some 18, MOp.mv (Opd.s 5), none⟩,
 ⟨some 19, MOp.fa 3 (Opd.s 1), none⟩,
 ⟨some 20, MOp.load none (Opd.s 19), none⟩,
 ⟨some 21, MOp.conv (Cv.toInt .u8) (Opd.s 20), none⟩,
 ⟨some 22, MOp.fa 2 (Opd.s 1), none⟩,
 ⟨some 23, MOp.load none (Opd.s 22), none⟩,
 ⟨some 24, MOp.conv (Cv.toInt .u8) (Opd.s 23), none⟩,
 ⟨some 25, MOp.bsl false 1 3
 [AV.int .u8 0, AV.int .u8 0,
 AV.int .u8 0]
 [(0, 1, Opd.s 18), (1, 1, Opd.s 21), (2, 1, Opd.s 24)], none⟩,
 ⟨some 26, MOp.app false 1 1 (Opd.s 17) (Opd.s 25), none⟩,
 ⟨some 27, MOp.conv Cv.b2s (Opd.s 26), none⟩,
 ⟨some 28, MOp.fa 5 (Opd.s 1), none⟩,
 ⟨some 29, MOp.load none (Opd.s 28), none⟩,
 ⟨some 30, MOp.bin .add (Opd.s 27) (Opd.s 29), none⟩,
 ⟨some 2, MOp.mv (Opd.s 30), none⟩,
 ⟨some 3, MOp.mv (Opd.c (AV.bool true)), none⟩]
 [0, 0, 0, 4, 12, 0, 32, 96, 254, 511, 1023, 0, 2048, 8191, 16383, 32767]).seq
 MC.ret))))) ⟩
def M48 : MFun :=
 ⟨30, [MRes.tmp 0 2, MRes.tmp 0 3], (MC.reg
 [⟨some 1, MOp.box (Opd.s 0), none⟩,
 ⟨some 2, MOp.mv (Opd.c (AV.str [])), none⟩,
 ⟨some 3, MOp.mv (Opd.c (AV.bool false)), none⟩]).seq
 (((MC.reg
 [⟨some 5, MOp.load (some 6) (Opd.s 1), none⟩,
 ⟨some 6, MOp.call 74 [(0, Opd.s 5)], none⟩,
 ⟨some 7, MOp.un .not (Opd.s 6), none⟩]).seq
 (MC.cond (Opd.s 7)
 ((MC.reg
 [⟨some 2, MOp.mv (Opd.c (AV.str [])), none⟩,
 ⟨some 3, MOp.mv (Opd.c (AV.bool false)), none⟩]).seq
 MC.ret)
 MC.skip)).seq
 ((MC.reg
 [⟨some 4, MOp.mv (Opd.c (AV.int .u8 0)), none⟩]).seq
 (((MC.reg
 [⟨some 8, MOp.fa 4 (Opd.s 1), none⟩,
 ⟨some 9, MOp.load none (Opd.s 8), none⟩]).seq
 (MC.cond (Opd.s 9)
 (MC.reg
 [⟨some 4, MOp.mv (Opd.c (AV.int .u8 1)), none⟩])
 MC.skip)).seq
 ((MC.draw
 [⟨some 10, MOp.fa 0 (Opd.s 1), none⟩,
 ⟨some 11, MOp.load none (Opd.s 10), none⟩,
 ⟨some 12, MOp.call 75 [(0, Opd.s 11)], none⟩,
 ⟨some 13, MOp.fa 1 (Opd.s 1), none⟩,
 ⟨some 14, MOp.load none (Opd.s 13), none⟩,
 ⟨some 15, MOp.call 75 [(0, Opd.s 14)], none⟩,
 ⟨some 16, MOp.bin .add (Opd.s 12) (Opd.s 15), none⟩,
 ⟨some 17, MOp.mv (Opd.s 4), none⟩,
 ⟨some 18, MOp.fa 3 (Opd.s 1), none⟩,
 ⟨some 19, MOp.load none (Opd.s 18), none⟩,
 ⟨some 20, MOp.conv (Cv.toInt .u8) (Opd.s 19), none⟩,
 ⟨some 21, MOp.fa 2 (Opd.s 1), none⟩,
 ⟨some 22, MOp.load none (Opd.s 21), none⟩,
 ⟨some 23, MOp.conv (Cv.toInt .u8) (Opd.s 22), none⟩,
 ⟨some 24, MOp.bsi 1 3
 [AV.int .u8 0, AV.int .u8 0,
 AV.int .u8 0]
 [(0, 1, Opd.s 17), (1, 1, Opd.s 20), (2, 1, Opd.s 23)], none⟩,
 ⟨some 25, MOp.conv Cv.b2s (Opd.s 24), none⟩,
 ⟨some 26, MOp.bin .add (Opd.s 16) (Opd.s 25), none⟩,
 ⟨some 27, MOp.fa 5 (Opd.s 1), none⟩,
 ⟨some 28, MOp.load none (Opd.s 27), none⟩,
 ⟨some 29, MOp.bin .add (Opd.s 26) (Opd.s 28), none⟩,
 ⟨some 2, MOp.mv (Opd.s 29), none⟩,
 ⟨some 3, MOp.mv (Opd.c (AV.bool true)), none⟩]
 [0, 1, 3, 0, 8, 31, 63, 0, 0, 256, 768, 0, 2048, 6144, 16256, 32640, 65535, 0, 131072, 524287,
 1048575, 2097151]).seq
 MC.ret)))) ⟩
def M49 : MFun :=
 ⟨40, [MRes.tmp 0 2], (MC.reg
 [⟨some 1, MOp.box (Opd.s 0), none⟩,
 ⟨some 2, MOp.mv (Opd.c (AV.bool false)), none⟩]).seq
 ((MC.reg
 [⟨some 4, MOp.fa 3 (Opd.s 1), none⟩,
 ⟨some 5, MOp.load none (Opd.s 4), none⟩,
 ⟨some 6, MOp.bin .eql (Opd.s 5)
 (Opd.c (AV.int .i64 1)), none⟩,
 ⟨some 7, MOp.mv (Opd.s 6), none⟩,
 ⟨some 8, MOp.fa 3 (Opd.s 1), some (7, false)⟩,
 ⟨some 9, MOp.load none (Opd.s 8), some (7, false)⟩,
 ⟨some 10, MOp.bin .eql (Opd.s 9)
 (Opd.c (AV.int .i64 6)), some (7, false)⟩,
 ⟨some 11, MOp.pick (Opd.s 7) (Opd.c (AV.bool true)) (Opd.s 10), none⟩,
 ⟨some 12, MOp.mv (Opd.s 11), none⟩,
 ⟨some 13, MOp.fa 3 (Opd.s 1), some (12, false)⟩,
 ⟨some 14, MOp.load none (Opd.s 13), some (12, false)⟩,
 ⟨some 15, MOp.bin .eql (Opd.s 14)
 (Opd.c (AV.int .i64 8)), some (12, false)⟩,
 ⟨some 16, MOp.pick (Opd.s 12) (Opd.c (AV.bool true)) (Opd.s 15), none⟩,
 ⟨some 3, MOp.mv (Opd.s 16), none⟩]).seq
 ((MC.reg
 [⟨some 17, MOp.fa 0 (Opd.s 1), none⟩,
 ⟨some 18, MOp.load none (Opd.s 17), none⟩,
 ⟨some 19, MOp.call 76 [(0, Opd.s 18)], none⟩,
 ⟨some 20, MOp.mv (Opd.s 19), none⟩,
 ⟨some 21, MOp.mv (Opd.s 3), some (20, true)⟩,
 ⟨some 22, MOp.pick (Opd.s 20) (Opd.s 21) (Opd.c (AV.bool false)), none⟩,
 ⟨some 23, MOp.mv (Opd.s 22), none⟩,
 ⟨some 24, MOp.fa 2 (Opd.s 1), some (23, true)⟩,
 ⟨some 25, MOp.load none (Opd.s 24), some (23, true)⟩,
 ⟨some 26, MOp.bin .geq (Opd.s 25)
 (Opd.c (AV.int .i64 (-1))), some (23, true)⟩,
 ⟨some 27, MOp.pick (Opd.s 23) (Opd.s 26) (Opd.c (AV.bool false)), none⟩,
 ⟨some 28, MOp.mv (Opd.s 27), none⟩,
 ⟨some 29, MOp.fa 2 (Opd.s 1), some (28, true)⟩,
 ⟨some 30, MOp.load none (Opd.s 29), some (28, true)⟩,
 ⟨some 31, MOp.fa 3 (Opd.s 1), some (28, true)⟩,
 ⟨some 32, MOp.load none (Opd.s 31), some (28, true)⟩,
 ⟨some 33, MOp.bin .lss (Opd.s 30) (Opd.s 32), some (28, true)⟩,
 ⟨some 34, MOp.pick (Opd.s 28) (Opd.s 33) (Opd.c (AV.bool false)), none⟩,
 ⟨some 35, MOp.mv (Opd.s 34), none⟩,
 ⟨some 36, MOp.fa 5 (Opd.s 1), some (35, true)⟩,
 ⟨some 37, MOp.load none (Opd.s 36), some (35, true)⟩,
 ⟨some 38, MOp.call 77 [(0, Opd.s 37)], some (35, true)⟩,
 ⟨some 39, MOp.pick (Opd.s 35) (Opd.s 38) (Opd.c (AV.bool false)), none⟩,
 ⟨some 2, MOp.mv (Opd.s 39), none⟩]).seq
 MC.ret)) ⟩
def M50 : MFun :=
 ⟨46, [MRes.cell 2 (some 6), MRes.tmp 0 3], (MC.reg
 [⟨some 2, MOp.alloc
 [AV.int .u32 0, AV.int .u32 0,
 AV.int .i64 0, AV.int .i64 0,
 AV.bool false, AV.str []], none⟩,
 ⟨some 3, MOp.mv (Opd.c (AV.bool false)), none⟩]).seq
 (((MC.reg
 [⟨some 7, MOp.mv (Opd.s 0), none⟩,
 ⟨some 8, MOp.lens (Opd.s 7), none⟩,
 ⟨some 9, MOp.bin .lss (Opd.s 8)
 (Opd.c (AV.int .i64 11)), none⟩]).seq
 (MC.cond (Opd.s 9)
 ((MC.reg
 [⟨some 10, MOp.build
 [AV.int .u32 0, AV.int .u32 0,
 AV.int .i64 0, AV.int .i64 0,
 AV.bool false, AV.str []]
 [], none⟩,
 ⟨none, MOp.store 6 (Opd.s 2) (Opd.s 10), none⟩,
 ⟨some 3, MOp.mv (Opd.c (AV.bool false)), none⟩]).seq
 MC.ret)
 MC.skip)).seq
 ((MC.draw
 [⟨some 11, MOp.mv (Opd.s 0), none⟩,
 ⟨some 12, MOp.call 78 [(0, Opd.s 11)], none⟩,
 ⟨some 13, MOp.mv (Opd.s 0), none⟩,
 ⟨some 14, MOp.sls (Opd.s 13)
 (some (Opd.c (AV.int .i64 4))) none, none⟩,
 ⟨some 15, MOp.call 78 [(0, Opd.s 14)], none⟩,
 ⟨some 16, MOp.mv (Opd.s 0), none⟩,
 ⟨some 17, MOp.ixs (Opd.s 16) (Opd.c (AV.int .i64 8)), none⟩,
 ⟨some 18, MOp.bin .eql (Opd.s 17)
 (Opd.c (AV.int .u8 1)), none⟩,
 ⟨some 19, MOp.mv (Opd.s 0), none⟩,
 ⟨some 20, MOp.ixs (Opd.s 19) (Opd.c (AV.int .i64 9)), none⟩,
 ⟨some 21, MOp.conv (Cv.toInt .i64) (Opd.s 20), none⟩,
 ⟨some 22, MOp.mv (Opd.s 0), none⟩,
 ⟨some 23, MOp.ixs (Opd.s 22) (Opd.c (AV.int .i64 10)), none⟩,
 ⟨some 24, MOp.conv (Cv.toInt .i64) (Opd.s 23), none⟩,
 ⟨some 25, MOp.mv (Opd.s 0), none⟩,
 ⟨some 26, MOp.sls (Opd.s 25)
 (some (Opd.c (AV.int .i64 11))) none, none⟩,
 ⟨some 27, MOp.build
 [AV.int .u32 0, AV.int .u32 0,
 AV.int .i64 0, AV.int .i64 0,
 AV.bool false, AV.str []]
 [(0, 1, Opd.s 12), (1, 1, Opd.s 15), (4, 1, Opd.s 18), (3, 1, Opd.s 21),
 (2, 1, Opd.s 24), (5, 1, Opd.s 26)], none⟩,
 ⟨some 4, MOp.alloc
 [AV.int .u32 0, AV.int .u32 0,
 AV.int .i64 0, AV.int .i64 0,
 AV.bool false, AV.str []], none⟩,
 ⟨none, MOp.store 6 (Opd.s 4) (Opd.s 27), none⟩]
 [0, 1, 0, 4, 15, 0, 32, 96, 0, 256, 768, 0, 2048, 6144, 0, 16384, 65535, 0, 262143]).seq
 (((MC.reg
 [⟨some 28, MOp.fa 2 (Opd.s 4), none⟩,
 ⟨some 29, MOp.load none (Opd.s 28), none⟩,
 ⟨some 30, MOp.bin .eql (Opd.s 29)
 (Opd.c (AV.int .i64 255)), none⟩]).seq
 (MC.cond (Opd.s 30)
 (MC.reg
 [⟨some 31, MOp.fa 2 (Opd.s 4), none⟩,
 ⟨none, MOp.store 1 (Opd.s 31)
 (Opd.c (AV.int .i64 (-1))), none⟩])
 MC.skip)).seq
 (((MC.reg
 [⟨some 33, MOp.load (some 6) (Opd.s 4), none⟩,
 ⟨some 34, MOp.call 47 [(0, Opd.s 33)], none⟩,
 ⟨some 32, MOp.mv (Opd.s 34), none⟩,
 ⟨some 35, MOp.ext 0 (Opd.s 32), none⟩,
 ⟨some 36, MOp.ext 1 (Opd.s 32), none⟩,
 ⟨some 5, MOp.mv (Opd.s 35), none⟩,
 ⟨some 6, MOp.mv (Opd.s 36), none⟩]).seq
 ((MC.reg
 [⟨some 37, MOp.mv (Opd.s 6), none⟩,
 ⟨some 38, MOp.un .not (Opd.s 37), none⟩,
 ⟨some 39, MOp.mv (Opd.s 38), none⟩,
 ⟨some 40, MOp.mv (Opd.s 5), some (39, false)⟩,
 ⟨some 41, MOp.mv (Opd.s 0), some (39, false)⟩,
 ⟨some 42, MOp.bin .neq (Opd.s 40) (Opd.s 41), some (39, false)⟩,
 ⟨some 43, MOp.pick (Opd.s 39) (Opd.c (AV.bool true))
 (Opd.s 42), none⟩]).seq
 (MC.cond (Opd.s 43)
 ((MC.reg
 [⟨some 44, MOp.build
 [AV.int .u32 0,
 AV.int .u32 0,
 AV.int .i64 0,
 AV.int .i64 0, AV.bool false,
 AV.str []]
 [], none⟩,
 ⟨none, MOp.store 6 (Opd.s 2) (Opd.s 44), none⟩,
 ⟨some 3, MOp.mv (Opd.c (AV.bool false)), none⟩]).seq
 MC.ret)
 MC.skip))).seq
 ((MC.reg
 [⟨some 45, MOp.load (some 6) (Opd.s 4), none⟩,
 ⟨none, MOp.store 6 (Opd.s 2) (Opd.s 45), none⟩,
 ⟨some 3, MOp.mv (Opd.c (AV.bool true)), none⟩]).seq
 MC.ret))))) ⟩
def M51 : MFun :=
 ⟨40, [MRes.cell 2 (some 6), MRes.tmp 0 3], (MC.reg
 [⟨some 2, MOp.alloc
 [AV.int .u32 0, AV.int .u32 0,
 AV.int .i64 0, AV.int .i64 0,
 AV.bool false, AV.str []], none⟩,
 ⟨some 3, MOp.mv (Opd.c (AV.bool false)), none⟩]).seq
 (((MC.reg
 [⟨some 5, MOp.mv (Opd.s 0), none⟩,
 ⟨some 6, MOp.lens (Opd.s 5), none⟩,
 ⟨some 7, MOp.bin .lss (Opd.s 6)
 (Opd.c (AV.int .i64 11)), none⟩,
 ⟨some 8, MOp.mv (Opd.s 7), none⟩,
 ⟨some 9, MOp.mv (Opd.s 0), some (8, false)⟩,
 ⟨some 10, MOp.ixs (Opd.s 9) (Opd.c (AV.int .i64 8)), some (8, false)⟩,
 ⟨some 11, MOp.bin .gtr (Opd.s 10)
 (Opd.c (AV.int .u8 1)), some (8, false)⟩,
 ⟨some 12, MOp.pick (Opd.s 8) (Opd.c (AV.bool true)) (Opd.s 11), none⟩]).seq
 (MC.cond (Opd.s 12)
 ((MC.reg
 [⟨some 13, MOp.build
 [AV.int .u32 0, AV.int .u32 0,
 AV.int .i64 0, AV.int .i64 0,
 AV.bool false, AV.str []]
 [], none⟩,
 ⟨none, MOp.store 6 (Opd.s 2) (Opd.s 13), none⟩,
 ⟨some 3, MOp.mv (Opd.c (AV.bool false)), none⟩]).seq
 MC.ret)
 MC.skip)).seq
 ((MC.draw
 [⟨some 14, MOp.mv (Opd.s 0), none⟩,
 ⟨some 15, MOp.call 79 [(0, Opd.s 14)], none⟩,
 ⟨some 16, MOp.mv (Opd.s 0), none⟩,
 ⟨some 17, MOp.sls (Opd.s 16)
 (some (Opd.c (AV.int .i64 4))) none, none⟩,
 ⟨some 18, MOp.call 79 [(0, Opd.s 17)], none⟩,
 ⟨some 19, MOp.mv (Opd.s 0), none⟩,
 ⟨some 20, MOp.ixs (Opd.s 19) (Opd.c (AV.int .i64 8)), none⟩,
 ⟨some 21, MOp.bin .eql (Opd.s 20)
 (Opd.c (AV.int .u8 1)), none⟩,
 ⟨some 22, MOp.mv (Opd.s 0), none⟩,
 ⟨some 23, MOp.ixs (Opd.s 22) (Opd.c (AV.int .i64 9)), none⟩,
 ⟨some 24, MOp.conv (Cv.toInt .i64) (Opd.s 23), none⟩,
 ⟨some 25, MOp.mv (Opd.s 0), none⟩,
 ⟨some 26, MOp.ixs (Opd.s 25) (Opd.c (AV.int .i64 10)), none⟩,
 ⟨some 27, MOp.conv (Cv.toInt .i64) (Opd.s 26), none⟩,
 ⟨some 28, MOp.mv (Opd.s 0), none⟩,
 ⟨some 29, MOp.sls (Opd.s 28)
 (some (Opd.c (AV.int .i64 11))) none, none⟩,
 ⟨some 30, MOp.build
 [AV.int .u32 0, AV.int .u32 0,
 AV.int .i64 0, AV.int .i64 0,
 AV.bool false, AV.str []]
 [(0, 1, Opd.s 15), (1, 1, Opd.s 18), (4, 1, Opd.s 21), (3, 1, Opd.s 24),
 (2, 1, Opd.s 27), (5, 1, Opd.s 29)], none⟩,
 ⟨some 4, MOp.alloc
 [AV.int .u32 0, AV.int .u32 0,
 AV.int .i64 0, AV.int .i64 0,
 AV.bool false, AV.str []], none⟩,
 ⟨none, MOp.store 6 (Opd.s 4) (Opd.s 30), none⟩]
 [0, 1, 0, 4, 15, 0, 32, 96, 0, 256, 768, 0, 2048, 6144, 0, 16384, 65535, 0, 262143]).seq
 (((MC.reg
 [⟨some 31, MOp.mv (Opd.s 0), none⟩,
 ⟨some 32, MOp.ixs (Opd.s 31) (Opd.c (AV.int .i64 10)), none⟩,
 ⟨some 33, MOp.bin .eql (Opd.s 32)
 (Opd.c (AV.int .u8 255)), none⟩]).seq
 (MC.cond (Opd.s 33)
 (MC.reg
 [⟨some 34, MOp.fa 2 (Opd.s 4), none⟩,
 ⟨none, MOp.store 1 (Opd.s 34)
 (Opd.c (AV.int .i64 (-1))), none⟩])
 MC.skip)).seq
 (((MC.reg
 [⟨some 35, MOp.load (some 6) (Opd.s 4), none⟩,
 ⟨some 36, MOp.call 74 [(0, Opd.s 35)], none⟩,
 ⟨some 37, MOp.un .not (Opd.s 36), none⟩]).seq
 (MC.cond (Opd.s 37)
 ((MC.reg
 [⟨some 38, MOp.build
 [AV.int .u32 0,
 AV.int .u32 0,
 AV.int .i64 0,
 AV.int .i64 0, AV.bool false,
 AV.str []]
 [], none⟩,
 ⟨none, MOp.store 6 (Opd.s 2) (Opd.s 38), none⟩,
 ⟨some 3, MOp.mv (Opd.c (AV.bool false)), none⟩]).seq
 MC.ret)
 MC.skip)).seq
 ((MC.reg
 [⟨some 39, MOp.load (some 6) (Opd.s 4), none⟩,
 ⟨none, MOp.store 6 (Opd.s 2) (Opd.s 39), none⟩,
 ⟨some 3, MOp.mv (Opd.c (AV.bool true)), none⟩]).seq
 MC.ret))))) ⟩
def M73 : MFun :=
 ⟨19, [MRes.tmp 1 4], (MC.reg
 [⟨some 4, MOp.mv (Opd.c AV.nils), none⟩]).seq
 ((MC.reg
 [⟨some 5, MOp.mv (Opd.s 0), none⟩,
 ⟨some 6, MOp.mv (Opd.s 1), none⟩,
 ⟨some 7, MOp.conv (Cv.toInt .u8) (Opd.s 6), none⟩,
 ⟨some 8, MOp.mv (Opd.s 1), none⟩,
 ⟨some 9, MOp.bin .shr (Opd.s 8)
 (Opd.c (AV.int .u64 8)), none⟩,
 ⟨some 10, MOp.conv (Cv.toInt .u8) (Opd.s 9), none⟩,
 ⟨some 11, MOp.mv (Opd.s 1), none⟩,
 ⟨some 12, MOp.bin .shr (Opd.s 11)
 (Opd.c (AV.int .u64 16)), none⟩,
 ⟨some 13, MOp.conv (Cv.toInt .u8) (Opd.s 12), none⟩,
 ⟨some 14, MOp.mv (Opd.s 1), none⟩,
 ⟨some 15, MOp.bin .shr (Opd.s 14)
 (Opd.c (AV.int .u64 24)), none⟩,
 ⟨some 16, MOp.conv (Cv.toInt .u8) (Opd.s 15), none⟩,
 ⟨some 17, MOp.bsl false 1 4
 [AV.int .u8 0, AV.int .u8 0,
 AV.int .u8 0, AV.int .u8 0]
 [(0, 1, Opd.s 7), (1, 1, Opd.s 10), (2, 1, Opd.s 13), (3, 1, Opd.s 16)], none⟩,
 ⟨some 18, MOp.app false 1 1 (Opd.s 5) (Opd.s 17), none⟩,
 ⟨some 4, MOp.mv (Opd.s 18), none⟩]).seq
 MC.ret) ⟩
def M74 : MFun :=
 ⟨38, [MRes.tmp 0 2], (MC.reg
 [⟨some 1, MOp.box (Opd.s 0), none⟩,
 ⟨some 2, MOp.mv (Opd.c (AV.bool false)), none⟩]).seq
 ((MC.reg
 [⟨some 3, MOp.fa 0 (Opd.s 1), none⟩,
 ⟨some 4, MOp.load none (Opd.s 3), none⟩,
 ⟨some 5, MOp.call 59 [(0, Opd.s 4)], none⟩,
 ⟨some 6, MOp.mv (Opd.s 5), none⟩,
 ⟨some 7, MOp.fa 3 (Opd.s 1), some (6, true)⟩,
 ⟨some 8, MOp.load none (Opd.s 7), some (6, true)⟩,
 ⟨some 9, MOp.bin .eql (Opd.s 8)
 (Opd.c (AV.int .i64 1)), some (6, true)⟩,
 ⟨some 10, MOp.mv (Opd.s 9), some (6, true)⟩,
 ⟨some 11, MOp.fa 3 (Opd.s 1), some (10, false)⟩,
 ⟨some 12, MOp.load none (Opd.s 11), some (10, false)⟩,
 ⟨some 13, MOp.bin .eql (Opd.s 12)
 (Opd.c (AV.int .i64 6)), some (10, false)⟩,
 ⟨some 14, MOp.pick (Opd.s 10) (Opd.c (AV.bool true)) (Opd.s 13), some (6, true)⟩,
 ⟨some 15, MOp.mv (Opd.s 14), some (6, true)⟩,
 ⟨some 16, MOp.fa 3 (Opd.s 1), some (15, false)⟩,
 ⟨some 17, MOp.load none (Opd.s 16), some (15, false)⟩,
 ⟨some 18, MOp.bin .eql (Opd.s 17)
 (Opd.c (AV.int .i64 8)), some (15, false)⟩,
 ⟨some 19, MOp.pick (Opd.s 15) (Opd.c (AV.bool true)) (Opd.s 18), some (6, true)⟩,
 ⟨some 20, MOp.pick (Opd.s 6) (Opd.s 19) (Opd.c (AV.bool false)), none⟩,
 ⟨some 21, MOp.mv (Opd.s 20), none⟩,
 ⟨some 22, MOp.fa 2 (Opd.s 1), some (21, true)⟩,
 ⟨some 23, MOp.load none (Opd.s 22), some (21, true)⟩,
 ⟨some 24, MOp.bin .geq (Opd.s 23)
 (Opd.c (AV.int .i64 (-1))), some (21, true)⟩,
 ⟨some 25, MOp.pick (Opd.s 21) (Opd.s 24) (Opd.c (AV.bool false)), none⟩,
 ⟨some 26, MOp.mv (Opd.s 25), none⟩,
 ⟨some 27, MOp.fa 2 (Opd.s 1), some (26, true)⟩,
 ⟨some 28, MOp.load none (Opd.s 27), some (26, true)⟩,
 ⟨some 29, MOp.fa 3 (Opd.s 1), some (26, true)⟩,
 ⟨some 30, MOp.load none (Opd.s 29), some (26, true)⟩,
 ⟨some 31, MOp.bin .lss (Opd.s 28) (Opd.s 30), some (26, true)⟩,
 ⟨some 32, MOp.pick (Opd.s 26) (Opd.s 31) (Opd.c (AV.bool false)), none⟩,
 ⟨some 33, MOp.mv (Opd.s 32), none⟩,
 ⟨some 34, MOp.fa 5 (Opd.s 1), some (33, true)⟩,
 ⟨some 35, MOp.load none (Opd.s 34), some (33, true)⟩,
 ⟨some 36, MOp.call 91 [(0, Opd.s 35)], some (33, true)⟩,
 ⟨some 37, MOp.pick (Opd.s 33) (Opd.s 36) (Opd.c (AV.bool false)), none⟩,
 ⟨some 2, MOp.mv (Opd.s 37), none⟩]).seq
 MC.ret) ⟩
def M76 : MFun :=
 ⟨9, [MRes.tmp 0 2], (MC.reg
 [⟨some 2, MOp.mv (Opd.c (AV.bool false)), none⟩]).seq
 ((MC.reg
 [⟨some 3, MOp.mv (Opd.s 0), none⟩,
 ⟨some 4, MOp.bin .neq (Opd.s 3)
 (Opd.c (AV.int .u32 0)), none⟩,
 ⟨some 5, MOp.mv (Opd.s 4), none⟩,
 ⟨some 6, MOp.mv (Opd.s 0), some (5, true)⟩,
 ⟨some 7, MOp.bin .neq (Opd.s 6)
 (Opd.c (AV.int .u32 4294967295)), some (5, true)⟩,
 ⟨some 8, MOp.pick (Opd.s 5) (Opd.s 7) (Opd.c (AV.bool false)), none⟩,
 ⟨some 2, MOp.mv (Opd.s 8), none⟩]).seq
 MC.ret) ⟩
def M78 : MFun :=
 ⟨21, [MRes.tmp 0 2], (MC.reg
 [⟨some 2, MOp.mv (Opd.c (AV.int .u32 0)), none⟩]).seq
 ((MC.draw
 [⟨some 3, MOp.mv (Opd.s 0), none⟩,
 ⟨some 4, MOp.ixs (Opd.s 3) (Opd.c (AV.int .i64 0)), none⟩,
 ⟨some 5, MOp.conv (Cv.toInt .u32) (Opd.s 4), none⟩,
 ⟨some 6, MOp.mv (Opd.s 0), none⟩,
 ⟨some 7, MOp.ixs (Opd.s 6) (Opd.c (AV.int .i64 1)), none⟩,
 ⟨some 8, MOp.conv (Cv.toInt .u32) (Opd.s 7), none⟩,
 ⟨some 9, MOp.bin .shl (Opd.s 8)
 (Opd.c (AV.int .u64 8)), none⟩,
 ⟨some 10, MOp.bin .or (Opd.s 5) (Opd.s 9), none⟩,
 ⟨some 11, MOp.mv (Opd.s 0), none⟩,
 ⟨some 12, MOp.ixs (Opd.s 11) (Opd.c (AV.int .i64 2)), none⟩,
 ⟨some 13, MOp.conv (Cv.toInt .u32) (Opd.s 12), none⟩,
 ⟨some 14, MOp.bin .shl (Opd.s 13)
 (Opd.c (AV.int .u64 16)), none⟩,
 ⟨some 15, MOp.bin .or (Opd.s 10) (Opd.s 14), none⟩,
 ⟨some 16, MOp.mv (Opd.s 0), none⟩,
 ⟨some 17, MOp.ixs (Opd.s 16) (Opd.c (AV.int .i64 3)), none⟩,
 ⟨some 18, MOp.conv (Cv.toInt .u32) (Opd.s 17), none⟩,
 ⟨some 19, MOp.bin .shl (Opd.s 18)
 (Opd.c (AV.int .u64 24)), none⟩,
 ⟨some 20, MOp.bin .or (Opd.s 15) (Opd.s 19), none⟩,
 ⟨some 2, MOp.mv (Opd.s 20), none⟩]
 [0, 1, 3, 0, 8, 24, 56, 127, 0, 256, 768, 1792, 4095, 0, 8192, 24576, 57344, 131071, 262143]).seq
 MC.ret) ⟩
theorem tab54 : tableOf Tryd.prog 54 = some M54 := by kernel_rfl
theorem tab55 : tableOf Tryd.prog 55 = some M55 := by kernel_rfl
theorem tab56 : tableOf Tryd.prog 56 = some M56 := by kernel_rfl
theorem tab57 : tableOf Tryd.prog 57 = some M57 := by kernel_rfl
theorem tab59 : tableOf Tryd.prog 59 = some M59 := by kernel_rfl
theorem tab75 : tableOf Tryd.prog 75 = some M75 := by kernel_rfl
theorem tab79 : tableOf Tryd.prog 79 = some M79 := by kernel_rfl
theorem tab82 : tableOf Tryd.prog 82 = some M82 := by kernel_rfl
theorem tab83 : tableOf Tryd.prog 83 = some M83 := by kernel_rfl
theorem tab84 : tableOf Tryd.prog 84 = some M84 := by kernel_rfl
theorem tab85 : tableOf Tryd.prog 85 = some M85 := by kernel_rfl
theorem tab94 : tableOf Tryd.prog 94 = some M94 := by kernel_rfl
theorem tab47 : tableOf Tryd.prog 47 = some M47 := by kernel_rfl
theorem tab48 : tableOf Tryd.prog 48 = some M48 := by kernel_rfl
theorem tab49 : tableOf Tryd.prog 49 = some M49 := by kernel_rfl
theorem tab50 : tableOf Tryd.prog 50 = some M50 := by kernel_rfl
theorem tab51 : tableOf Tryd.prog 51 = some M51 := by kernel_rfl
theorem tab73 : tableOf Tryd.prog 73 = some M73 := by kernel_rfl
theorem tab74 : tableOf Tryd.prog 74 = some M74 := by kernel_rfl
theorem tab76 : tableOf Tryd.prog 76 = some M76 := by kernel_rfl
theorem tab78 : tableOf Tryd.prog 78 = some M78 := by kernel_rfl
end Go.Proofs.YtbeimfhodgmjhaaDoor
