/- Functions of the program in the evaluator's form, written out by a program. No conditions. -/
import Derived.Test.YtochnineebgbgaaDoorM12
set_option linter.unusedVariables false
namespace Go.Proofs.YtochnineebgbgaaDoor
open Go Go.Ab
def M42b0 : MC :=
 ((MC.reg
 [⟨some 34, MOp.bin .lss (Opd.s 33) (Opd.s 32), none⟩]).seq
 ((MC.cond (Opd.s 34) MC.skip (MC.exit 0)).seq
 ((MC.block 1
 ((MC.reg
 [⟨some 35, MOp.mv (Opd.s 33), none⟩,
 ⟨some 8, MOp.mv (Opd.s 35), none⟩]).seq
 (MC.draw
 [⟨some 36, MOp.mv (Opd.s 7), none⟩,
 ⟨some 37, MOp.mv (Opd.s 3), none⟩,
 ⟨some 38, MOp.mv (Opd.s 4), none⟩,
 ⟨some 39, MOp.mv (Opd.s 5), none⟩,
 ⟨some 40, MOp.mv (Opd.s 8), none⟩,
 ⟨some 41, MOp.ixa 1 (Opd.s 39) (Opd.s 40), none⟩,
 ⟨some 42, MOp.load none (Opd.s 41), none⟩,
 ⟨some 43, MOp.mv (Opd.s 6), none⟩,
 ⟨some 44, MOp.mv (Opd.s 8), none⟩,
 ⟨some 45, MOp.ixa 1 (Opd.s 43) (Opd.s 44), none⟩,
 ⟨some 46, MOp.load none (Opd.s 45), none⟩,
 ⟨some 47, MOp.build
 [AV.int .i64 0,
 AV.int .i64 0, AV.bool false,
 AV.int .i64 0,
 AV.int .i64 0,
 AV.int .i64 0,
 AV.int .i64 0, AV.bool false,
 AV.str []]
 [(2, 1, Opd.s 37),
 (3, 1, Opd.c (AV.int .i64 1)),
 (5, 1, Opd.s 38), (6, 1, Opd.s 42),
 (8, 1, Opd.s 46)], none⟩,
 ⟨some 48, MOp.bsl true 9 1
 [AV.int .i64 0,
 AV.int .i64 0, AV.bool false,
 AV.int .i64 0,
 AV.int .i64 0,
 AV.int .i64 0,
 AV.int .i64 0, AV.bool false,
 AV.str []]
 [(0, 9, Opd.s 47)], none⟩,
 ⟨some 49, MOp.app true 9 80 (Opd.s 36) (Opd.s 48), none⟩,
 ⟨some 7, MOp.mv (Opd.s 49), none⟩]
 [0, 0, 0, 0, 0, 24, 56, 0, 0, 384, 896, 2046, 4094, 8191, 16383]))).seq
 (MC.reg
 [⟨some 50, MOp.bin .add (Opd.s 33)
 (Opd.c (AV.int .i64 1)), none⟩,
 ⟨some 33, MOp.mv (Opd.s 50), none⟩]))))
def M42b0l : List Bool := [true, false, false, true, true, true, true, true, false, false, false, false, false, false, false, false, false, false, false, false, false, false, false, false, false, false, false, false, false, false, false, false, true, true, false, false, false, false, false, false, false, false, false, false, false, false, false, false, false, false, false, false, false, false, false, false, false, false, false, false, false, false, false, false, false, false, false, false, false, false, false, false, false, false, false, false]
def M42 : MFun :=
 ⟨76, [MRes.tmp 9 2], (MC.reg
 [⟨some 2, MOp.mv (Opd.c AV.nils), none⟩]).seq
 (((MC.reg
 [⟨some 10, MOp.mv (Opd.s 0), none⟩,
 ⟨some 11, MOp.call 43 [(0, Opd.s 10)], none⟩,
 ⟨some 12, MOp.un .not (Opd.s 11), none⟩]).seq
 (MC.cond (Opd.s 12)
 ((MC.reg
 [⟨some 2, MOp.mv (Opd.c AV.nils), none⟩]).seq
 MC.ret)
 MC.skip)).seq
 ((MC.draw
 [⟨some 13, MOp.mv (Opd.s 0), none⟩,
 ⟨some 14, MOp.nchk (Opd.s 13), none⟩,
 ⟨some 15, MOp.fa 0 (Opd.s 14), none⟩,
 ⟨some 16, MOp.load none (Opd.s 15), none⟩,
 ⟨some 17, MOp.bin .eql (Opd.s 16)
 (Opd.c (AV.int .i64 1)), none⟩,
 ⟨some 18, MOp.mv (Opd.s 0), none⟩,
 ⟨some 19, MOp.nchk (Opd.s 18), none⟩,
 ⟨some 20, MOp.fa 3 (Opd.s 19), none⟩,
 ⟨some 21, MOp.load none (Opd.s 20), none⟩,
 ⟨some 22, MOp.call 30 [(0, Opd.s 21)], none⟩,
 ⟨some 3, MOp.mv (Opd.s 17), none⟩,
 ⟨some 4, MOp.mv (Opd.s 22), none⟩]
 [0, 1, 3, 7, 15, 0, 32, 96, 224, 480, 1023, 2047]).seq
 ((MC.reg
 [⟨some 24, MOp.mv (Opd.s 0), none⟩,
 ⟨some 25, MOp.nchk (Opd.s 24), none⟩,
 ⟨some 26, MOp.fa 2 (Opd.s 25), none⟩,
 ⟨some 27, MOp.load none (Opd.s 26), none⟩,
 ⟨some 28, MOp.call 35 [(0, Opd.s 27)], none⟩,
 ⟨some 23, MOp.mv (Opd.s 28), none⟩,
 ⟨some 29, MOp.ext 0 (Opd.s 23), none⟩,
 ⟨some 30, MOp.ext 1 (Opd.s 23), none⟩,
 ⟨some 5, MOp.mv (Opd.s 29), none⟩,
 ⟨some 6, MOp.mv (Opd.s 30), none⟩]).seq
 ((MC.reg
 [⟨some 7, MOp.mv (Opd.c AV.nils), none⟩]).seq
 (((MC.reg
 [⟨some 31, MOp.mv (Opd.s 5), none⟩,
 ⟨some 32, MOp.len (Opd.s 31), none⟩,
 ⟨some 33, MOp.mv (Opd.c (AV.int .i64 0)), none⟩]).seq
 (MC.block 0
 (MC.loop M42b0l M42b0))).seq
 (((MC.reg
 [⟨some 51, MOp.mv (Opd.s 7), none⟩,
 ⟨some 52, MOp.eqv false EqK.slc (Opd.s 51) (Opd.c AV.nils), none⟩]).seq
 (MC.cond (Opd.s 52)
 ((MC.reg
 [⟨some 53, MOp.mv (Opd.s 3), none⟩,
 ⟨some 54, MOp.mv (Opd.s 4), none⟩,
 ⟨some 55, MOp.build
 [AV.int .i64 0,
 AV.int .i64 0, AV.bool false,
 AV.int .i64 0,
 AV.int .i64 0,
 AV.int .i64 0,
 AV.int .i64 0, AV.bool false,
 AV.str []]
 [(2, 1, Opd.s 53),
 (3, 1, Opd.c (AV.int .i64 2)),
 (4, 1, Opd.c (AV.int .i64 0)),
 (5, 1, Opd.s 54)], none⟩,
 ⟨some 9, MOp.alloc
 [AV.int .i64 0,
 AV.int .i64 0, AV.bool false,
 AV.int .i64 0,
 AV.int .i64 0,
 AV.int .i64 0,
 AV.int .i64 0, AV.bool false,
 AV.str []], none⟩,
 ⟨none, MOp.store 9 (Opd.s 9) (Opd.s 55), none⟩]).seq
 (((MC.reg
 [⟨some 56, MOp.mv (Opd.s 0), none⟩,
 ⟨some 57, MOp.nchk (Opd.s 56), none⟩,
 ⟨some 58, MOp.fa 3 (Opd.s 57), none⟩,
 ⟨some 59, MOp.load none (Opd.s 58), none⟩,
 ⟨some 60, MOp.call 31 [(0, Opd.s 59)], none⟩]).seq
 (MC.cond (Opd.s 60)
 (MC.reg
 [⟨some 61, MOp.fa 4 (Opd.s 9), none⟩,
 ⟨none, MOp.store 1 (Opd.s 61)
 (Opd.c (AV.int .i64 2)), none⟩])
 MC.skip)).seq
 (MC.reg
 [⟨some 62, MOp.mv (Opd.s 7), none⟩,
 ⟨some 63, MOp.load (some 9) (Opd.s 9), none⟩,
 ⟨some 64, MOp.bsl true 9 1
 [AV.int .i64 0,
 AV.int .i64 0, AV.bool false,
 AV.int .i64 0,
 AV.int .i64 0,
 AV.int .i64 0,
 AV.int .i64 0, AV.bool false,
 AV.str []]
 [(0, 9, Opd.s 63)], none⟩,
 ⟨some 65, MOp.app true 9 80 (Opd.s 62) (Opd.s 64), none⟩,
 ⟨some 7, MOp.mv (Opd.s 65), none⟩])))
 MC.skip)).seq
 ((MC.reg
 [⟨some 66, MOp.mv (Opd.s 7), none⟩,
 ⟨some 67, MOp.mv (Opd.s 7), none⟩,
 ⟨some 68, MOp.len (Opd.s 67), none⟩,
 ⟨some 69, MOp.bin .sub (Opd.s 68)
 (Opd.c (AV.int .i64 1)), none⟩,
 ⟨some 70, MOp.ixa 9 (Opd.s 66) (Opd.s 69), none⟩,
 ⟨some 71, MOp.fa 7 (Opd.s 70), none⟩,
 ⟨none, MOp.store 1 (Opd.s 71) (Opd.c (AV.bool true)), none⟩]).seq
 ((MC.reg
 [⟨some 72, MOp.mv (Opd.s 0), none⟩,
 ⟨some 73, MOp.nchk (Opd.s 72), none⟩,
 ⟨some 74, MOp.fa 4 (Opd.s 73), none⟩,
 ⟨none, MOp.store 1 (Opd.s 74) (Opd.c (AV.bool false)), none⟩]).seq
 ((MC.reg
 [⟨some 75, MOp.mv (Opd.s 7), none⟩,
 ⟨some 2, MOp.mv (Opd.s 75), none⟩]).seq
 MC.ret))))))))) ⟩
def M43 : MFun :=
 ⟨11, [MRes.tmp 0 2], (MC.reg
 [⟨some 2, MOp.mv (Opd.c (AV.bool false)), none⟩]).seq
 ((MC.reg
 [⟨some 3, MOp.mv (Opd.s 0), none⟩,
 ⟨some 4, MOp.eqv true EqK.ptr (Opd.s 3) (Opd.c AV.nilp), none⟩,
 ⟨some 5, MOp.mv (Opd.s 4), none⟩,
 ⟨some 6, MOp.mv (Opd.s 0), some (5, true)⟩,
 ⟨some 7, MOp.nchk (Opd.s 6), some (5, true)⟩,
 ⟨some 8, MOp.fa 4 (Opd.s 7), some (5, true)⟩,
 ⟨some 9, MOp.load none (Opd.s 8), some (5, true)⟩,
 ⟨some 10, MOp.pick (Opd.s 5) (Opd.s 9) (Opd.c (AV.bool false)), none⟩,
 ⟨some 2, MOp.mv (Opd.s 10), none⟩]).seq
 MC.ret) ⟩
def M44 : MFun :=
 ⟨21, [MRes.tmp 0 2], (MC.reg
 [⟨some 2, MOp.mv (Opd.c (AV.bool false)), none⟩]).seq
 (((MC.reg
 [⟨some 3, MOp.mv (Opd.s 0), none⟩,
 ⟨some 4, MOp.eqv false EqK.ptr (Opd.s 3) (Opd.c AV.nilp), none⟩,
 ⟨some 5, MOp.mv (Opd.s 4), none⟩,
 ⟨some 6, MOp.mv (Opd.s 0), some (5, false)⟩,
 ⟨some 7, MOp.nchk (Opd.s 6), some (5, false)⟩,
 ⟨some 8, MOp.fa 4 (Opd.s 7), some (5, false)⟩,
 ⟨some 9, MOp.load none (Opd.s 8), some (5, false)⟩,
 ⟨some 10, MOp.pick (Opd.s 5) (Opd.c (AV.bool true)) (Opd.s 9), none⟩,
 ⟨some 11, MOp.mv (Opd.s 10), none⟩,
 ⟨some 12, MOp.mv (Opd.s 0), some (11, false)⟩,
 ⟨some 13, MOp.nchk (Opd.s 12), some (11, false)⟩,
 ⟨some 14, MOp.fa 0 (Opd.s 13), some (11, false)⟩,
 ⟨some 15, MOp.load none (Opd.s 14), some (11, false)⟩,
 ⟨some 16, MOp.bin .neq (Opd.s 15)
 (Opd.c (AV.int .i64 1)), some (11, false)⟩,
 ⟨some 17, MOp.pick (Opd.s 11) (Opd.c (AV.bool true)) (Opd.s 16), none⟩]).seq
 (MC.cond (Opd.s 17)
 ((MC.reg
 [⟨some 2, MOp.mv (Opd.c (AV.bool false)), none⟩]).seq
 MC.ret)
 MC.skip)).seq
 ((MC.reg
 [⟨some 18, MOp.mv (Opd.s 0), none⟩,
 ⟨some 19, MOp.nchk (Opd.s 18), none⟩,
 ⟨some 20, MOp.fa 4 (Opd.s 19), none⟩,
 ⟨none, MOp.store 1 (Opd.s 20) (Opd.c (AV.bool true)), none⟩]).seq
 ((MC.reg
 [⟨some 2, MOp.mv (Opd.c (AV.bool true)), none⟩]).seq
 MC.ret))) ⟩
def M49 : MFun :=
 ⟨42, [MRes.tmp 0 4, MRes.tmp 0 5], (MC.reg
 [⟨some 3, MOp.box (Opd.s 1), none⟩,
 ⟨some 4, MOp.mv (Opd.c (AV.str [])), none⟩,
 ⟨some 5, MOp.mv (Opd.c (AV.bool false)), none⟩]).seq
 (((MC.reg
 [⟨some 6, MOp.mv (Opd.s 0), none⟩,
 ⟨some 7, MOp.load (some 9) (Opd.s 3), none⟩,
 ⟨some 8, MOp.call 62 [(0, Opd.s 6), (0, Opd.s 7)], none⟩,
 ⟨some 9, MOp.un .not (Opd.s 8), none⟩]).seq
 (MC.cond (Opd.s 9)
 ((MC.reg
 [⟨some 4, MOp.mv (Opd.c (AV.str [])), none⟩,
 ⟨some 5, MOp.mv (Opd.c (AV.bool false)), none⟩]).seq
 MC.ret)
 MC.skip)).seq
 ((MC.draw
 [⟨some 10, MOp.mv (Opd.s 0), none⟩,
 ⟨some 11, MOp.nchk (Opd.s 10), none⟩,
 ⟨some 12, MOp.fa 2 (Opd.s 11), none⟩,
 ⟨some 13, MOp.load none (Opd.s 12), none⟩,
 ⟨some 14, MOp.fa 5 (Opd.s 3), none⟩,
 ⟨some 15, MOp.load none (Opd.s 14), none⟩,
 ⟨some 16, MOp.call 36 [(0, Opd.s 13), (0, Opd.s 15)], none⟩]
 [0, 1, 3, 7, 0, 16, 63]).seq
 ((MC.reg
 [⟨some 17, MOp.mv (Opd.s 0), none⟩,
 ⟨some 18, MOp.mv (Opd.s 0), none⟩,
 ⟨some 19, MOp.nchk (Opd.s 18), none⟩,
 ⟨some 20, MOp.fa 4 (Opd.s 19), none⟩,
 ⟨some 21, MOp.load none (Opd.s 20), none⟩,
 ⟨some 22, MOp.mv (Opd.s 21), none⟩,
 ⟨some 23, MOp.fa 7 (Opd.s 3), some (22, false)⟩,
 ⟨some 24, MOp.load none (Opd.s 23), some (22, false)⟩,
 ⟨some 25, MOp.pick (Opd.s 22) (Opd.c (AV.bool true)) (Opd.s 24), none⟩,
 ⟨some 26, MOp.nchk (Opd.s 17), none⟩,
 ⟨some 27, MOp.fa 4 (Opd.s 26), none⟩,
 ⟨none, MOp.store 1 (Opd.s 27) (Opd.s 25), none⟩]).seq
 (((MC.reg
 [⟨some 28, MOp.fa 3 (Opd.s 3), none⟩,
 ⟨some 29, MOp.load none (Opd.s 28), none⟩,
 ⟨some 30, MOp.bin .neq (Opd.s 29)
 (Opd.c (AV.int .i64 1)), none⟩]).seq
 (MC.cond (Opd.s 30)
 ((MC.reg
 [⟨some 4, MOp.mv (Opd.c (AV.str [])), none⟩,
 ⟨some 5, MOp.mv (Opd.c (AV.bool false)), none⟩]).seq
 MC.ret)
 MC.skip)).seq
 ((MC.draw
 [⟨some 31, MOp.mv (Opd.s 0), none⟩,
 ⟨some 32, MOp.nchk (Opd.s 31), none⟩,
 ⟨some 33, MOp.fa 3 (Opd.s 32), none⟩,
 ⟨some 34, MOp.load none (Opd.s 33), none⟩,
 ⟨some 35, MOp.fa 6 (Opd.s 3), none⟩,
 ⟨some 36, MOp.load none (Opd.s 35), none⟩,
 ⟨some 37, MOp.fa 8 (Opd.s 3), none⟩,
 ⟨some 38, MOp.load none (Opd.s 37), none⟩,
 ⟨some 39, MOp.call 28 [(0, Opd.s 34), (0, Opd.s 36), (0, Opd.s 38)], none⟩,
 ⟨some 40, MOp.ext 0 (Opd.s 39), none⟩,
 ⟨some 41, MOp.ext 1 (Opd.s 39), none⟩,
 ⟨some 4, MOp.mv (Opd.s 40), none⟩,
 ⟨some 5, MOp.mv (Opd.s 41), none⟩]
 [0, 1, 3, 7, 0, 16, 0, 64, 255, 511, 511, 2047, 4095]).seq
 MC.ret))))) ⟩
def M57 : MFun :=
 ⟨20, [], (MC.reg
 [⟨some 2, MOp.mv (Opd.s 0), none⟩,
 ⟨some 3, MOp.eqv true EqK.ptr (Opd.s 2) (Opd.c AV.nilp), none⟩]).seq
 (MC.cond (Opd.s 3)
 ((MC.reg
 [⟨some 4, MOp.mv (Opd.s 0), none⟩,
 ⟨some 5, MOp.mv (Opd.s 0), none⟩,
 ⟨some 6, MOp.nchk (Opd.s 5), none⟩,
 ⟨some 7, MOp.fa 0 (Opd.s 6), none⟩,
 ⟨some 8, MOp.load none (Opd.s 7), none⟩,
 ⟨some 9, MOp.bin .sub (Opd.c (AV.int .i64 3))
 (Opd.s 8), none⟩,
 ⟨some 10, MOp.nchk (Opd.s 4), none⟩,
 ⟨some 11, MOp.fa 0 (Opd.s 10), none⟩,
 ⟨none, MOp.store 1 (Opd.s 11) (Opd.s 9), none⟩]).seq
 (MC.reg
 [⟨some 12, MOp.mv (Opd.s 0), none⟩,
 ⟨some 13, MOp.mv (Opd.s 0), none⟩,
 ⟨some 14, MOp.nchk (Opd.s 13), none⟩,
 ⟨some 15, MOp.fa 0 (Opd.s 14), none⟩,
 ⟨some 16, MOp.load none (Opd.s 15), none⟩,
 ⟨some 17, MOp.bin .eql (Opd.s 16)
 (Opd.c (AV.int .i64 1)), none⟩,
 ⟨some 18, MOp.nchk (Opd.s 12), none⟩,
 ⟨some 19, MOp.fa 4 (Opd.s 18), none⟩,
 ⟨none, MOp.store 1 (Opd.s 19) (Opd.s 17), none⟩]))
 MC.skip) ⟩
def M59 : MFun :=
 ⟨9, [MRes.tmp 0 2], (MC.reg
 [⟨some 2, MOp.mv (Opd.c (AV.int .i64 0)), none⟩]).seq
 (((MC.reg
 [⟨some 3, MOp.mv (Opd.s 0), none⟩,
 ⟨some 4, MOp.eqv false EqK.ptr (Opd.s 3) (Opd.c AV.nilp), none⟩]).seq
 (MC.cond (Opd.s 4)
 ((MC.reg
 [⟨some 2, MOp.mv (Opd.c (AV.int .i64 0)), none⟩]).seq
 MC.ret)
 MC.skip)).seq
 ((MC.reg
 [⟨some 5, MOp.mv (Opd.s 0), none⟩,
 ⟨some 6, MOp.nchk (Opd.s 5), none⟩,
 ⟨some 7, MOp.fa 0 (Opd.s 6), none⟩,
 ⟨some 8, MOp.load none (Opd.s 7), none⟩,
 ⟨some 2, MOp.mv (Opd.s 8), none⟩]).seq
 MC.ret)) ⟩
def M62 : MFun :=
 ⟨34, [MRes.tmp 0 4], (MC.reg
 [⟨some 3, MOp.box (Opd.s 1), none⟩,
 ⟨some 4, MOp.mv (Opd.c (AV.bool false)), none⟩]).seq
 (((MC.draw
 [⟨some 5, MOp.mv (Opd.s 0), none⟩,
 ⟨some 6, MOp.eqv false EqK.ptr (Opd.s 5) (Opd.c AV.nilp), none⟩,
 ⟨some 7, MOp.mv (Opd.s 6), none⟩,
 ⟨some 8, MOp.fa 2 (Opd.s 3), some (7, false)⟩,
 ⟨some 9, MOp.load none (Opd.s 8), some (7, false)⟩,
 ⟨some 10, MOp.mv (Opd.s 0), some (7, false)⟩,
 ⟨some 11, MOp.nchk (Opd.s 10), some (7, false)⟩,
 ⟨some 12, MOp.fa 0 (Opd.s 11), some (7, false)⟩,
 ⟨some 13, MOp.load none (Opd.s 12), some (7, false)⟩,
 ⟨some 14, MOp.bin .eql (Opd.s 13)
 (Opd.c (AV.int .i64 2)), some (7, false)⟩,
 ⟨some 15, MOp.eqv true (EqK.flat (EqF.one SK.b)) (Opd.s 9)
 (Opd.s 14), some (7, false)⟩,
 ⟨some 16, MOp.pick (Opd.s 7) (Opd.c (AV.bool true)) (Opd.s 15), none⟩]
 [0, 1, 3, 7, 15, 7, 39, 103, 231, 487, 1023, 2047]).seq
 (MC.cond (Opd.s 16)
 ((MC.reg
 [⟨some 4, MOp.mv (Opd.c (AV.bool false)), none⟩]).seq
 MC.ret)
 MC.skip)).seq
 ((MC.reg
 [⟨some 17, MOp.fa 3 (Opd.s 3), none⟩,
 ⟨some 18, MOp.load none (Opd.s 17), none⟩,
 ⟨some 19, MOp.bin .eql (Opd.s 18)
 (Opd.c (AV.int .i64 1)), none⟩,
 ⟨some 20, MOp.mv (Opd.s 19), none⟩,
 ⟨some 21, MOp.fa 3 (Opd.s 3), some (20, false)⟩,
 ⟨some 22, MOp.load none (Opd.s 21), some (20, false)⟩,
 ⟨some 23, MOp.bin .eql (Opd.s 22)
 (Opd.c (AV.int .i64 2)), some (20, false)⟩,
 ⟨some 24, MOp.pick (Opd.s 20) (Opd.c (AV.bool true)) (Opd.s 23), none⟩,
 ⟨some 25, MOp.mv (Opd.s 24), none⟩,
 ⟨some 26, MOp.fa 5 (Opd.s 3), some (25, true)⟩,
 ⟨some 27, MOp.load none (Opd.s 26), some (25, true)⟩,
 ⟨some 28, MOp.fa 6 (Opd.s 3), some (25, true)⟩,
 ⟨some 29, MOp.load none (Opd.s 28), some (25, true)⟩,
 ⟨some 30, MOp.build
 [AV.int .i64 0, AV.int .i64 0,
 AV.bool false]
 [(0, 1, Opd.s 27), (1, 1, Opd.s 29)], some (25, true)⟩,
 ⟨some 31, MOp.mki 100 (Opd.s 30), some (25, true)⟩,
 ⟨some 32, MOp.call 68 [(0, Opd.s 31)], some (25, true)⟩,
 ⟨some 33, MOp.pick (Opd.s 25) (Opd.s 32) (Opd.c (AV.bool false)), none⟩,
 ⟨some 4, MOp.mv (Opd.s 33), none⟩]).seq
 MC.ret)) ⟩
theorem tab42 : tableOf Tryd.prog 42 = some M42 := by kernel_rfl
theorem tab43 : tableOf Tryd.prog 43 = some M43 := by kernel_rfl
theorem tab44 : tableOf Tryd.prog 44 = some M44 := by kernel_rfl
theorem tab49 : tableOf Tryd.prog 49 = some M49 := by kernel_rfl
theorem tab57 : tableOf Tryd.prog 57 = some M57 := by kernel_rfl
theorem tab59 : tableOf Tryd.prog 59 = some M59 := by kernel_rfl
theorem tab62 : tableOf Tryd.prog 62 = some M62 := by kernel_rfl
end Go.Proofs.YtochnineebgbgaaDoor
