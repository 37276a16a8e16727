/- Functions of the program in the evaluator's form, written out by a program. No conditions. -/
import Derived.Test.YtbeimfhodgmjhaaDoorM8
set_option linter.unusedVariables false
namespace Go.Proofs.YtbeimfhodgmjhaaDoor
open Go Go.Ab
def M52b0 : MC :=
 (((MC.reg
 [⟨some 28, MOp.mv (Opd.s 1), none⟩,
 ⟨some 29, MOp.mv (Opd.s 8), none⟩,
 ⟨some 30, MOp.call 80 [(1, Opd.s 28), (0, Opd.s 29)], none⟩]).seq
 (MC.cond (Opd.s 30) MC.skip (MC.exit 2))).seq
 (MC.block 3
 (MC.reg
 [⟨some 31, MOp.mv (Opd.s 8), none⟩,
 ⟨some 32, MOp.bin .add (Opd.s 31)
 (Opd.c (AV.int .u32 1)), none⟩,
 ⟨some 8, MOp.mv (Opd.s 32), none⟩])))
def M52b0l : List Bool := [true, true, false, false, false, false, false, false, true, false, false, false, false, false, false, false, false, false, false, false, false, false, false, false, false, false, false, false, false, false, false, false, false, false, false, false]
def M52b1 : MC :=
 ((MC.reg
 [⟨some 12, MOp.bin .lss (Opd.s 11) (Opd.s 10), none⟩]).seq
 ((MC.cond (Opd.s 12) MC.skip (MC.exit 0)).seq
 ((MC.block 1
 ((MC.reg
 [⟨some 13, MOp.mv (Opd.s 11), none⟩,
 ⟨some 14, MOp.ixa 1 (Opd.s 9) (Opd.s 11), none⟩,
 ⟨some 15, MOp.load none (Opd.s 14), none⟩,
 ⟨some 6, MOp.mv (Opd.s 13), none⟩,
 ⟨some 7, MOp.mv (Opd.s 15), none⟩]).seq
 ((MC.reg
 [⟨some 16, MOp.mv (Opd.s 7), none⟩,
 ⟨some 17, MOp.call 76 [(0, Opd.s 16)], none⟩,
 ⟨some 18, MOp.mv (Opd.s 17), none⟩,
 ⟨some 19, MOp.mv (Opd.s 1), some (18, true)⟩,
 ⟨some 20, MOp.mv (Opd.s 7), some (18, true)⟩,
 ⟨some 21, MOp.call 80 [(1, Opd.s 19), (0, Opd.s 20)], some (18, true)⟩,
 ⟨some 22, MOp.un .not (Opd.s 21), some (18, true)⟩,
 ⟨some 23, MOp.pick (Opd.s 18) (Opd.s 22)
 (Opd.c (AV.bool false)), none⟩]).seq
 (MC.cond (Opd.s 23)
 ((MC.reg
 [⟨some 24, MOp.mv (Opd.s 7), none⟩,
 ⟨some 25, MOp.mv (Opd.s 6), none⟩,
 ⟨some 26, MOp.bin .add (Opd.s 25)
 (Opd.c (AV.int .i64 1)), none⟩,
 ⟨some 4, MOp.mv (Opd.s 24), none⟩,
 ⟨some 5, MOp.mv (Opd.s 26), none⟩]).seq
 MC.ret)
 MC.skip)))).seq
 (MC.reg
 [⟨some 27, MOp.bin .add (Opd.s 11)
 (Opd.c (AV.int .i64 1)), none⟩,
 ⟨some 11, MOp.mv (Opd.s 27), none⟩]))))
def M52b1l : List Bool := [true, true, false, false, false, false, false, false, false, true, true, true, false, false, false, false, false, false, false, false, false, false, false, false, false, false, false, false, false, false, false, false, false, false, false, false]
def M52r0 : MC :=
 ((MC.reg
 [⟨some 33, MOp.mv (Opd.s 8), none⟩,
 ⟨some 34, MOp.mv (Opd.s 0), none⟩,
 ⟨some 35, MOp.len (Opd.s 34), none⟩,
 ⟨some 4, MOp.mv (Opd.s 33), none⟩,
 ⟨some 5, MOp.mv (Opd.s 35), none⟩]).seq
 MC.ret)
def M52r1 : MC :=
 ((MC.reg
 [⟨some 8, MOp.mv (Opd.c (AV.int .u32 1)), none⟩]).seq
 ((MC.block 2
 (MC.loop M52b0l M52b0)).seq
 M52r0))
def M52 : MFun :=
 ⟨36, [MRes.tmp 0 4, MRes.tmp 0 5], (MC.reg
 [⟨some 4, MOp.mv (Opd.c (AV.int .u32 0)), none⟩,
 ⟨some 5, MOp.mv (Opd.c (AV.int .i64 0)), none⟩]).seq
 (((MC.reg
 [⟨some 9, MOp.mv (Opd.s 0), none⟩,
 ⟨some 10, MOp.len (Opd.s 9), none⟩,
 ⟨some 11, MOp.mv (Opd.c (AV.int .i64 0)), none⟩]).seq
 (MC.block 0
 (MC.loop M52b1l M52b1))).seq
 M52r1) ⟩
def M53b0 : MC :=
 (((MC.reg
 [⟨some 34, MOp.mv (Opd.s 1), none⟩,
 ⟨some 35, MOp.mv (Opd.s 7), none⟩,
 ⟨some 36, MOp.call 81 [(1, Opd.s 34), (0, Opd.s 35)], none⟩]).seq
 (MC.cond (Opd.s 36) MC.skip (MC.exit 2))).seq
 (MC.block 3
 (MC.reg
 [⟨some 37, MOp.mv (Opd.s 7), none⟩,
 ⟨some 38, MOp.bin .add (Opd.s 37)
 (Opd.c (AV.int .u32 1)), none⟩,
 ⟨some 7, MOp.mv (Opd.s 38), none⟩])))
def M53b0l : List Bool := [true, true, false, false, false, false, false, true, false, false, false, false, false, false, false, false, false, false, false, false, false, false, false, false, false, false, false, false, false, false, false, false, false, false, false, false, false, false, false, false, false, false]
def M53b1 : MC :=
 (((MC.reg
 [⟨some 8, MOp.mv (Opd.s 6), none⟩,
 ⟨some 9, MOp.mv (Opd.s 0), none⟩,
 ⟨some 10, MOp.len (Opd.s 9), none⟩,
 ⟨some 11, MOp.bin .lss (Opd.s 8) (Opd.s 10), none⟩]).seq
 (MC.cond (Opd.s 11) MC.skip (MC.exit 0))).seq
 ((MC.block 1
 ((MC.reg
 [⟨some 14, MOp.mv (Opd.s 0), none⟩,
 ⟨some 15, MOp.mv (Opd.s 6), none⟩,
 ⟨some 16, MOp.ixa 1 (Opd.s 14) (Opd.s 15), none⟩,
 ⟨some 17, MOp.load none (Opd.s 16), none⟩,
 ⟨some 18, MOp.call 59 [(0, Opd.s 17)], none⟩,
 ⟨some 19, MOp.mv (Opd.s 18), none⟩,
 ⟨some 20, MOp.mv (Opd.s 1), some (19, true)⟩,
 ⟨some 21, MOp.mv (Opd.s 0), some (19, true)⟩,
 ⟨some 22, MOp.mv (Opd.s 6), some (19, true)⟩,
 ⟨some 23, MOp.ixa 1 (Opd.s 21) (Opd.s 22), some (19, true)⟩,
 ⟨some 24, MOp.load none (Opd.s 23), some (19, true)⟩,
 ⟨some 25, MOp.call 81 [(1, Opd.s 20), (0, Opd.s 24)], some (19, true)⟩,
 ⟨some 26, MOp.un .not (Opd.s 25), some (19, true)⟩,
 ⟨some 27, MOp.pick (Opd.s 19) (Opd.s 26)
 (Opd.c (AV.bool false)), none⟩]).seq
 (MC.cond (Opd.s 27)
 ((MC.reg
 [⟨some 28, MOp.mv (Opd.s 0), none⟩,
 ⟨some 29, MOp.mv (Opd.s 6), none⟩,
 ⟨some 30, MOp.ixa 1 (Opd.s 28) (Opd.s 29), none⟩,
 ⟨some 31, MOp.load none (Opd.s 30), none⟩,
 ⟨some 32, MOp.mv (Opd.s 6), none⟩,
 ⟨some 33, MOp.bin .add (Opd.s 32)
 (Opd.c (AV.int .i64 1)), none⟩,
 ⟨some 4, MOp.mv (Opd.s 31), none⟩,
 ⟨some 5, MOp.mv (Opd.s 33), none⟩]).seq
 MC.ret)
 MC.skip))).seq
 (MC.reg
 [⟨some 12, MOp.mv (Opd.s 6), none⟩,
 ⟨some 13, MOp.bin .add (Opd.s 12)
 (Opd.c (AV.int .i64 1)), none⟩,
 ⟨some 6, MOp.mv (Opd.s 13), none⟩])))
def M53b1l : List Bool := [true, true, false, false, false, false, true, false, false, false, false, false, false, false, false, false, false, false, false, false, false, false, false, false, false, false, false, false, false, false, false, false, false, false, false, false, false, false, false, false, false, false]
def M53r0 : MC :=
 ((MC.reg
 [⟨some 39, MOp.mv (Opd.s 7), none⟩,
 ⟨some 40, MOp.mv (Opd.s 0), none⟩,
 ⟨some 41, MOp.len (Opd.s 40), none⟩,
 ⟨some 4, MOp.mv (Opd.s 39), none⟩,
 ⟨some 5, MOp.mv (Opd.s 41), none⟩]).seq
 MC.ret)
def M53r1 : MC :=
 ((MC.reg
 [⟨some 7, MOp.mv (Opd.c (AV.int .u32 1)), none⟩]).seq
 ((MC.block 2
 (MC.loop M53b0l M53b0)).seq
 M53r0))
def M53 : MFun :=
 ⟨42, [MRes.tmp 0 4, MRes.tmp 0 5], (MC.reg
 [⟨some 4, MOp.mv (Opd.c (AV.int .u32 0)), none⟩,
 ⟨some 5, MOp.mv (Opd.c (AV.int .i64 0)), none⟩]).seq
 (((MC.reg
 [⟨some 6, MOp.mv (Opd.c (AV.int .i64 0)), none⟩]).seq
 (MC.block 0
 (MC.loop M53b1l M53b1))).seq
 M53r1) ⟩
def M80 : MFun :=
 ⟨9, [MRes.tmp 0 4], (MC.reg
 [⟨some 4, MOp.mv (Opd.c (AV.bool false)), none⟩]).seq
 ((MC.reg
 [⟨some 5, MOp.mv (Opd.s 0), none⟩,
 ⟨some 6, MOp.mv (Opd.s 1), none⟩,
 ⟨some 7, MOp.call 93 [(1, Opd.s 5), (0, Opd.s 6)], none⟩,
 ⟨some 8, MOp.bin .geq (Opd.s 7)
 (Opd.c (AV.int .i64 0)), none⟩,
 ⟨some 4, MOp.mv (Opd.s 8), none⟩]).seq
 MC.ret) ⟩
def M81b0 : MC :=
 (((MC.reg
 [⟨some 6, MOp.mv (Opd.s 5), none⟩,
 ⟨some 7, MOp.mv (Opd.s 0), none⟩,
 ⟨some 8, MOp.len (Opd.s 7), none⟩,
 ⟨some 9, MOp.bin .lss (Opd.s 6) (Opd.s 8), none⟩]).seq
 (MC.cond (Opd.s 9) MC.skip (MC.exit 0))).seq
 ((MC.block 1
 ((MC.reg
 [⟨some 12, MOp.mv (Opd.s 0), none⟩,
 ⟨some 13, MOp.mv (Opd.s 5), none⟩,
 ⟨some 14, MOp.ixa 1 (Opd.s 12) (Opd.s 13), none⟩,
 ⟨some 15, MOp.load none (Opd.s 14), none⟩,
 ⟨some 16, MOp.mv (Opd.s 1), none⟩,
 ⟨some 17, MOp.bin .eql (Opd.s 15) (Opd.s 16), none⟩]).seq
 (MC.cond (Opd.s 17)
 ((MC.reg
 [⟨some 4, MOp.mv (Opd.c (AV.bool true)), none⟩]).seq
 MC.ret)
 MC.skip))).seq
 (MC.reg
 [⟨some 10, MOp.mv (Opd.s 5), none⟩,
 ⟨some 11, MOp.bin .add (Opd.s 10)
 (Opd.c (AV.int .i64 1)), none⟩,
 ⟨some 5, MOp.mv (Opd.s 11), none⟩])))
def M81b0l : List Bool := [true, true, false, false, false, true, false, false, false, false, false, false, false, false, false, false, false, false]
def M81r0 : MC :=
 ((MC.reg
 [⟨some 4, MOp.mv (Opd.c (AV.bool false)), none⟩]).seq
 MC.ret)
def M81 : MFun :=
 ⟨18, [MRes.tmp 0 4], (MC.reg
 [⟨some 4, MOp.mv (Opd.c (AV.bool false)), none⟩]).seq
 (((MC.reg
 [⟨some 5, MOp.mv (Opd.c (AV.int .i64 0)), none⟩]).seq
 (MC.block 0
 (MC.loop M81b0l M81b0))).seq
 M81r0) ⟩
def M93b0 : MC :=
 ((MC.reg
 [⟨some 9, MOp.bin .lss (Opd.s 8) (Opd.s 7), none⟩]).seq
 ((MC.cond (Opd.s 9) MC.skip (MC.exit 0)).seq
 ((MC.block 1
 ((MC.reg
 [⟨some 10, MOp.mv (Opd.s 8), none⟩,
 ⟨some 5, MOp.mv (Opd.s 10), none⟩]).seq
 ((MC.reg
 [⟨some 11, MOp.mv (Opd.s 1), none⟩,
 ⟨some 12, MOp.mv (Opd.s 0), none⟩,
 ⟨some 13, MOp.mv (Opd.s 5), none⟩,
 ⟨some 14, MOp.ixa 1 (Opd.s 12) (Opd.s 13), none⟩,
 ⟨some 15, MOp.load none (Opd.s 14), none⟩,
 ⟨some 16, MOp.bin .eql (Opd.s 11) (Opd.s 15), none⟩]).seq
 (MC.cond (Opd.s 16)
 ((MC.reg
 [⟨some 17, MOp.mv (Opd.s 5), none⟩,
 ⟨some 4, MOp.mv (Opd.s 17), none⟩]).seq
 MC.ret)
 MC.skip)))).seq
 (MC.reg
 [⟨some 18, MOp.bin .add (Opd.s 8)
 (Opd.c (AV.int .i64 1)), none⟩,
 ⟨some 8, MOp.mv (Opd.s 18), none⟩]))))
def M93b0l : List Bool := [true, true, false, false, false, false, false, true, true, false, false, false, false, false, false, false, false, false, false]
def M93r0 : MC :=
 ((MC.reg
 [⟨some 4, MOp.mv (Opd.c (AV.int .i64 (-1))), none⟩]).seq
 MC.ret)
def M93 : MFun :=
 ⟨19, [MRes.tmp 0 4], (MC.reg
 [⟨some 4, MOp.mv (Opd.c (AV.int .i64 0)), none⟩]).seq
 (((MC.reg
 [⟨some 6, MOp.mv (Opd.s 0), none⟩,
 ⟨some 7, MOp.len (Opd.s 6), none⟩,
 ⟨some 8, MOp.mv (Opd.c (AV.int .i64 0)), none⟩]).seq
 (MC.block 0
 (MC.loop M93b0l M93b0))).seq
 M93r0) ⟩
theorem tab52 : tableOf Tryd.prog 52 = some M52 := by kernel_rfl
theorem tab53 : tableOf Tryd.prog 53 = some M53 := by kernel_rfl
theorem tab80 : tableOf Tryd.prog 80 = some M80 := by kernel_rfl
theorem tab81 : tableOf Tryd.prog 81 = some M81 := by kernel_rfl
theorem tab93 : tableOf Tryd.prog 93 = some M93 := by kernel_rfl
end Go.Proofs.YtbeimfhodgmjhaaDoor
