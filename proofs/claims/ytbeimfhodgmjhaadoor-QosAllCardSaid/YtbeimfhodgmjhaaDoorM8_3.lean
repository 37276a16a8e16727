/- Functions of the program in the evaluator's form, written out by a program. No conditions. -/
import Derived.Test.YtbeimfhodgmjhaaDoorM8
set_option linter.unusedVariables false
namespace Go.Proofs.YtbeimfhodgmjhaaDoor
open Go Go.Ab
def M3b0 : MC :=
 ((MC.reg
 [⟨some 105, MOp.bin .lss (Opd.s 104) (Opd.s 103), none⟩]).seq
 ((MC.cond (Opd.s 105) MC.skip (MC.exit 0)).seq
 ((MC.block 1
 ((MC.reg
 [⟨some 106, MOp.ixa 1 (Opd.s 102) (Opd.s 104), none⟩,
 ⟨some 107, MOp.load none (Opd.s 106), none⟩,
 ⟨some 19, MOp.mv (Opd.s 107), none⟩]).seq
 ((MC.reg
 [⟨some 109, MOp.mv (Opd.s 19), none⟩,
 ⟨some 110, MOp.call 38 [(0, Opd.s 109)], none⟩,
 ⟨some 108, MOp.mv (Opd.s 110), none⟩,
 ⟨some 111, MOp.ext 0 (Opd.s 108), none⟩,
 ⟨some 112, MOp.ext 1 (Opd.s 108), none⟩,
 ⟨some 20, MOp.alloc
 [AV.int .i64 0,
 AV.int .i64 0,
 AV.int .i64 0,
 AV.int .i64 0,
 AV.int .i64 0], none⟩,
 ⟨none, MOp.store 5 (Opd.s 20) (Opd.s 111), none⟩,
 ⟨some 21, MOp.mv (Opd.s 112), none⟩]).seq
 ((MC.reg
 [⟨some 114, MOp.mv (Opd.s 19), none⟩,
 ⟨some 115, MOp.call 39 [(0, Opd.s 114)], none⟩,
 ⟨some 113, MOp.mv (Opd.s 115), none⟩,
 ⟨some 116, MOp.ext 0 (Opd.s 113), none⟩,
 ⟨some 117, MOp.ext 1 (Opd.s 113), none⟩,
 ⟨some 22, MOp.alloc
 [AV.int .i64 0,
 AV.int .i64 0,
 AV.int .i64 0,
 AV.int .i64 0,
 AV.int .i64 0], none⟩,
 ⟨none, MOp.store 5 (Opd.s 22) (Opd.s 116), none⟩,
 ⟨some 23, MOp.mv (Opd.s 117), none⟩]).seq
 ((MC.reg
 [⟨some 118, MOp.load (some 5) (Opd.s 20), none⟩,
 ⟨some 119, MOp.load (some 5) (Opd.s 22), none⟩,
 ⟨some 120, MOp.eqv true
 (EqK.flat
 (EqF.many
 [SK.i, SK.i, SK.i, SK.i,
 SK.i]))
 (Opd.s 118) (Opd.s 119), none⟩,
 ⟨some 121, MOp.mv (Opd.s 120), none⟩,
 ⟨some 122, MOp.mv (Opd.s 21), some (121, false)⟩,
 ⟨some 123, MOp.mv (Opd.s 23), some (121, false)⟩,
 ⟨some 124, MOp.eqv true
 (EqK.flat (EqF.one SK.b))
 (Opd.s 122) (Opd.s 123), some (121, false)⟩,
 ⟨some 125, MOp.pick (Opd.s 121)
 (Opd.c (AV.bool true)) (Opd.s 124), none⟩]).seq
 (MC.cond (Opd.s 125)
 ((MC.reg
 [⟨some 12, MOp.mv (Opd.c (AV.bool false)), none⟩]).seq
 MC.ret)
 MC.skip)))))).seq
 (MC.reg
 [⟨some 126, MOp.bin .add (Opd.s 104)
 (Opd.c (AV.int .i64 1)), none⟩,
 ⟨some 104, MOp.mv (Opd.s 126), none⟩]))))
def M3b0l : List Bool := [false, false, false, false, false, false, false, false, false, false, false, false, false, false, false, false, false, false, false, false, false, false, false, false, false, false, false, false, false, false, false, false, false, false, false, false, false, false, false, false, false, false, false, false, false, false, false, false, false, false, false, false, false, false, false, false, false, false, false, false, false, false, false, false, false, false, false, false, false, false, false, false, false, false, false, false, false, false, false, false, false, false, false, false, false, false, false, false, false, false, false, false, false, false, false, false, false, false, false, false, false, false, true, true, true, false, false, false, false, false, false, false, false, false, false, false, false, false, false, false, false, false, false, false, false, false, false]
def M3r0 : MC :=
 ((MC.reg
 [⟨some 12, MOp.mv (Opd.c (AV.bool true)), none⟩]).seq
 MC.ret)
def M3 : MFun :=
 ⟨127, [MRes.tmp 0 12], (MC.reg
 [⟨some 6, MOp.box (Opd.s 0), none⟩,
 ⟨some 12, MOp.mv (Opd.c (AV.bool false)), none⟩]).seq
 ((MC.reg
 [⟨some 24, MOp.call 21 [], none⟩,
 ⟨some 13, MOp.mv (Opd.s 24), none⟩]).seq
 (((MC.reg
 [⟨some 25, MOp.mv (Opd.s 13), none⟩,
 ⟨some 26, MOp.un .not (Opd.s 25), none⟩]).seq
 (MC.cond (Opd.s 26)
 ((MC.reg
 [⟨some 12, MOp.mv (Opd.c (AV.bool false)), none⟩]).seq
 MC.ret)
 MC.skip)).seq
 ((MC.reg
 [⟨some 27, MOp.mv (Opd.s 1), none⟩,
 ⟨some 28, MOp.call 22
 [(0, Opd.s 27), (0, Opd.c (AV.int .i64 70))], none⟩,
 ⟨some 1, MOp.mv (Opd.s 28), none⟩]).seq
 ((MC.reg
 [⟨some 30, MOp.load (some 5) (Opd.s 6), none⟩,
 ⟨some 31, MOp.call 23 [(0, Opd.s 30)], none⟩,
 ⟨some 29, MOp.mv (Opd.s 31), none⟩,
 ⟨some 32, MOp.ext 0 (Opd.s 29), none⟩,
 ⟨some 33, MOp.ext 1 (Opd.s 29), none⟩,
 ⟨some 14, MOp.mv (Opd.s 32), none⟩,
 ⟨some 15, MOp.mv (Opd.s 33), none⟩]).seq
 ((MC.reg
 [⟨some 35, MOp.load (some 5) (Opd.s 6), none⟩,
 ⟨some 36, MOp.call 24 [(0, Opd.s 35)], none⟩,
 ⟨some 34, MOp.mv (Opd.s 36), none⟩,
 ⟨some 37, MOp.ext 0 (Opd.s 34), none⟩,
 ⟨some 38, MOp.ext 1 (Opd.s 34), none⟩,
 ⟨some 16, MOp.mv (Opd.s 37), none⟩,
 ⟨some 17, MOp.mv (Opd.s 38), none⟩]).seq
 (((MC.reg
 [⟨some 39, MOp.mv (Opd.s 14), none⟩,
 ⟨some 40, MOp.mv (Opd.s 16), none⟩,
 ⟨some 41, MOp.bin .neq (Opd.s 39) (Opd.s 40), none⟩,
 ⟨some 42, MOp.mv (Opd.s 41), none⟩,
 ⟨some 43, MOp.mv (Opd.s 15), some (42, false)⟩,
 ⟨some 44, MOp.mv (Opd.s 17), some (42, false)⟩,
 ⟨some 45, MOp.eqv true (EqK.flat (EqF.one SK.b)) (Opd.s 43)
 (Opd.s 44), some (42, false)⟩,
 ⟨some 46, MOp.pick (Opd.s 42) (Opd.c (AV.bool true))
 (Opd.s 45), none⟩,
 ⟨some 47, MOp.mv (Opd.s 46), none⟩,
 ⟨some 48, MOp.load (some 5) (Opd.s 6), some (47, false)⟩,
 ⟨some 49, MOp.call 25 [(0, Opd.s 48)], some (47, false)⟩,
 ⟨some 50, MOp.mv (Opd.s 17), some (47, false)⟩,
 ⟨some 51, MOp.eqv true (EqK.flat (EqF.one SK.b)) (Opd.s 49)
 (Opd.s 50), some (47, false)⟩,
 ⟨some 52, MOp.pick (Opd.s 47) (Opd.c (AV.bool true))
 (Opd.s 51), none⟩,
 ⟨some 53, MOp.mv (Opd.s 52), none⟩,
 ⟨some 54, MOp.mv (Opd.s 2), some (53, false)⟩,
 ⟨some 55, MOp.call 26 [(0, Opd.s 54)], some (53, false)⟩,
 ⟨some 56, MOp.mv (Opd.s 2), some (53, false)⟩,
 ⟨some 57, MOp.call 27 [(0, Opd.s 56)], some (53, false)⟩,
 ⟨some 58, MOp.bin .neq (Opd.s 55) (Opd.s 57), some (53, false)⟩,
 ⟨some 59, MOp.pick (Opd.s 53) (Opd.c (AV.bool true))
 (Opd.s 58), none⟩,
 ⟨some 60, MOp.mv (Opd.s 59), none⟩,
 ⟨some 61, MOp.mv (Opd.s 2), some (60, false)⟩,
 ⟨some 62, MOp.call 28 [(0, Opd.s 61)], some (60, false)⟩,
 ⟨some 63, MOp.mv (Opd.s 2), some (60, false)⟩,
 ⟨some 64, MOp.call 29 [(0, Opd.s 63)], some (60, false)⟩,
 ⟨some 65, MOp.bin .neq (Opd.s 62) (Opd.s 64), some (60, false)⟩,
 ⟨some 66, MOp.pick (Opd.s 60) (Opd.c (AV.bool true))
 (Opd.s 65), none⟩,
 ⟨some 67, MOp.mv (Opd.s 66), none⟩,
 ⟨some 68, MOp.mv (Opd.s 3), some (67, false)⟩,
 ⟨some 69, MOp.call 30 [(0, Opd.s 68)], some (67, false)⟩,
 ⟨some 70, MOp.mv (Opd.s 3), some (67, false)⟩,
 ⟨some 71, MOp.call 31 [(0, Opd.s 70)], some (67, false)⟩,
 ⟨some 72, MOp.bin .neq (Opd.s 69) (Opd.s 71), some (67, false)⟩,
 ⟨some 73, MOp.pick (Opd.s 67) (Opd.c (AV.bool true))
 (Opd.s 72), none⟩,
 ⟨some 74, MOp.mv (Opd.s 73), none⟩,
 ⟨some 75, MOp.mv (Opd.s 3), some (74, false)⟩,
 ⟨some 76, MOp.call 32 [(0, Opd.s 75)], some (74, false)⟩,
 ⟨some 77, MOp.mv (Opd.s 3), some (74, false)⟩,
 ⟨some 78, MOp.call 33 [(0, Opd.s 77)], some (74, false)⟩,
 ⟨some 79, MOp.bin .neq (Opd.s 76) (Opd.s 78), some (74, false)⟩,
 ⟨some 80, MOp.pick (Opd.s 74) (Opd.c (AV.bool true))
 (Opd.s 79), none⟩,
 ⟨some 81, MOp.mv (Opd.s 80), none⟩,
 ⟨some 82, MOp.mv (Opd.s 3), some (81, false)⟩,
 ⟨some 83, MOp.call 34 [(0, Opd.s 82)], some (81, false)⟩,
 ⟨some 84, MOp.mv (Opd.s 3), some (81, false)⟩,
 ⟨some 85, MOp.call 35 [(0, Opd.s 84)], some (81, false)⟩,
 ⟨some 86, MOp.bin .neq (Opd.s 83) (Opd.s 85), some (81, false)⟩,
 ⟨some 87, MOp.pick (Opd.s 81) (Opd.c (AV.bool true))
 (Opd.s 86), none⟩,
 ⟨some 88, MOp.mv (Opd.s 87), none⟩,
 ⟨some 89, MOp.mv (Opd.s 4), some (88, false)⟩,
 ⟨some 90, MOp.mv (Opd.s 5), some (88, false)⟩,
 ⟨some 91, MOp.call 36 [(0, Opd.s 89), (0, Opd.s 90)], some (88, false)⟩,
 ⟨some 92, MOp.mv (Opd.s 4), some (88, false)⟩,
 ⟨some 93, MOp.mv (Opd.s 5), some (88, false)⟩,
 ⟨some 94, MOp.call 37 [(0, Opd.s 92), (0, Opd.s 93)], some (88, false)⟩,
 ⟨some 95, MOp.bin .neq (Opd.s 91) (Opd.s 94), some (88, false)⟩,
 ⟨some 96, MOp.pick (Opd.s 88) (Opd.c (AV.bool true))
 (Opd.s 95), none⟩]).seq
 (MC.cond (Opd.s 96)
 ((MC.reg
 [⟨some 12, MOp.mv (Opd.c (AV.bool false)), none⟩]).seq
 MC.ret)
 MC.skip)).seq
 (((MC.reg
 [⟨some 97, MOp.mv (Opd.s 14), none⟩,
 ⟨some 98, MOp.mv (Opd.s 1), none⟩,
 ⟨some 99, MOp.mv (Opd.s 14), none⟩,
 ⟨some 100, MOp.mv (Opd.s 1), none⟩,
 ⟨some 101, MOp.bin .add (Opd.s 99) (Opd.s 100), none⟩,
 ⟨some 102, MOp.bsl false 1 3 [AV.str [], AV.str [], AV.str []]
 [(0, 1, Opd.s 97), (1, 1, Opd.s 98), (2, 1, Opd.s 101)], none⟩,
 ⟨some 103, MOp.len (Opd.s 102), none⟩,
 ⟨some 104, MOp.mv (Opd.c (AV.int .i64 0)), none⟩]).seq
 (MC.block 0
 (MC.loop M3b0l M3b0))).seq
 M3r0))))))) ⟩
theorem tab3 : tableOf Tryd.prog 3 = some M3 := by kernel_rfl
end Go.Proofs.YtbeimfhodgmjhaaDoor
