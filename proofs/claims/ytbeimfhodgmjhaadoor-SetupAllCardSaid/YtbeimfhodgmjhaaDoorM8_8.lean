/- Functions of the program in the evaluator's form, written out by a program. No conditions. -/
import Derived.Test.YtbeimfhodgmjhaaDoorM8
set_option linter.unusedVariables false
namespace Go.Proofs.YtbeimfhodgmjhaaDoor
open Go Go.Ab
def M8b0 : MC :=
 ((MC.reg
 [⟨some 80, MOp.bin .lss (Opd.s 79) (Opd.s 78), none⟩]).seq
 ((MC.cond (Opd.s 80) MC.skip (MC.exit 0)).seq
 ((MC.block 1
 ((MC.reg
 [⟨some 81, MOp.ixa 1 (Opd.s 77) (Opd.s 79), none⟩,
 ⟨some 82, MOp.load none (Opd.s 81), none⟩,
 ⟨some 17, MOp.mv (Opd.s 82), none⟩]).seq
 ((MC.reg
 [⟨some 84, MOp.mv (Opd.s 17), none⟩,
 ⟨some 85, MOp.call 56 [(0, Opd.s 84)], none⟩,
 ⟨some 83, MOp.mv (Opd.s 85), none⟩,
 ⟨some 86, MOp.ext 0 (Opd.s 83), none⟩,
 ⟨some 87, MOp.ext 1 (Opd.s 83), none⟩,
 ⟨some 18, MOp.alloc
 [AV.int .u32 0,
 AV.int .u32 0,
 AV.int .i64 0,
 AV.int .i64 0,
 AV.int .i64 0,
 AV.int .i64 0,
 AV.int .i64 0,
 AV.int .i64 0,
 AV.int .i64 0], none⟩,
 ⟨none, MOp.store 9 (Opd.s 18) (Opd.s 86), none⟩,
 ⟨some 19, MOp.mv (Opd.s 87), none⟩]).seq
 ((MC.reg
 [⟨some 89, MOp.mv (Opd.s 17), none⟩,
 ⟨some 90, MOp.call 57 [(0, Opd.s 89)], none⟩,
 ⟨some 88, MOp.mv (Opd.s 90), none⟩,
 ⟨some 91, MOp.ext 0 (Opd.s 88), none⟩,
 ⟨some 92, MOp.ext 1 (Opd.s 88), none⟩,
 ⟨some 20, MOp.alloc
 [AV.int .u32 0,
 AV.int .u32 0,
 AV.int .i64 0,
 AV.int .i64 0,
 AV.int .i64 0,
 AV.int .i64 0,
 AV.int .i64 0,
 AV.int .i64 0,
 AV.int .i64 0], none⟩,
 ⟨none, MOp.store 9 (Opd.s 20) (Opd.s 91), none⟩,
 ⟨some 21, MOp.mv (Opd.s 92), none⟩]).seq
 ((MC.reg
 [⟨some 93, MOp.load (some 9) (Opd.s 18), none⟩,
 ⟨some 94, MOp.load (some 9) (Opd.s 20), none⟩,
 ⟨some 95, MOp.eqv true
 (EqK.flat
 (EqF.many
 [SK.i, SK.i, SK.i, SK.i,
 SK.i, SK.i, SK.i, SK.i,
 SK.i]))
 (Opd.s 93) (Opd.s 94), none⟩,
 ⟨some 96, MOp.mv (Opd.s 95), none⟩,
 ⟨some 97, MOp.mv (Opd.s 19), some (96, false)⟩,
 ⟨some 98, MOp.mv (Opd.s 21), some (96, false)⟩,
 ⟨some 99, MOp.eqv true
 (EqK.flat (EqF.one SK.b))
 (Opd.s 97) (Opd.s 98), some (96, false)⟩,
 ⟨some 100, MOp.pick (Opd.s 96)
 (Opd.c (AV.bool true))
 (Opd.s 99), none⟩]).seq
 (MC.cond (Opd.s 100)
 ((MC.reg
 [⟨some 8, MOp.mv (Opd.c (AV.bool false)), none⟩]).seq
 MC.ret)
 MC.skip)))))).seq
 (MC.reg
 [⟨some 101, MOp.bin .add (Opd.s 79)
 (Opd.c (AV.int .i64 1)), none⟩,
 ⟨some 79, MOp.mv (Opd.s 101), none⟩]))))
def M8b0l : List Bool := [false, false, false, false, true, false, false, false, false, false, true, true, false, false, false, false, false, false, false, false, false, false, false, false, false, false, false, false, false, false, false, false, false, false, false, false, false, false, false, false, false, false, false, false, false, false, false, false, false, false, false, false, false, false, false, false, false, false, false, false, false, false, false, false, false, false, false, false, false, false, false, false, false, false, false, false, false, true, true, true, false, false, false, false, false, false, false, false, false, false, false, false, false, false, false, false, false, false, false, false, false, false, false, false, false, false, false, false, false, false, false, false, false, false, false, false, false, false, false]
def M8r0 : MC :=
 ((MC.reg
 [⟨some 103, MOp.mv (Opd.s 10), none⟩,
 ⟨some 104, MOp.call 56 [(0, Opd.s 103)], none⟩,
 ⟨some 102, MOp.mv (Opd.s 104), none⟩,
 ⟨some 105, MOp.ext 0 (Opd.s 102), none⟩,
 ⟨some 106, MOp.ext 1 (Opd.s 102), none⟩,
 ⟨some 22, MOp.alloc
 [AV.int .u32 0,
 AV.int .u32 0,
 AV.int .i64 0,
 AV.int .i64 0,
 AV.int .i64 0,
 AV.int .i64 0,
 AV.int .i64 0,
 AV.int .i64 0,
 AV.int .i64 0], none⟩,
 ⟨none, MOp.store 9 (Opd.s 22) (Opd.s 105), none⟩,
 ⟨some 23, MOp.mv (Opd.s 106), none⟩]).seq
 ((MC.reg
 [⟨some 107, MOp.mv (Opd.s 23), none⟩,
 ⟨some 108, MOp.mv (Opd.s 11), none⟩,
 ⟨some 109, MOp.eqv false (EqK.flat (EqF.one SK.b))
 (Opd.s 107) (Opd.s 108), none⟩,
 ⟨some 110, MOp.mv (Opd.s 109), none⟩,
 ⟨some 111, MOp.mv (Opd.s 11), some (110, true)⟩,
 ⟨some 112, MOp.un .not (Opd.s 111), some (110, true)⟩,
 ⟨some 113, MOp.mv (Opd.s 112), some (110, true)⟩,
 ⟨some 114, MOp.load (some 9) (Opd.s 22), some (113, false)⟩,
 ⟨some 115, MOp.load (some 9) (Opd.s 4), some (113, false)⟩,
 ⟨some 116, MOp.eqv false
 (EqK.flat
 (EqF.many
 [SK.i, SK.i, SK.i, SK.i, SK.i, SK.i,
 SK.i, SK.i, SK.i]))
 (Opd.s 114) (Opd.s 115), some (113, false)⟩,
 ⟨some 117, MOp.pick (Opd.s 113) (Opd.c (AV.bool true))
 (Opd.s 116), some (110, true)⟩,
 ⟨some 118, MOp.pick (Opd.s 110) (Opd.s 117)
 (Opd.c (AV.bool false)), none⟩,
 ⟨some 8, MOp.mv (Opd.s 118), none⟩]).seq
 MC.ret))
def M8 : MFun :=
 ⟨119, [MRes.tmp 0 8], (MC.reg
 [⟨some 4, MOp.box (Opd.s 0), none⟩,
 ⟨some 8, MOp.mv (Opd.c (AV.bool false)), none⟩]).seq
 ((MC.reg
 [⟨some 24, MOp.call 21 [], none⟩,
 ⟨some 9, MOp.mv (Opd.s 24), none⟩]).seq
 (((MC.reg
 [⟨some 25, MOp.mv (Opd.s 9), none⟩,
 ⟨some 26, MOp.un .not (Opd.s 25), none⟩]).seq
 (MC.cond (Opd.s 26)
 ((MC.reg
 [⟨some 8, MOp.mv (Opd.c (AV.bool false)), none⟩]).seq
 MC.ret)
 MC.skip)).seq
 ((MC.reg
 [⟨some 27, MOp.mv (Opd.s 1), none⟩,
 ⟨some 28, MOp.call 22
 [(0, Opd.s 27), (0, Opd.c (AV.int .i64 70))], none⟩,
 ⟨some 1, MOp.mv (Opd.s 28), none⟩]).seq
 ((MC.reg
 [⟨some 30, MOp.load (some 9) (Opd.s 4), none⟩,
 ⟨some 31, MOp.call 54 [(0, Opd.s 30)], none⟩,
 ⟨some 29, MOp.mv (Opd.s 31), none⟩,
 ⟨some 32, MOp.ext 0 (Opd.s 29), none⟩,
 ⟨some 33, MOp.ext 1 (Opd.s 29), none⟩,
 ⟨some 10, MOp.mv (Opd.s 32), none⟩,
 ⟨some 11, MOp.mv (Opd.s 33), none⟩]).seq
 ((MC.reg
 [⟨some 35, MOp.load (some 9) (Opd.s 4), none⟩,
 ⟨some 36, MOp.call 55 [(0, Opd.s 35)], none⟩,
 ⟨some 34, MOp.mv (Opd.s 36), none⟩,
 ⟨some 37, MOp.ext 0 (Opd.s 34), none⟩,
 ⟨some 38, MOp.ext 1 (Opd.s 34), none⟩,
 ⟨some 12, MOp.mv (Opd.s 37), none⟩,
 ⟨some 13, MOp.mv (Opd.s 38), none⟩]).seq
 (((MC.reg
 [⟨some 39, MOp.mv (Opd.s 10), none⟩,
 ⟨some 40, MOp.mv (Opd.s 12), none⟩,
 ⟨some 41, MOp.bin .neq (Opd.s 39) (Opd.s 40), none⟩,
 ⟨some 42, MOp.mv (Opd.s 41), none⟩,
 ⟨some 43, MOp.mv (Opd.s 11), some (42, false)⟩,
 ⟨some 44, MOp.mv (Opd.s 13), some (42, false)⟩,
 ⟨some 45, MOp.eqv true (EqK.flat (EqF.one SK.b)) (Opd.s 43)
 (Opd.s 44), some (42, false)⟩,
 ⟨some 46, MOp.pick (Opd.s 42) (Opd.c (AV.bool true))
 (Opd.s 45), none⟩]).seq
 (MC.cond (Opd.s 46)
 ((MC.reg
 [⟨some 8, MOp.mv (Opd.c (AV.bool false)), none⟩]).seq
 MC.ret)
 MC.skip)).seq
 ((MC.reg
 [⟨some 47, MOp.mv (Opd.s 10), none⟩,
 ⟨some 14, MOp.mv (Opd.s 47), none⟩]).seq
 (((MC.reg
 [⟨some 48, MOp.mv (Opd.s 10), none⟩,
 ⟨some 49, MOp.lens (Opd.s 48), none⟩,
 ⟨some 50, MOp.bin .gtr (Opd.s 49)
 (Opd.c (AV.int .i64 0)), none⟩,
 ⟨some 51, MOp.mv (Opd.s 50), none⟩,
 ⟨some 52, MOp.mv (Opd.s 2), some (51, true)⟩,
 ⟨some 53, MOp.bin .geq (Opd.s 52)
 (Opd.c (AV.int .i64 0)), some (51, true)⟩,
 ⟨some 54, MOp.pick (Opd.s 51) (Opd.s 53)
 (Opd.c (AV.bool false)), none⟩]).seq
 (MC.cond (Opd.s 54)
 ((MC.reg
 [⟨some 55, MOp.mv (Opd.s 10), none⟩,
 ⟨some 56, MOp.conv Cv.s2h (Opd.s 55), none⟩,
 ⟨some 15, MOp.mv (Opd.s 56), none⟩]).seq
 ((MC.reg
 [⟨some 57, MOp.mv (Opd.s 15), none⟩,
 ⟨some 58, MOp.mv (Opd.s 2), none⟩,
 ⟨some 59, MOp.mv (Opd.s 15), none⟩,
 ⟨some 60, MOp.len (Opd.s 59), none⟩,
 ⟨some 61, MOp.bin .rem (Opd.s 58) (Opd.s 60), none⟩,
 ⟨some 62, MOp.mv (Opd.s 3), none⟩,
 ⟨some 63, MOp.ixa 1 (Opd.s 57) (Opd.s 61), none⟩,
 ⟨none, MOp.store 1 (Opd.s 63) (Opd.s 62), none⟩]).seq
 (MC.reg
 [⟨some 64, MOp.mv (Opd.s 15), none⟩,
 ⟨some 65, MOp.conv Cv.b2s (Opd.s 64), none⟩,
 ⟨some 14, MOp.mv (Opd.s 65), none⟩])))
 MC.skip)).seq
 (((MC.reg
 [⟨some 66, MOp.mv (Opd.s 10), none⟩,
 ⟨some 67, MOp.mv (Opd.s 1), none⟩,
 ⟨some 68, MOp.mv (Opd.s 14), none⟩,
 ⟨some 69, MOp.mv (Opd.s 10), none⟩,
 ⟨some 70, MOp.mv (Opd.s 1), none⟩,
 ⟨some 71, MOp.bin .add (Opd.s 69) (Opd.s 70), none⟩,
 ⟨some 72, MOp.mv (Opd.s 10), none⟩,
 ⟨some 73, MOp.mv (Opd.s 10), none⟩,
 ⟨some 74, MOp.lens (Opd.s 73), none⟩,
 ⟨some 75, MOp.mn
 [Opd.s 74, Opd.c (AV.int .i64 12)], none⟩,
 ⟨some 76, MOp.sls (Opd.s 72) none (some (Opd.s 75)), none⟩,
 ⟨some 77, MOp.bsl false 1 5
 [AV.str [], AV.str [], AV.str [], AV.str [],
 AV.str []]
 [(0, 1, Opd.s 66), (1, 1, Opd.s 67), (2, 1, Opd.s 68),
 (3, 1, Opd.s 71), (4, 1, Opd.s 76)], none⟩,
 ⟨some 78, MOp.len (Opd.s 77), none⟩,
 ⟨some 79, MOp.mv (Opd.c (AV.int .i64 0)), none⟩]).seq
 (MC.block 0
 (MC.loop M8b0l M8b0))).seq
 M8r0))))))))) ⟩
theorem tab8 : tableOf Tryd.prog 8 = some M8 := by kernel_rfl
end Go.Proofs.YtbeimfhodgmjhaaDoor
