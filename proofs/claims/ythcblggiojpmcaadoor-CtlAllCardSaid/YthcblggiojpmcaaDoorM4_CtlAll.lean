/- Functions of the program in the evaluator's form, written out by a program. No conditions. -/
import Derived.Test.YthcblggiojpmcaaDoorM4
set_option linter.unusedVariables false
namespace Go.Proofs.YthcblggiojpmcaaDoor
open Go Go.Ab
def M5 : MFun :=
 ⟨121, [MRes.tmp 0 4], (MC.reg
 [⟨some 2, MOp.box (Opd.s 0), none⟩,
 ⟨some 4, MOp.mv (Opd.c (AV.bool false)), none⟩]).seq
 ((MC.reg
 [⟨some 18, MOp.call 20 [], none⟩,
 ⟨some 5, MOp.mv (Opd.s 18), none⟩]).seq
 (((MC.reg
 [⟨some 19, MOp.mv (Opd.s 5), none⟩,
 ⟨some 20, MOp.un .not (Opd.s 19), none⟩]).seq
 (MC.cond (Opd.s 20)
 ((MC.reg
 [⟨some 4, MOp.mv (Opd.c (AV.bool false)), none⟩]).seq
 MC.ret)
 MC.skip)).seq
 ((MC.reg
 [⟨some 21, MOp.load (some 9) (Opd.s 2), none⟩,
 ⟨some 22, MOp.call 32 [(0, Opd.s 21)], none⟩,
 ⟨none, MOp.store 9 (Opd.s 2) (Opd.s 22), none⟩]).seq
 ((MC.reg
 [⟨some 23, MOp.load (some 9) (Opd.s 2), none⟩,
 ⟨some 24, MOp.call 33 [(0, Opd.s 23)], none⟩,
 ⟨some 6, MOp.mv (Opd.s 24), none⟩]).seq
 ((MC.reg
 [⟨some 25, MOp.load (some 9) (Opd.s 2), none⟩,
 ⟨some 7, MOp.alloc
 [AV.int .i64 0, AV.int .i64 0,
 AV.bool false, AV.int .i64 0,
 AV.int .i64 0, AV.int .i64 0,
 AV.int .i64 0, AV.bool false, AV.str []], none⟩,
 ⟨none, MOp.store 9 (Opd.s 7) (Opd.s 25), none⟩]).seq
 (((MC.reg
 [⟨some 26, MOp.fa 3 (Opd.s 2), none⟩,
 ⟨some 27, MOp.load none (Opd.s 26), none⟩]).seq
 (MC.block 0
 ((MC.reg
 [⟨some 31, MOp.bin .eql (Opd.s 27)
 (Opd.c (AV.int .i64 1)), none⟩,
 ⟨some 30, MOp.mv (Opd.s 31), none⟩]).seq
 (MC.cond (Opd.s 30)
 (MC.reg
 [⟨some 32, MOp.fa 4 (Opd.s 7), none⟩,
 ⟨none, MOp.store 1 (Opd.s 32)
 (Opd.c (AV.int .i64 0)), none⟩])
 ((MC.reg
 [⟨some 34, MOp.bin .eql (Opd.s 27)
 (Opd.c (AV.int .i64 2)), none⟩,
 ⟨some 33, MOp.mv (Opd.s 34), none⟩]).seq
 (MC.cond (Opd.s 33)
 (MC.reg
 [⟨some 35, MOp.fa 6 (Opd.s 7), none⟩,
 ⟨none, MOp.store 1 (Opd.s 35)
 (Opd.c (AV.int .i64 0)), none⟩])
 (MC.reg
 [⟨some 28, MOp.fa 5 (Opd.s 7), none⟩,
 ⟨none, MOp.store 1 (Opd.s 28)
 (Opd.c (AV.int .i64 0)), none⟩,
 ⟨some 29, MOp.fa 6 (Opd.s 7), none⟩,
 ⟨none, MOp.store 1 (Opd.s 29)
 (Opd.c (AV.int .i64 0)), none⟩]))))))).seq
 ((MC.reg
 [⟨some 37, MOp.load (some 9) (Opd.s 7), none⟩,
 ⟨some 38, MOp.call 34 [(0, Opd.s 37)], none⟩,
 ⟨some 36, MOp.mv (Opd.s 38), none⟩,
 ⟨some 39, MOp.ext 0 (Opd.s 36), none⟩,
 ⟨some 40, MOp.ext 1 (Opd.s 36), none⟩,
 ⟨some 8, MOp.mv (Opd.s 39), none⟩,
 ⟨some 9, MOp.mv (Opd.s 40), none⟩]).seq
 ((MC.reg
 [⟨some 42, MOp.mv (Opd.s 6), none⟩,
 ⟨some 43, MOp.call 35 [(0, Opd.s 42)], none⟩,
 ⟨some 41, MOp.mv (Opd.s 43), none⟩,
 ⟨some 44, MOp.ext 0 (Opd.s 41), none⟩,
 ⟨some 45, MOp.ext 1 (Opd.s 41), none⟩,
 ⟨some 10, MOp.mv (Opd.s 44), none⟩,
 ⟨some 11, MOp.mv (Opd.s 45), none⟩]).seq
 (((MC.reg
 [⟨some 46, MOp.mv (Opd.s 6), none⟩,
 ⟨some 47, MOp.call 36 [(0, Opd.s 46)], none⟩,
 ⟨some 48, MOp.mv (Opd.s 9), none⟩,
 ⟨some 49, MOp.eqv true (EqK.flat (EqF.one SK.b))
 (Opd.s 47) (Opd.s 48), none⟩,
 ⟨some 50, MOp.mv (Opd.s 49), none⟩,
 ⟨some 51, MOp.mv (Opd.s 9), some (50, false)⟩,
 ⟨some 52, MOp.mv (Opd.s 11), some (50, false)⟩,
 ⟨some 53, MOp.eqv true (EqK.flat (EqF.one SK.b))
 (Opd.s 51) (Opd.s 52), some (50, false)⟩,
 ⟨some 54, MOp.pick (Opd.s 50) (Opd.c (AV.bool true))
 (Opd.s 53), none⟩,
 ⟨some 55, MOp.mv (Opd.s 54), none⟩,
 ⟨some 56, MOp.mv (Opd.s 8), some (55, false)⟩,
 ⟨some 57, MOp.mv (Opd.s 10), some (55, false)⟩,
 ⟨some 58, MOp.bin .neq (Opd.s 56) (Opd.s 57), some (55, false)⟩,
 ⟨some 59, MOp.mv (Opd.s 58), some (55, false)⟩,
 ⟨some 60, MOp.mv (Opd.s 9), some (59, true)⟩,
 ⟨some 61, MOp.pick (Opd.s 59) (Opd.s 60)
 (Opd.c (AV.bool false)), some (55, false)⟩,
 ⟨some 62, MOp.pick (Opd.s 55) (Opd.c (AV.bool true))
 (Opd.s 61), none⟩,
 ⟨some 63, MOp.mv (Opd.s 62), none⟩,
 ⟨some 64, MOp.mv (Opd.s 9), some (63, false)⟩,
 ⟨some 65, MOp.un .not (Opd.s 64), some (63, false)⟩,
 ⟨some 66, MOp.mv (Opd.s 65), some (63, false)⟩,
 ⟨some 67, MOp.mv (Opd.s 10), some (66, true)⟩,
 ⟨some 68, MOp.bin .neq (Opd.s 67)
 (Opd.c (AV.int .u8 0)), some (66, true)⟩,
 ⟨some 69, MOp.pick (Opd.s 66) (Opd.s 68)
 (Opd.c (AV.bool false)), some (63, false)⟩,
 ⟨some 70, MOp.pick (Opd.s 63) (Opd.c (AV.bool true))
 (Opd.s 69), none⟩]).seq
 (MC.cond (Opd.s 70)
 ((MC.reg
 [⟨some 4, MOp.mv (Opd.c (AV.bool false)), none⟩]).seq
 MC.ret)
 MC.skip)).seq
 (((MC.reg
 [⟨some 71, MOp.mv (Opd.s 9), none⟩]).seq
 (MC.cond (Opd.s 71)
 ((MC.reg
 [⟨some 73, MOp.mv (Opd.s 10), none⟩,
 ⟨some 74, MOp.call 37 [(0, Opd.s 73)], none⟩,
 ⟨some 72, MOp.mv (Opd.s 74), none⟩,
 ⟨some 75, MOp.ext 0 (Opd.s 72), none⟩,
 ⟨some 76, MOp.ext 1 (Opd.s 72), none⟩,
 ⟨some 12, MOp.mv (Opd.s 75), none⟩,
 ⟨some 13, MOp.mv (Opd.s 76), none⟩]).seq
 ((MC.draw
 [⟨some 77, MOp.mv (Opd.s 13), none⟩,
 ⟨some 78, MOp.un .not (Opd.s 77), none⟩,
 ⟨some 79, MOp.mv (Opd.s 78), none⟩,
 ⟨some 80, MOp.mv (Opd.s 12), some (79, false)⟩,
 ⟨some 81, MOp.mv (Opd.s 6), some (79, false)⟩,
 ⟨some 82, MOp.eqv true
 (EqK.ifc oks)
 (Opd.s 80) (Opd.s 81), some (79, false)⟩,
 ⟨some 83, MOp.pick (Opd.s 79) (Opd.c (AV.bool true))
 (Opd.s 82), none⟩,
 ⟨some 84, MOp.mv (Opd.s 83), none⟩,
 ⟨some 85, MOp.mv (Opd.s 6), some (84, false)⟩,
 ⟨some 86, MOp.call 38 [(0, Opd.s 85)], some (84, false)⟩,
 ⟨some 87, MOp.fa 7 (Opd.s 2), some (84, false)⟩,
 ⟨some 88, MOp.load none (Opd.s 87), some (84, false)⟩,
 ⟨some 89, MOp.eqv true (EqK.flat (EqF.one SK.b))
 (Opd.s 86) (Opd.s 88), some (84, false)⟩,
 ⟨some 90, MOp.pick (Opd.s 84) (Opd.c (AV.bool true))
 (Opd.s 89), none⟩]
 [0, 1, 3, 7, 7, 31, 63, 127, 255, 511, 255, 1279, 4095, 8191]).seq
 (MC.cond (Opd.s 90)
 ((MC.reg
 [⟨some 4, MOp.mv (Opd.c (AV.bool false)), none⟩]).seq
 MC.ret)
 MC.skip)))
 MC.skip)).seq
 ((MC.reg
 [⟨some 92, MOp.mv (Opd.s 1), none⟩,
 ⟨some 93, MOp.call 37 [(0, Opd.s 92)], none⟩,
 ⟨some 91, MOp.mv (Opd.s 93), none⟩,
 ⟨some 94, MOp.ext 0 (Opd.s 91), none⟩,
 ⟨some 95, MOp.ext 1 (Opd.s 91), none⟩,
 ⟨some 14, MOp.mv (Opd.s 94), none⟩,
 ⟨some 15, MOp.mv (Opd.s 95), none⟩]).seq
 ((MC.reg
 [⟨some 97, MOp.mv (Opd.s 1), none⟩,
 ⟨some 98, MOp.call 39 [(0, Opd.s 97)], none⟩,
 ⟨some 96, MOp.mv (Opd.s 98), none⟩,
 ⟨some 99, MOp.ext 0 (Opd.s 96), none⟩,
 ⟨some 100, MOp.ext 1 (Opd.s 96), none⟩,
 ⟨some 16, MOp.alloc
 [AV.int .i64 0,
 AV.int .i64 0, AV.bool false,
 AV.int .i64 0,
 AV.int .i64 0,
 AV.int .i64 0,
 AV.int .i64 0, AV.bool false,
 AV.str []], none⟩,
 ⟨none, MOp.store 9 (Opd.s 16) (Opd.s 99), none⟩,
 ⟨some 17, MOp.mv (Opd.s 100), none⟩]).seq
 ((MC.reg
 [⟨some 101, MOp.mv (Opd.s 15), none⟩,
 ⟨some 102, MOp.mv (Opd.s 17), none⟩,
 ⟨some 103, MOp.eqv false (EqK.flat (EqF.one SK.b))
 (Opd.s 101) (Opd.s 102), none⟩,
 ⟨some 104, MOp.mv (Opd.s 103), none⟩,
 ⟨some 105, MOp.mv (Opd.s 15), some (104, true)⟩,
 ⟨some 106, MOp.un .not (Opd.s 105), some (104, true)⟩,
 ⟨some 107, MOp.mv (Opd.s 106), some (104, true)⟩,
 ⟨some 108, MOp.mv (Opd.s 14), some (107, true)⟩,
 ⟨some 109, MOp.eqv false
 (EqK.ifc oks)
 (Opd.s 108) (Opd.c AV.nili), some (107, true)⟩,
 ⟨some 110, MOp.pick (Opd.s 107) (Opd.s 109)
 (Opd.c (AV.bool false)), some (104, true)⟩,
 ⟨some 111, MOp.mv (Opd.s 110), some (104, true)⟩,
 ⟨some 112, MOp.mv (Opd.s 15), some (111, false)⟩,
 ⟨some 113, MOp.mv (Opd.s 112), some (111, false)⟩,
 ⟨some 114, MOp.mv (Opd.s 14), some (113, true)⟩,
 ⟨some 115, MOp.load (some 9) (Opd.s 16), some (113, true)⟩,
 ⟨some 116, MOp.call 33 [(0, Opd.s 115)], some (113, true)⟩,
 ⟨some 117, MOp.eqv false
 (EqK.ifc oks)
 (Opd.s 114) (Opd.s 116), some (113, true)⟩,
 ⟨some 118, MOp.pick (Opd.s 113) (Opd.s 117)
 (Opd.c (AV.bool false)), some (111, false)⟩,
 ⟨some 119, MOp.pick (Opd.s 111) (Opd.c (AV.bool true))
 (Opd.s 118), some (104, true)⟩,
 ⟨some 120, MOp.pick (Opd.s 104) (Opd.s 119)
 (Opd.c (AV.bool false)), none⟩,
 ⟨some 4, MOp.mv (Opd.s 120), none⟩]).seq
 MC.ret))))))))))))) ⟩
theorem tab5 : tableOf Tryd.prog 5 = some M5 := by kernel_rfl
end Go.Proofs.YthcblggiojpmcaaDoor
