/- Functions of the program in the evaluator's form, written out by a program. No conditions. -/
import Derived.Test.YthcblggiojpmcaaDoorM4
set_option linter.unusedVariables false
namespace Go.Proofs.YthcblggiojpmcaaDoor
open Go Go.Ab
def M19 : MFun :=
 ⟨123, [MRes.tmp 0 2], (MC.reg
 [⟨some 1, MOp.box (Opd.s 0), none⟩,
 ⟨some 2, MOp.mv (Opd.c (AV.bool false)), none⟩]).seq
 ((MC.reg
 [⟨some 10, MOp.call 20 [], none⟩,
 ⟨some 3, MOp.mv (Opd.s 10), none⟩]).seq
 (((MC.reg
 [⟨some 11, MOp.mv (Opd.s 3), none⟩,
 ⟨some 12, MOp.un .not (Opd.s 11), none⟩]).seq
 (MC.cond (Opd.s 12)
 ((MC.reg
 [⟨some 2, MOp.mv (Opd.c (AV.bool false)), none⟩]).seq
 MC.ret)
 MC.skip)).seq
 ((MC.reg
 [⟨some 13, MOp.load (some 9) (Opd.s 1), none⟩,
 ⟨some 14, MOp.call 33 [(0, Opd.s 13)], none⟩,
 ⟨some 4, MOp.mv (Opd.s 14), none⟩]).seq
 ((MC.reg
 [⟨some 15, MOp.mv (Opd.s 4), none⟩,
 ⟨some 16, MOp.call 58
 [(0, Opd.s 15), (0, Opd.c (AV.int .i64 1))], none⟩,
 ⟨some 17, MOp.mv (Opd.s 4), none⟩,
 ⟨some 18, MOp.call 58
 [(0, Opd.s 17), (0, Opd.c (AV.int .i64 2))], none⟩,
 ⟨some 19, MOp.mv (Opd.s 4), none⟩,
 ⟨some 20, MOp.call 58
 [(0, Opd.s 19), (0, Opd.c (AV.int .i64 3))], none⟩,
 ⟨some 5, MOp.mv (Opd.s 16), none⟩,
 ⟨some 6, MOp.mv (Opd.s 18), none⟩,
 ⟨some 7, MOp.mv (Opd.s 20), none⟩]).seq
 (((MC.reg
 [⟨some 21, MOp.mv (Opd.s 5), none⟩,
 ⟨some 22, MOp.fa 3 (Opd.s 1), none⟩,
 ⟨some 23, MOp.load none (Opd.s 22), none⟩,
 ⟨some 24, MOp.bin .neq (Opd.s 23)
 (Opd.c (AV.int .i64 1)), none⟩,
 ⟨some 25, MOp.eqv true (EqK.flat (EqF.one SK.b)) (Opd.s 21)
 (Opd.s 24), none⟩,
 ⟨some 26, MOp.mv (Opd.s 25), none⟩,
 ⟨some 27, MOp.mv (Opd.s 6), some (26, false)⟩,
 ⟨some 28, MOp.fa 3 (Opd.s 1), some (26, false)⟩,
 ⟨some 29, MOp.load none (Opd.s 28), some (26, false)⟩,
 ⟨some 30, MOp.bin .neq (Opd.s 29)
 (Opd.c (AV.int .i64 2)), some (26, false)⟩,
 ⟨some 31, MOp.eqv true (EqK.flat (EqF.one SK.b)) (Opd.s 27)
 (Opd.s 30), some (26, false)⟩,
 ⟨some 32, MOp.pick (Opd.s 26) (Opd.c (AV.bool true))
 (Opd.s 31), none⟩,
 ⟨some 33, MOp.mv (Opd.s 32), none⟩,
 ⟨some 34, MOp.mv (Opd.s 7), some (33, false)⟩,
 ⟨some 35, MOp.fa 3 (Opd.s 1), some (33, false)⟩,
 ⟨some 36, MOp.load none (Opd.s 35), some (33, false)⟩,
 ⟨some 37, MOp.bin .neq (Opd.s 36)
 (Opd.c (AV.int .i64 3)), some (33, false)⟩,
 ⟨some 38, MOp.eqv true (EqK.flat (EqF.one SK.b)) (Opd.s 34)
 (Opd.s 37), some (33, false)⟩,
 ⟨some 39, MOp.pick (Opd.s 33) (Opd.c (AV.bool true))
 (Opd.s 38), none⟩]).seq
 (MC.cond (Opd.s 39)
 ((MC.reg
 [⟨some 2, MOp.mv (Opd.c (AV.bool false)), none⟩]).seq
 MC.ret)
 MC.skip)).seq
 ((MC.reg
 [⟨some 41, MOp.mv (Opd.s 4), none⟩,
 ⟨some 42, MOp.call 59 [(0, Opd.s 41)], none⟩,
 ⟨some 40, MOp.mv (Opd.s 42), none⟩,
 ⟨some 43, MOp.ext 0 (Opd.s 40), none⟩,
 ⟨some 44, MOp.ext 1 (Opd.s 40), none⟩,
 ⟨some 8, MOp.mv (Opd.s 43), none⟩,
 ⟨some 9, MOp.mv (Opd.s 44), none⟩]).seq
 (((MC.reg
 [⟨some 45, MOp.fa 3 (Opd.s 1), none⟩,
 ⟨some 46, MOp.load none (Opd.s 45), none⟩]).seq
 (MC.block 0
 ((MC.reg
 [⟨some 48, MOp.bin .eql (Opd.s 46)
 (Opd.c (AV.int .i64 1)), none⟩,
 ⟨some 47, MOp.mv (Opd.s 48), none⟩]).seq
 (MC.cond (Opd.s 47)
 ((MC.draw
 [⟨some 49, MOp.mv (Opd.s 4), none⟩,
 ⟨some 50, MOp.call 60 [(0, Opd.s 49)], none⟩,
 ⟨some 51, MOp.fa 5 (Opd.s 1), none⟩,
 ⟨some 52, MOp.load none (Opd.s 51), none⟩,
 ⟨some 53, MOp.fa 6 (Opd.s 1), none⟩,
 ⟨some 54, MOp.load none (Opd.s 53), none⟩,
 ⟨some 55, MOp.fa 7 (Opd.s 1), none⟩,
 ⟨some 56, MOp.load none (Opd.s 55), none⟩,
 ⟨some 57, MOp.build
 [AV.int .i64 0,
 AV.int .i64 0, AV.bool false]
 [(0, 1, Opd.s 52), (1, 1, Opd.s 54), (2, 1, Opd.s 56)], none⟩,
 ⟨some 58, MOp.eqv false
 (EqK.flat (EqF.many [SK.i, SK.i, SK.b]))
 (Opd.s 50) (Opd.s 57), none⟩,
 ⟨some 59, MOp.mv (Opd.s 58), none⟩,
 ⟨some 60, MOp.mv (Opd.s 9), some (59, true)⟩,
 ⟨some 61, MOp.pick (Opd.s 59) (Opd.s 60)
 (Opd.c (AV.bool false)), none⟩,
 ⟨some 62, MOp.mv (Opd.s 61), none⟩,
 ⟨some 63, MOp.mv (Opd.s 8), some (62, true)⟩,
 ⟨some 64, MOp.fa 5 (Opd.s 1), some (62, true)⟩,
 ⟨some 65, MOp.load none (Opd.s 64), some (62, true)⟩,
 ⟨some 66, MOp.bin .eql (Opd.s 63) (Opd.s 65), some (62, true)⟩,
 ⟨some 67, MOp.pick (Opd.s 62) (Opd.s 66)
 (Opd.c (AV.bool false)), none⟩,
 ⟨some 2, MOp.mv (Opd.s 67), none⟩]
 [0, 1, 0, 4, 0, 16, 0, 64, 252, 511, 1023, 2047, 4095, 8191, 16383, 16383, 49151,
 131071, 262143, 524287]).seq
 MC.ret)
 ((MC.reg
 [⟨some 69, MOp.bin .eql (Opd.s 46)
 (Opd.c (AV.int .i64 2)), none⟩,
 ⟨some 68, MOp.mv (Opd.s 69), none⟩]).seq
 (MC.cond (Opd.s 68)
 ((MC.draw
 [⟨some 70, MOp.mv (Opd.s 4), none⟩,
 ⟨some 71, MOp.call 61 [(0, Opd.s 70)], none⟩,
 ⟨some 72, MOp.fa 4 (Opd.s 1), none⟩,
 ⟨some 73, MOp.load none (Opd.s 72), none⟩,
 ⟨some 74, MOp.fa 5 (Opd.s 1), none⟩,
 ⟨some 75, MOp.load none (Opd.s 74), none⟩,
 ⟨some 76, MOp.fa 7 (Opd.s 1), none⟩,
 ⟨some 77, MOp.load none (Opd.s 76), none⟩,
 ⟨some 78, MOp.build
 [AV.int .i64 0,
 AV.int .i64 0, AV.bool false]
 [(0, 1, Opd.s 73), (1, 1, Opd.s 75),
 (2, 1, Opd.s 77)], none⟩,
 ⟨some 79, MOp.eqv false
 (EqK.flat (EqF.many [SK.i, SK.i, SK.b]))
 (Opd.s 71) (Opd.s 78), none⟩,
 ⟨some 80, MOp.mv (Opd.s 79), none⟩,
 ⟨some 81, MOp.mv (Opd.s 9), some (80, true)⟩,
 ⟨some 82, MOp.pick (Opd.s 80) (Opd.s 81)
 (Opd.c (AV.bool false)), none⟩,
 ⟨some 83, MOp.mv (Opd.s 82), none⟩,
 ⟨some 84, MOp.mv (Opd.s 8), some (83, true)⟩,
 ⟨some 85, MOp.fa 5 (Opd.s 1), some (83, true)⟩,
 ⟨some 86, MOp.load none (Opd.s 85), some (83, true)⟩,
 ⟨some 87, MOp.bin .eql (Opd.s 84) (Opd.s 86), some (83, true)⟩,
 ⟨some 88, MOp.pick (Opd.s 83) (Opd.s 87)
 (Opd.c (AV.bool false)), none⟩,
 ⟨some 2, MOp.mv (Opd.s 88), none⟩]
 [0, 1, 0, 4, 0, 16, 0, 64, 252, 511, 1023, 2047, 4095, 8191, 16383, 16383,
 49151, 131071, 262143, 524287]).seq
 MC.ret)
 ((MC.reg
 [⟨some 90, MOp.bin .eql (Opd.s 46)
 (Opd.c (AV.int .i64 3)), none⟩,
 ⟨some 89, MOp.mv (Opd.s 90), none⟩]).seq
 (MC.cond (Opd.s 89)
 ((MC.draw
 [⟨some 91, MOp.mv (Opd.s 4), none⟩,
 ⟨some 92, MOp.call 62 [(0, Opd.s 91)], none⟩,
 ⟨some 93, MOp.fa 4 (Opd.s 1), none⟩,
 ⟨some 94, MOp.load none (Opd.s 93), none⟩,
 ⟨some 95, MOp.fa 7 (Opd.s 1), none⟩,
 ⟨some 96, MOp.load none (Opd.s 95), none⟩,
 ⟨some 97, MOp.build
 [AV.int .i64 0,
 AV.bool false]
 [(0, 1, Opd.s 94), (1, 1, Opd.s 96)], none⟩,
 ⟨some 98, MOp.eqv false
 (EqK.flat (EqF.many [SK.i, SK.b]))
 (Opd.s 92) (Opd.s 97), none⟩,
 ⟨some 99, MOp.mv (Opd.s 98), none⟩,
 ⟨some 100, MOp.mv (Opd.s 9), some (99, true)⟩,
 ⟨some 101, MOp.un .not (Opd.s 100), some (99, true)⟩,
 ⟨some 102, MOp.pick (Opd.s 99) (Opd.s 101)
 (Opd.c (AV.bool false)), none⟩,
 ⟨some 103, MOp.mv (Opd.s 102), none⟩,
 ⟨some 104, MOp.mv (Opd.s 8), some (103, true)⟩,
 ⟨some 105, MOp.bin .eql (Opd.s 104)
 (Opd.c (AV.int .i64 0)), some (103, true)⟩,
 ⟨some 106, MOp.pick (Opd.s 103) (Opd.s 105)
 (Opd.c (AV.bool false)), none⟩,
 ⟨some 2, MOp.mv (Opd.s 106), none⟩]
 [0, 1, 0, 4, 0, 16, 60, 127, 255, 511, 1023, 2047, 4095, 8191, 16383,
 32767, 65535]).seq
 MC.ret)
 MC.skip)))))))).seq
 ((MC.reg
 [⟨some 107, MOp.mv (Opd.s 9), none⟩,
 ⟨some 108, MOp.un .not (Opd.s 107), none⟩,
 ⟨some 109, MOp.mv (Opd.s 108), none⟩,
 ⟨some 110, MOp.mv (Opd.s 8), some (109, true)⟩,
 ⟨some 111, MOp.bin .eql (Opd.s 110)
 (Opd.c (AV.int .i64 0)), some (109, true)⟩,
 ⟨some 112, MOp.pick (Opd.s 109) (Opd.s 111)
 (Opd.c (AV.bool false)), none⟩,
 ⟨some 113, MOp.mv (Opd.s 112), none⟩,
 ⟨some 114, MOp.mv (Opd.s 4), some (113, true)⟩,
 ⟨some 115, MOp.call 38 [(0, Opd.s 114)], some (113, true)⟩,
 ⟨some 116, MOp.un .not (Opd.s 115), some (113, true)⟩,
 ⟨some 117, MOp.pick (Opd.s 113) (Opd.s 116)
 (Opd.c (AV.bool false)), none⟩,
 ⟨some 118, MOp.mv (Opd.s 117), none⟩,
 ⟨some 119, MOp.mv (Opd.s 4), some (118, true)⟩,
 ⟨some 120, MOp.call 36 [(0, Opd.s 119)], some (118, true)⟩,
 ⟨some 121, MOp.un .not (Opd.s 120), some (118, true)⟩,
 ⟨some 122, MOp.pick (Opd.s 118) (Opd.s 121)
 (Opd.c (AV.bool false)), none⟩,
 ⟨some 2, MOp.mv (Opd.s 122), none⟩]).seq
 MC.ret)))))))) ⟩
def M59 : MFun :=
 ⟨24, [MRes.tmp 0 2, MRes.tmp 0 3], (MC.reg
 [⟨some 2, MOp.mv (Opd.c (AV.int .i64 0)), none⟩,
 ⟨some 3, MOp.mv (Opd.c (AV.bool false)), none⟩]).seq
 (((MC.reg
 [⟨some 9, MOp.mv (Opd.s 0), none⟩,
 ⟨some 10, MOp.tas 64
 (AV.agg
 [AV.int .i64 0, AV.int .i64 0,
 AV.bool false])
 true (Opd.s 9), none⟩,
 ⟨some 8, MOp.mv (Opd.s 10), none⟩,
 ⟨some 11, MOp.ext 0 (Opd.s 8), none⟩,
 ⟨some 12, MOp.ext 1 (Opd.s 8), none⟩,
 ⟨some 4, MOp.alloc
 [AV.int .i64 0, AV.int .i64 0,
 AV.bool false], none⟩,
 ⟨none, MOp.store 3 (Opd.s 4) (Opd.s 11), none⟩,
 ⟨some 5, MOp.mv (Opd.s 12), none⟩]).seq
 ((MC.reg [⟨some 13, MOp.mv (Opd.s 5), none⟩]).seq
 (MC.cond (Opd.s 13)
 ((MC.reg
 [⟨some 14, MOp.fa 0 (Opd.s 4), none⟩,
 ⟨some 15, MOp.load none (Opd.s 14), none⟩,
 ⟨some 2, MOp.mv (Opd.s 15), none⟩,
 ⟨some 3, MOp.mv (Opd.c (AV.bool true)), none⟩]).seq
 MC.ret)
 MC.skip))).seq
 ((MC.reg
 [⟨some 17, MOp.mv (Opd.s 0), none⟩,
 ⟨some 18, MOp.tas 84
 (AV.agg
 [AV.int .i64 0, AV.int .i64 0,
 AV.bool false])
 true (Opd.s 17), none⟩,
 ⟨some 16, MOp.mv (Opd.s 18), none⟩,
 ⟨some 19, MOp.ext 0 (Opd.s 16), none⟩,
 ⟨some 20, MOp.ext 1 (Opd.s 16), none⟩,
 ⟨some 6, MOp.alloc
 [AV.int .i64 0, AV.int .i64 0,
 AV.bool false], none⟩,
 ⟨none, MOp.store 3 (Opd.s 6) (Opd.s 19), none⟩,
 ⟨some 7, MOp.mv (Opd.s 20), none⟩]).seq
 ((MC.reg
 [⟨some 21, MOp.fa 1 (Opd.s 6), none⟩,
 ⟨some 22, MOp.load none (Opd.s 21), none⟩,
 ⟨some 23, MOp.mv (Opd.s 7), none⟩,
 ⟨some 2, MOp.mv (Opd.s 22), none⟩,
 ⟨some 3, MOp.mv (Opd.s 23), none⟩]).seq
 MC.ret))) ⟩
def M60 : MFun :=
 ⟨5, [MRes.cell 2 (some 3)], (MC.reg
 [⟨some 2, MOp.alloc
 [AV.int .i64 0, AV.int .i64 0,
 AV.bool false], none⟩]).seq
 ((MC.reg
 [⟨some 3, MOp.mv (Opd.s 0), none⟩,
 ⟨some 4, MOp.tas 64
 (AV.agg
 [AV.int .i64 0, AV.int .i64 0,
 AV.bool false])
 false (Opd.s 3), none⟩,
 ⟨none, MOp.store 3 (Opd.s 2) (Opd.s 4), none⟩]).seq
 MC.ret) ⟩
def M61 : MFun :=
 ⟨5, [MRes.cell 2 (some 3)], (MC.reg
 [⟨some 2, MOp.alloc
 [AV.int .i64 0, AV.int .i64 0,
 AV.bool false], none⟩]).seq
 ((MC.reg
 [⟨some 3, MOp.mv (Opd.s 0), none⟩,
 ⟨some 4, MOp.tas 84
 (AV.agg
 [AV.int .i64 0, AV.int .i64 0,
 AV.bool false])
 false (Opd.s 3), none⟩,
 ⟨none, MOp.store 3 (Opd.s 2) (Opd.s 4), none⟩]).seq
 MC.ret) ⟩
def M62 : MFun :=
 ⟨5, [MRes.cell 2 (some 2)], (MC.reg
 [⟨some 2, MOp.alloc [AV.int .i64 0, AV.bool false], none⟩]).seq
 ((MC.reg
 [⟨some 3, MOp.mv (Opd.s 0), none⟩,
 ⟨some 4, MOp.tas 86
 (AV.agg [AV.int .i64 0, AV.bool false]) false
 (Opd.s 3), none⟩,
 ⟨none, MOp.store 2 (Opd.s 2) (Opd.s 4), none⟩]).seq
 MC.ret) ⟩
theorem tab19 : tableOf Tryd.prog 19 = some M19 := by kernel_rfl
theorem tab59 : tableOf Tryd.prog 59 = some M59 := by kernel_rfl
theorem tab60 : tableOf Tryd.prog 60 = some M60 := by kernel_rfl
theorem tab61 : tableOf Tryd.prog 61 = some M61 := by kernel_rfl
theorem tab62 : tableOf Tryd.prog 62 = some M62 := by kernel_rfl
end Go.Proofs.YthcblggiojpmcaaDoor
