/- Functions of the program in the evaluator's form, written out by a program. No conditions. -/
import Derived.Test.YtochnineebgbgaaDoorM12
set_option linter.unusedVariables false
namespace Go.Proofs.YtochnineebgbgaaDoor
open Go Go.Ab
def M6b0 : MC :=
 ((MC.reg
 [⟨some 75, MOp.bin .lss (Opd.s 74)
 (Opd.s 73), none⟩]).seq
 ((MC.cond (Opd.s 75) MC.skip
 (MC.exit 4)).seq
 ((MC.block 5
 ((MC.reg
 [⟨some 76, MOp.mv (Opd.s 74), none⟩,
 ⟨some 14, MOp.mv (Opd.s 76), none⟩]).seq
 ((MC.draw
 [⟨some 77, MOp.mv (Opd.s 12), none⟩,
 ⟨some 78, MOp.mv (Opd.s 14), none⟩,
 ⟨some 79, MOp.ixa 1 (Opd.s 77)
 (Opd.s 78), none⟩,
 ⟨some 80, MOp.load none (Opd.s 79), none⟩,
 ⟨some 81, MOp.mv (Opd.s 10), none⟩,
 ⟨some 82, MOp.mv (Opd.s 14), none⟩,
 ⟨some 83, MOp.bin .add (Opd.s 81)
 (Opd.s 82), none⟩,
 ⟨some 84, MOp.bin .rem (Opd.s 83)
 (Opd.c
 (AV.int .i64
 8)), none⟩,
 ⟨some 85, MOp.bin .neq (Opd.s 80)
 (Opd.s 84), none⟩,
 ⟨some 86, MOp.mv (Opd.s 85), none⟩,
 ⟨some 87, MOp.mv (Opd.s 13), some (86, false)⟩,
 ⟨some 88, MOp.mv (Opd.s 14), some (86, false)⟩,
 ⟨some 89, MOp.ixa 1 (Opd.s 87)
 (Opd.s 88), some (86, false)⟩,
 ⟨some 90, MOp.load none (Opd.s 89), some (86, false)⟩,
 ⟨some 91, MOp.mv (Opd.s 10), some (86, false)⟩,
 ⟨some 92, MOp.mv (Opd.s 14), some (86, false)⟩,
 ⟨some 93, MOp.bin .add (Opd.s 91)
 (Opd.s 92), some (86, false)⟩,
 ⟨some 94, MOp.call 34 [(0, Opd.s 93)], some (86, false)⟩,
 ⟨some 95, MOp.bin .neq (Opd.s 90)
 (Opd.s 94), some (86, false)⟩,
 ⟨some 96, MOp.pick (Opd.s 86)
 (Opd.c (AV.bool true))
 (Opd.s 95), none⟩]
 [0, 0, 3, 7, 0, 0, 48, 112, 255, 511, 1023, 1023,
 4095, 8191, 1023, 1023, 50175, 115711, 262143,
 524287]).seq
 (MC.cond (Opd.s 96)
 ((MC.reg
 [⟨some 6, MOp.mv
 (Opd.c
 (AV.bool false)), none⟩]).seq
 MC.ret)
 MC.skip)))).seq
 (MC.reg
 [⟨some 97, MOp.bin .add (Opd.s 74)
 (Opd.c
 (AV.int .i64 1)), none⟩,
 ⟨some 74, MOp.mv (Opd.s 97), none⟩]))))
def M6b0l : List Bool := [true, true, true, false, false, false, false, false, true, false, true, true, true, true, false, false, false, false, false, false, false, false, false, false, false, false, false, false, false, false, false, false, false, false, false, false, false, false, false, false, false, false, false, false, false, false, false, false, false, false, false, false, false, false, false, false, false, false, false, false, false, false, false, false, false, false, false, false, false, false, false, false, false, true, true, false, false, false, false, false, false, false, false, false, false, false, false, false, false, false, false, false, false, false, false, false, false, false, false, false, false, false, false, false, false, false, false, false, false, false, false, false, false, false, false, false, false, false, false, false, false, false, false, false, false, false, false, false, false, false, false, false, false, false, false, false, false, false, false, false, false, false, false, false, false, false]
def M6b1 : MC :=
 (((MC.reg
 [⟨some 42, MOp.mv (Opd.s 11), none⟩,
 ⟨some 43, MOp.mv (Opd.s 2), none⟩,
 ⟨some 44, MOp.len (Opd.s 43), none⟩,
 ⟨some 45, MOp.bin .lss (Opd.s 42) (Opd.s 44), none⟩,
 ⟨some 46, MOp.mv (Opd.s 45), none⟩,
 ⟨some 47, MOp.mv (Opd.s 11), some (46, true)⟩,
 ⟨some 48, MOp.bin .lss (Opd.s 47)
 (Opd.c (AV.int .i64 20)), some (46, true)⟩,
 ⟨some 49, MOp.pick (Opd.s 46) (Opd.s 48)
 (Opd.c (AV.bool false)), none⟩]).seq
 (MC.cond (Opd.s 49) MC.skip (MC.exit 2))).seq
 ((MC.block 3
 ((MC.reg
 [⟨some 53, MOp.mv (Opd.s 8), none⟩,
 ⟨some 54, MOp.call 35 [(0, Opd.s 53)], none⟩,
 ⟨some 52, MOp.mv (Opd.s 54), none⟩,
 ⟨some 55, MOp.ext 0 (Opd.s 52), none⟩,
 ⟨some 56, MOp.ext 1 (Opd.s 52), none⟩,
 ⟨some 12, MOp.mv (Opd.s 55), none⟩,
 ⟨some 13, MOp.mv (Opd.s 56), none⟩]).seq
 (((MC.reg
 [⟨some 57, MOp.mv (Opd.s 12), none⟩,
 ⟨some 58, MOp.len (Opd.s 57), none⟩,
 ⟨some 59, MOp.mv (Opd.s 0), none⟩,
 ⟨some 60, MOp.mv (Opd.s 1), none⟩,
 ⟨some 61, MOp.mv (Opd.s 10), none⟩,
 ⟨some 62, MOp.bin .sub (Opd.s 60) (Opd.s 61), none⟩,
 ⟨some 63, MOp.mn [Opd.s 59, Opd.s 62], none⟩,
 ⟨some 64, MOp.bin .neq (Opd.s 58) (Opd.s 63), none⟩,
 ⟨some 65, MOp.mv (Opd.s 64), none⟩,
 ⟨some 66, MOp.mv (Opd.s 13), some (65, false)⟩,
 ⟨some 67, MOp.len (Opd.s 66), some (65, false)⟩,
 ⟨some 68, MOp.mv (Opd.s 12), some (65, false)⟩,
 ⟨some 69, MOp.len (Opd.s 68), some (65, false)⟩,
 ⟨some 70, MOp.bin .neq (Opd.s 67) (Opd.s 69), some (65, false)⟩,
 ⟨some 71, MOp.pick (Opd.s 65)
 (Opd.c (AV.bool true)) (Opd.s 70), none⟩]).seq
 (MC.cond (Opd.s 71)
 ((MC.reg
 [⟨some 6, MOp.mv (Opd.c (AV.bool false)), none⟩]).seq
 MC.ret)
 MC.skip)).seq
 (((MC.reg
 [⟨some 72, MOp.mv (Opd.s 12), none⟩,
 ⟨some 73, MOp.len (Opd.s 72), none⟩,
 ⟨some 74, MOp.mv
 (Opd.c (AV.int .i64 0)), none⟩]).seq
 (MC.block 4
 (MC.loop M6b0l M6b0))).seq
 ((MC.reg
 [⟨some 98, MOp.mv (Opd.s 2), none⟩,
 ⟨some 99, MOp.mv (Opd.s 11), none⟩,
 ⟨some 100, MOp.ixa 1 (Opd.s 98) (Opd.s 99), none⟩,
 ⟨some 101, MOp.load none (Opd.s 100), none⟩,
 ⟨some 102, MOp.mv (Opd.s 12), none⟩,
 ⟨some 103, MOp.len (Opd.s 102), none⟩,
 ⟨some 104, MOp.bin .add (Opd.s 103)
 (Opd.c (AV.int .i64 1)), none⟩,
 ⟨some 105, MOp.bin .rem (Opd.s 101) (Opd.s 104), none⟩,
 ⟨some 106, MOp.mv (Opd.s 12), none⟩,
 ⟨some 107, MOp.len (Opd.s 106), none⟩,
 ⟨some 108, MOp.bin .add (Opd.s 105) (Opd.s 107), none⟩,
 ⟨some 109, MOp.bin .add (Opd.s 108)
 (Opd.c (AV.int .i64 1)), none⟩,
 ⟨some 110, MOp.mv (Opd.s 12), none⟩,
 ⟨some 111, MOp.len (Opd.s 110), none⟩,
 ⟨some 112, MOp.bin .add (Opd.s 111)
 (Opd.c (AV.int .i64 1)), none⟩,
 ⟨some 113, MOp.bin .rem (Opd.s 109) (Opd.s 112), none⟩,
 ⟨some 15, MOp.mv (Opd.s 113), none⟩]).seq
 (((MC.reg
 [⟨some 115, MOp.mv (Opd.s 8), none⟩,
 ⟨some 116, MOp.mv (Opd.s 10), none⟩,
 ⟨some 117, MOp.mv (Opd.s 15), none⟩,
 ⟨some 118, MOp.bin .add (Opd.s 116)
 (Opd.s 117), none⟩,
 ⟨some 119, MOp.bin .rem (Opd.s 118)
 (Opd.c
 (AV.int .i64 8)), none⟩,
 ⟨some 120, MOp.call 36
 [(0, Opd.s 115), (0, Opd.s 119)], none⟩,
 ⟨some 114, MOp.mv (Opd.s 120), none⟩,
 ⟨some 121, MOp.ext 0 (Opd.s 114), none⟩,
 ⟨some 122, MOp.ext 1 (Opd.s 114), none⟩,
 ⟨some 16, MOp.mv (Opd.s 121), none⟩,
 ⟨some 17, MOp.mv (Opd.s 122), none⟩]).seq
 ((MC.reg
 [⟨some 123, MOp.mv (Opd.s 17), none⟩,
 ⟨some 124, MOp.un .not (Opd.s 123), none⟩,
 ⟨some 125, MOp.mv (Opd.s 124), none⟩,
 ⟨some 126, MOp.mv (Opd.s 16), some (125, false)⟩,
 ⟨some 127, MOp.mv (Opd.s 15), some (125, false)⟩,
 ⟨some 128, MOp.bin .neq (Opd.s 126)
 (Opd.s 127), some (125, false)⟩,
 ⟨some 129, MOp.pick (Opd.s 125)
 (Opd.c (AV.bool true))
 (Opd.s 128), none⟩]).seq
 (MC.cond (Opd.s 129)
 ((MC.reg
 [⟨some 6, MOp.mv
 (Opd.c (AV.bool false)), none⟩]).seq
 MC.ret)
 MC.skip))).seq
 ((MC.reg
 [⟨some 130, MOp.mv (Opd.s 10), none⟩,
 ⟨some 131, MOp.mv (Opd.s 15), none⟩,
 ⟨some 132, MOp.bin .add (Opd.s 130)
 (Opd.s 131), none⟩,
 ⟨some 10, MOp.mv (Opd.s 132), none⟩]).seq
 ((MC.reg
 [⟨some 133, MOp.mv (Opd.s 8), none⟩,
 ⟨some 134, MOp.call 37 [(0, Opd.s 133)], none⟩,
 ⟨some 135, MOp.mv (Opd.s 1), none⟩,
 ⟨some 136, MOp.mv (Opd.s 10), none⟩,
 ⟨some 137, MOp.bin .sub (Opd.s 135)
 (Opd.s 136), none⟩,
 ⟨some 138, MOp.bin .neq (Opd.s 134)
 (Opd.s 137), none⟩,
 ⟨some 139, MOp.mv (Opd.s 138), none⟩,
 ⟨some 140, MOp.mv (Opd.s 8), some (139, false)⟩,
 ⟨some 141, MOp.call 38 [(0, Opd.s 140)], some (139, false)⟩,
 ⟨some 142, MOp.mv (Opd.s 10), some (139, false)⟩,
 ⟨some 143, MOp.bin .rem (Opd.s 142)
 (Opd.c
 (AV.int .i64 8)), some (139, false)⟩,
 ⟨some 144, MOp.bin .neq (Opd.s 141)
 (Opd.s 143), some (139, false)⟩,
 ⟨some 145, MOp.pick (Opd.s 139)
 (Opd.c (AV.bool true))
 (Opd.s 144), none⟩]).seq
 (MC.cond (Opd.s 145)
 ((MC.reg
 [⟨some 6, MOp.mv (Opd.c (AV.bool false)), none⟩]).seq
 MC.ret)
 MC.skip))))))))).seq
 (MC.reg
 [⟨some 50, MOp.mv (Opd.s 11), none⟩,
 ⟨some 51, MOp.bin .add (Opd.s 50)
 (Opd.c (AV.int .i64 1)), none⟩,
 ⟨some 11, MOp.mv (Opd.s 51), none⟩])))
def M6b1l : List Bool := [true, true, true, false, false, false, false, false, true, false, true, true, false, false, false, false, false, false, false, false, false, false, false, false, false, false, false, false, false, false, false, false, false, false, false, false, false, false, false, false, false, false, false, false, false, false, false, false, false, false, false, false, false, false, false, false, false, false, false, false, false, false, false, false, false, false, false, false, false, false, false, false, false, false, false, false, false, false, false, false, false, false, false, false, false, false, false, false, false, false, false, false, false, false, false, false, false, false, false, false, false, false, false, false, false, false, false, false, false, false, false, false, false, false, false, false, false, false, false, false, false, false, false, false, false, false, false, false, false, false, false, false, false, false, false, false, false, false, false, false, false, false, false, false, false, false]
def M6b2 : MC :=
 (((MC.reg
 [⟨some 32, MOp.mv (Opd.s 9), none⟩,
 ⟨some 33, MOp.mv (Opd.s 1), none⟩,
 ⟨some 34, MOp.bin .lss (Opd.s 32) (Opd.s 33), none⟩]).seq
 (MC.cond (Opd.s 34) MC.skip (MC.exit 0))).seq
 ((MC.block 1
 ((MC.reg
 [⟨some 37, MOp.mv (Opd.s 8), none⟩,
 ⟨some 38, MOp.mv (Opd.s 9), none⟩,
 ⟨some 39, MOp.call 34 [(0, Opd.s 38)], none⟩,
 ⟨some 40, MOp.call 33 [(0, Opd.s 37), (0, Opd.s 39)], none⟩,
 ⟨some 41, MOp.bin .neq (Opd.s 40)
 (Opd.c (AV.int .i64 0)), none⟩]).seq
 (MC.cond (Opd.s 41)
 ((MC.reg
 [⟨some 6, MOp.mv (Opd.c (AV.bool false)), none⟩]).seq
 MC.ret)
 MC.skip))).seq
 (MC.reg
 [⟨some 35, MOp.mv (Opd.s 9), none⟩,
 ⟨some 36, MOp.bin .add (Opd.s 35)
 (Opd.c (AV.int .i64 1)), none⟩,
 ⟨some 9, MOp.mv (Opd.s 36), none⟩])))
def M6b2l : List Bool := [true, true, true, false, false, false, false, false, true, true, false, false, false, false, false, false, false, false, false, false, false, false, false, false, false, false, false, false, false, false, false, false, false, false, false, false, false, false, false, false, false, false, false, false, false, false, false, false, false, false, false, false, false, false, false, false, false, false, false, false, false, false, false, false, false, false, false, false, false, false, false, false, false, false, false, false, false, false, false, false, false, false, false, false, false, false, false, false, false, false, false, false, false, false, false, false, false, false, false, false, false, false, false, false, false, false, false, false, false, false, false, false, false, false, false, false, false, false, false, false, false, false, false, false, false, false, false, false, false, false, false, false, false, false, false, false, false, false, false, false, false, false, false, false, false, false]
def M6 : MFun :=
 ⟨146, [MRes.tmp 0 6], (MC.reg
 [⟨some 6, MOp.mv (Opd.c (AV.bool false)), none⟩]).seq
 ((MC.reg
 [⟨some 18, MOp.call 21 [], none⟩,
 ⟨some 7, MOp.mv (Opd.s 18), none⟩]).seq
 (((MC.reg
 [⟨some 19, MOp.mv (Opd.s 7), none⟩,
 ⟨some 20, MOp.un .not (Opd.s 19), none⟩]).seq
 (MC.cond (Opd.s 20)
 ((MC.reg
 [⟨some 6, MOp.mv (Opd.c (AV.bool false)), none⟩]).seq
 MC.ret)
 MC.skip)).seq
 ((MC.reg
 [⟨some 21, MOp.mv (Opd.s 0), none⟩,
 ⟨some 22, MOp.bin .rem (Opd.s 21)
 (Opd.c (AV.int .i64 7)), none⟩,
 ⟨some 23, MOp.bin .add (Opd.s 22)
 (Opd.c (AV.int .i64 7)), none⟩,
 ⟨some 24, MOp.bin .rem (Opd.s 23)
 (Opd.c (AV.int .i64 7)), none⟩,
 ⟨some 25, MOp.bin .add (Opd.c (AV.int .i64 1))
 (Opd.s 24), none⟩,
 ⟨some 26, MOp.mv (Opd.s 1), none⟩,
 ⟨some 27, MOp.bin .rem (Opd.s 26)
 (Opd.c (AV.int .i64 9)), none⟩,
 ⟨some 28, MOp.bin .add (Opd.s 27)
 (Opd.c (AV.int .i64 9)), none⟩,
 ⟨some 29, MOp.bin .rem (Opd.s 28)
 (Opd.c (AV.int .i64 9)), none⟩,
 ⟨some 0, MOp.mv (Opd.s 25), none⟩,
 ⟨some 1, MOp.mv (Opd.s 29), none⟩]).seq
 ((MC.reg
 [⟨some 30, MOp.mv (Opd.s 0), none⟩,
 ⟨some 31, MOp.call 32 [(0, Opd.s 30)], none⟩,
 ⟨some 8, MOp.mv (Opd.s 31), none⟩]).seq
 (((MC.reg
 [⟨some 9, MOp.mv (Opd.c (AV.int .i64 0)), none⟩]).seq
 (MC.block 0
 (MC.loop M6b2l M6b2))).seq
 ((MC.reg
 [⟨some 10, MOp.mv (Opd.c (AV.int .i64 0)), none⟩]).seq
 (((MC.reg
 [⟨some 11, MOp.mv (Opd.c (AV.int .i64 0)), none⟩]).seq
 (MC.block 2
 (MC.loop M6b1l M6b1))).seq
 ((MC.reg
 [⟨some 6, MOp.mv (Opd.c (AV.bool true)), none⟩]).seq
 MC.ret)))))))) ⟩
theorem tab6 : tableOf Tryd.prog 6 = some M6 := by kernel_rfl
end Go.Proofs.YtochnineebgbgaaDoor
