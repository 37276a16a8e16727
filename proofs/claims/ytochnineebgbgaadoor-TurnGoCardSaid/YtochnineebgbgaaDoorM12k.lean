/- Functions of the program in the evaluator's form, written out by a program. No conditions. -/
import Derived.Test.YtochnineebgbgaaDoorM12
set_option linter.unusedVariables false
namespace Go.Proofs.YtochnineebgbgaaDoor
open Go Go.Ab
def M10b0 : MC :=
 ((MC.reg
 [⟨some 87, MOp.bin .lss (Opd.s 86) (Opd.s 85), none⟩]).seq
 ((MC.cond (Opd.s 87) MC.skip (MC.exit 2)).seq
 ((MC.block 3
 ((MC.reg
 [⟨some 88, MOp.mv (Opd.s 86), none⟩,
 ⟨some 13, MOp.mv (Opd.s 88), none⟩]).seq
 ((MC.draw
 [⟨some 89, MOp.mv (Opd.s 11), none⟩,
 ⟨some 90, MOp.mv (Opd.s 13), none⟩,
 ⟨some 91, MOp.ixa 9 (Opd.s 89) (Opd.s 90), none⟩,
 ⟨some 92, MOp.fa 7 (Opd.s 91), none⟩,
 ⟨some 93, MOp.load none (Opd.s 92), none⟩,
 ⟨some 94, MOp.mv (Opd.s 13), none⟩,
 ⟨some 95, MOp.mv (Opd.s 11), none⟩,
 ⟨some 96, MOp.len (Opd.s 95), none⟩,
 ⟨some 97, MOp.bin .sub (Opd.s 96)
 (Opd.c (AV.int .i64 1)), none⟩,
 ⟨some 98, MOp.bin .eql (Opd.s 94) (Opd.s 97), none⟩,
 ⟨some 99, MOp.eqv true
 (EqK.flat (EqF.one SK.b)) (Opd.s 93)
 (Opd.s 98), none⟩,
 ⟨some 100, MOp.mv (Opd.s 99), none⟩,
 ⟨some 101, MOp.mv (Opd.s 11), some (100, false)⟩,
 ⟨some 102, MOp.mv (Opd.s 13), some (100, false)⟩,
 ⟨some 103, MOp.ixa 9 (Opd.s 101) (Opd.s 102), some (100, false)⟩,
 ⟨some 104, MOp.fa 2 (Opd.s 103), some (100, false)⟩,
 ⟨some 105, MOp.load none (Opd.s 104), some (100, false)⟩,
 ⟨some 106, MOp.un .not (Opd.s 105), some (100, false)⟩,
 ⟨some 107, MOp.pick (Opd.s 100)
 (Opd.c (AV.bool true)) (Opd.s 106), none⟩,
 ⟨some 108, MOp.mv (Opd.s 107), none⟩,
 ⟨some 109, MOp.mv (Opd.s 11), some (108, false)⟩,
 ⟨some 110, MOp.mv (Opd.s 13), some (108, false)⟩,
 ⟨some 111, MOp.ixa 9 (Opd.s 109) (Opd.s 110), some (108, false)⟩,
 ⟨some 112, MOp.fa 3 (Opd.s 111), some (108, false)⟩,
 ⟨some 113, MOp.load none (Opd.s 112), some (108, false)⟩,
 ⟨some 114, MOp.mv (Opd.s 9), some (108, false)⟩,
 ⟨some 115, MOp.bin .gtr (Opd.s 114)
 (Opd.c (AV.int .i64 0)), some (108, false)⟩,
 ⟨some 116, MOp.call 45 [(0, Opd.s 115)], some (108, false)⟩,
 ⟨some 117, MOp.bin .sub
 (Opd.c (AV.int .i64 2))
 (Opd.s 116), some (108, false)⟩,
 ⟨some 118, MOp.bin .neq (Opd.s 113)
 (Opd.s 117), some (108, false)⟩,
 ⟨some 119, MOp.pick (Opd.s 108)
 (Opd.c (AV.bool true)) (Opd.s 118), none⟩,
 ⟨some 120, MOp.mv (Opd.s 119), none⟩,
 ⟨some 121, MOp.mv (Opd.s 9), some (120, false)⟩,
 ⟨some 122, MOp.bin .gtr (Opd.s 121)
 (Opd.c (AV.int .i64 0)), some (120, false)⟩,
 ⟨some 123, MOp.mv (Opd.s 122), some (120, false)⟩,
 ⟨some 124, MOp.mv (Opd.s 11), some (123, true)⟩,
 ⟨some 125, MOp.mv (Opd.s 13), some (123, true)⟩,
 ⟨some 126, MOp.ixa 9 (Opd.s 124) (Opd.s 125), some (123, true)⟩,
 ⟨some 127, MOp.fa 6 (Opd.s 126), some (123, true)⟩,
 ⟨some 128, MOp.load none (Opd.s 127), some (123, true)⟩,
 ⟨some 129, MOp.mv (Opd.s 13), some (123, true)⟩,
 ⟨some 130, MOp.bin .neq (Opd.s 128)
 (Opd.s 129), some (123, true)⟩,
 ⟨some 131, MOp.mv (Opd.s 130), some (123, true)⟩,
 ⟨some 132, MOp.mv (Opd.s 11), some (131, false)⟩,
 ⟨some 133, MOp.mv (Opd.s 13), some (131, false)⟩,
 ⟨some 134, MOp.ixa 9 (Opd.s 132) (Opd.s 133), some (131, false)⟩,
 ⟨some 135, MOp.fa 8 (Opd.s 134), some (131, false)⟩,
 ⟨some 136, MOp.load none (Opd.s 135), some (131, false)⟩,
 ⟨some 137, MOp.mv (Opd.s 2), some (131, false)⟩,
 ⟨some 138, MOp.mv (Opd.s 13), some (131, false)⟩,
 ⟨some 139, MOp.ixa 1 (Opd.s 137) (Opd.s 138), some (131, false)⟩,
 ⟨some 140, MOp.load none (Opd.s 139), some (131, false)⟩,
 ⟨some 141, MOp.call 41
 [(0, Opd.s 140),
 (0,
 Opd.c
 (AV.int .i64 64))], some (131, false)⟩,
 ⟨some 142, MOp.bin .neq (Opd.s 136)
 (Opd.s 141), some (131, false)⟩,
 ⟨some 143, MOp.pick (Opd.s 131)
 (Opd.c (AV.bool true)) (Opd.s 142), some (123, true)⟩,
 ⟨some 144, MOp.pick (Opd.s 123) (Opd.s 143)
 (Opd.c (AV.bool false)), some (120, false)⟩,
 ⟨some 145, MOp.pick (Opd.s 120)
 (Opd.c (AV.bool true)) (Opd.s 144), none⟩]
 [0, 0, 3, 7, 15, 0, 0, 64, 192, 480, 1023, 2047, 4095, 4095, 16383,
 32767, 65535, 131071, 262143, 524287, 1048575, 1048575, 4194303,
 8388607, 16777215, 1048575, 34603007, 101711871, 235929599,
 536870911, 1073741823, 2147483647, 4294967295, 8589934591,
 17179869183, 34359738367, 34359738367, 137438953471, 274877906943,
 549755813887, 34359738367, 2199023255551, 4398046511103,
 8796093022207, 8796093022207, 35184372088831, 70368744177663,
 140737488355327, 8796093022207, 8796093022207, 853221023154175,
 1979120929996799, 4230920743682047, 9007199254740991,
 18014398509481983, 36028797018963967, 72057594037927935]).seq
 (MC.cond (Opd.s 145)
 ((MC.reg
 [⟨some 6, MOp.mv (Opd.c (AV.bool false)), none⟩]).seq
 MC.ret)
 MC.skip)))).seq
 (MC.reg
 [⟨some 146, MOp.bin .add (Opd.s 86)
 (Opd.c (AV.int .i64 1)), none⟩,
 ⟨some 86, MOp.mv (Opd.s 146), none⟩]))))
def M10b0l : List Bool := [false, false, true, false, false, false, false, false, true, true, false, true, false, false, false, false, false, false, false, false, false, false, false, false, false, false, false, false, false, false, false, false, false, false, false, false, false, false, false, false, false, false, false, false, false, false, false, false, false, false, false, false, false, false, false, false, false, false, false, false, false, false, false, false, false, false, false, false, false, false, false, false, false, false, false, false, false, false, false, false, false, false, false, false, false, true, true, false, false, false, false, false, false, false, false, false, false, false, false, false, false, false, false, false, false, false, false, false, false, false, false, false, false, false, false, false, false, false, false, false, false, false, false, false, false, false, false, false, false, false, false, false, false, false, false, false, false, false, false, false, false, false, false, false, false, false, false, false, false, false, false, false, false, false, false, false, false, false, false, false, false]
def M10b1 : MC :=
 (((MC.reg
 [⟨some 26, MOp.mv (Opd.s 10), none⟩,
 ⟨some 27, MOp.mv (Opd.s 2), none⟩,
 ⟨some 28, MOp.len (Opd.s 27), none⟩,
 ⟨some 29, MOp.bin .lss (Opd.s 26) (Opd.s 28), none⟩,
 ⟨some 30, MOp.mv (Opd.s 29), none⟩,
 ⟨some 31, MOp.mv (Opd.s 10), some (30, true)⟩,
 ⟨some 32, MOp.bin .lss (Opd.s 31)
 (Opd.c (AV.int .i64 12)), some (30, true)⟩,
 ⟨some 33, MOp.pick (Opd.s 30) (Opd.s 32)
 (Opd.c (AV.bool false)), none⟩]).seq
 (MC.cond (Opd.s 33) MC.skip (MC.exit 0))).seq
 ((MC.block 1
 ((MC.reg
 [⟨some 36, MOp.mv (Opd.s 8), none⟩,
 ⟨some 37, MOp.mv (Opd.s 2), none⟩,
 ⟨some 38, MOp.mv (Opd.s 10), none⟩,
 ⟨some 39, MOp.ixa 1 (Opd.s 37) (Opd.s 38), none⟩,
 ⟨some 40, MOp.load none (Opd.s 39), none⟩,
 ⟨some 41, MOp.call 41
 [(0, Opd.s 40),
 (0, Opd.c (AV.int .i64 64))], none⟩,
 ⟨some 42, MOp.call 40 [(0, Opd.s 36), (0, Opd.s 41)], none⟩,
 ⟨some 43, MOp.bin .eql (Opd.s 42)
 (Opd.c (AV.int .i64 0)), none⟩]).seq
 (MC.cond (Opd.s 43)
 (MC.reg
 [⟨some 44, MOp.mv (Opd.s 9), none⟩,
 ⟨some 45, MOp.bin .add (Opd.s 44)
 (Opd.c (AV.int .i64 1)), none⟩,
 ⟨some 9, MOp.mv (Opd.s 45), none⟩])
 MC.skip))).seq
 (MC.reg
 [⟨some 34, MOp.mv (Opd.s 10), none⟩,
 ⟨some 35, MOp.bin .add (Opd.s 34)
 (Opd.c (AV.int .i64 1)), none⟩,
 ⟨some 10, MOp.mv (Opd.s 35), none⟩])))
def M10b1l : List Bool := [true, false, true, false, true, false, false, false, true, true, true, false, false, false, false, false, false, false, false, false, false, false, false, false, false, false, false, false, false, false, false, false, false, false, false, false, false, false, false, false, false, false, false, false, false, false, false, false, false, false, false, false, false, false, false, false, false, false, false, false, false, false, false, false, false, false, false, false, false, false, false, false, false, false, false, false, false, false, false, false, false, false, false, false, false, false, false, false, false, false, false, false, false, false, false, false, false, false, false, false, false, false, false, false, false, false, false, false, false, false, false, false, false, false, false, false, false, false, false, false, false, false, false, false, false, false, false, false, false, false, false, false, false, false, false, false, false, false, false, false, false, false, false, false, false, false, false, false, false, false, false, false, false, false, false, false, false, false, false, false, false]
def M10r0 : MC :=
 ((MC.reg
 [⟨some 147, MOp.mv (Opd.s 8), none⟩,
 ⟨some 148, MOp.call 44 [(0, Opd.s 147)], none⟩,
 ⟨some 149, MOp.mv (Opd.s 148), none⟩,
 ⟨some 150, MOp.mv (Opd.s 8), some (149, true)⟩,
 ⟨some 151, MOp.call 43 [(0, Opd.s 150)], some (149, true)⟩,
 ⟨some 152, MOp.pick (Opd.s 149) (Opd.s 151)
 (Opd.c (AV.bool false)), none⟩,
 ⟨some 153, MOp.mv (Opd.s 152), none⟩,
 ⟨some 154, MOp.mv (Opd.s 8), some (153, true)⟩,
 ⟨some 155, MOp.call 42 [(0, Opd.s 154)], some (153, true)⟩,
 ⟨some 156, MOp.len (Opd.s 155), some (153, true)⟩,
 ⟨some 157, MOp.mv (Opd.s 11), some (153, true)⟩,
 ⟨some 158, MOp.len (Opd.s 157), some (153, true)⟩,
 ⟨some 159, MOp.bin .eql (Opd.s 156) (Opd.s 158), some (153, true)⟩,
 ⟨some 160, MOp.pick (Opd.s 153) (Opd.s 159)
 (Opd.c (AV.bool false)), none⟩,
 ⟨some 6, MOp.mv (Opd.s 160), none⟩]).seq
 MC.ret)
def M10r1 : MC :=
 ((MC.reg
 [⟨some 46, MOp.mv (Opd.s 8), none⟩,
 ⟨some 47, MOp.call 42 [(0, Opd.s 46)], none⟩,
 ⟨some 11, MOp.mv (Opd.s 47), none⟩]).seq
 (((MC.reg
 [⟨some 48, MOp.mv (Opd.s 0), none⟩,
 ⟨some 49, MOp.bin .eql (Opd.s 48)
 (Opd.c (AV.int .i64 2)), none⟩]).seq
 (MC.cond (Opd.s 49)
 ((MC.reg
 [⟨some 50, MOp.mv (Opd.s 11), none⟩,
 ⟨some 51, MOp.len (Opd.s 50), none⟩,
 ⟨some 52, MOp.bin .eql (Opd.s 51)
 (Opd.c (AV.int .i64 0)), none⟩,
 ⟨some 53, MOp.mv (Opd.s 52), none⟩,
 ⟨some 54, MOp.mv (Opd.s 8), some (53, true)⟩,
 ⟨some 55, MOp.call 43 [(0, Opd.s 54)], some (53, true)⟩,
 ⟨some 56, MOp.un .not (Opd.s 55), some (53, true)⟩,
 ⟨some 57, MOp.pick (Opd.s 53) (Opd.s 56)
 (Opd.c (AV.bool false)), none⟩,
 ⟨some 58, MOp.mv (Opd.s 57), none⟩,
 ⟨some 59, MOp.mv (Opd.s 8), some (58, true)⟩,
 ⟨some 60, MOp.call 44 [(0, Opd.s 59)], some (58, true)⟩,
 ⟨some 61, MOp.un .not (Opd.s 60), some (58, true)⟩,
 ⟨some 62, MOp.pick (Opd.s 58) (Opd.s 61)
 (Opd.c (AV.bool false)), none⟩,
 ⟨some 6, MOp.mv (Opd.s 62), none⟩]).seq
 MC.ret)
 MC.skip)).seq
 ((MC.reg
 [⟨some 63, MOp.fa 2 (Opd.s 4), none⟩,
 ⟨some 64, MOp.load none (Opd.s 63), none⟩,
 ⟨some 65, MOp.mn [Opd.s 64, Opd.c (AV.int .i64 7)], none⟩,
 ⟨some 66, MOp.mx [Opd.c (AV.int .i64 1), Opd.s 65], none⟩,
 ⟨some 12, MOp.mv (Opd.s 66), none⟩]).seq
 (((MC.reg
 [⟨some 67, MOp.mv (Opd.s 11), none⟩,
 ⟨some 68, MOp.len (Opd.s 67), none⟩,
 ⟨some 69, MOp.mv (Opd.s 9), none⟩,
 ⟨some 70, MOp.mv (Opd.s 12), none⟩,
 ⟨some 71, MOp.mn [Opd.s 69, Opd.s 70], none⟩,
 ⟨some 72, MOp.mx
 [Opd.c (AV.int .i64 1), Opd.s 71], none⟩,
 ⟨some 73, MOp.bin .neq (Opd.s 68) (Opd.s 72), none⟩,
 ⟨some 74, MOp.mv (Opd.s 73), none⟩,
 ⟨some 75, MOp.mv (Opd.s 8), some (74, false)⟩,
 ⟨some 76, MOp.call 43 [(0, Opd.s 75)], some (74, false)⟩,
 ⟨some 77, MOp.pick (Opd.s 74) (Opd.c (AV.bool true))
 (Opd.s 76), none⟩,
 ⟨some 78, MOp.mv (Opd.s 77), none⟩,
 ⟨some 79, MOp.mv (Opd.s 8), some (78, false)⟩,
 ⟨some 80, MOp.call 42 [(0, Opd.s 79)], some (78, false)⟩,
 ⟨some 81, MOp.len (Opd.s 80), some (78, false)⟩,
 ⟨some 82, MOp.bin .neq (Opd.s 81)
 (Opd.c (AV.int .i64 0)), some (78, false)⟩,
 ⟨some 83, MOp.pick (Opd.s 78) (Opd.c (AV.bool true))
 (Opd.s 82), none⟩]).seq
 (MC.cond (Opd.s 83)
 ((MC.reg
 [⟨some 6, MOp.mv (Opd.c (AV.bool false)), none⟩]).seq
 MC.ret)
 MC.skip)).seq
 (((MC.reg
 [⟨some 84, MOp.mv (Opd.s 11), none⟩,
 ⟨some 85, MOp.len (Opd.s 84), none⟩,
 ⟨some 86, MOp.mv (Opd.c (AV.int .i64 0)), none⟩]).seq
 (MC.block 2
 (MC.loop M10b0l M10b0))).seq
 M10r0)))))
def M10 : MFun :=
 ⟨161, [MRes.tmp 0 6], (MC.reg
 [⟨some 4, MOp.box (Opd.s 1), none⟩,
 ⟨some 6, MOp.mv (Opd.c (AV.bool false)), none⟩]).seq
 ((MC.reg
 [⟨some 14, MOp.call 21 [], none⟩,
 ⟨some 7, MOp.mv (Opd.s 14), none⟩]).seq
 (((MC.reg
 [⟨some 15, MOp.mv (Opd.s 7), none⟩,
 ⟨some 16, MOp.un .not (Opd.s 15), none⟩]).seq
 (MC.cond (Opd.s 16)
 ((MC.reg
 [⟨some 6, MOp.mv (Opd.c (AV.bool false)), none⟩]).seq
 MC.ret)
 MC.skip)).seq
 ((MC.reg
 [⟨some 17, MOp.mv (Opd.s 0), none⟩,
 ⟨some 18, MOp.bin .rem (Opd.s 17) (Opd.c (AV.int .i64 2)), none⟩,
 ⟨some 19, MOp.bin .add (Opd.s 18) (Opd.c (AV.int .i64 2)), none⟩,
 ⟨some 20, MOp.bin .rem (Opd.s 19) (Opd.c (AV.int .i64 2)), none⟩,
 ⟨some 21, MOp.bin .add (Opd.c (AV.int .i64 1)) (Opd.s 20), none⟩,
 ⟨some 0, MOp.mv (Opd.s 21), none⟩]).seq
 ((MC.reg
 [⟨some 22, MOp.fa 3 (Opd.s 4), none⟩,
 ⟨none, MOp.store 1 (Opd.s 22) (Opd.c (AV.int .i64 64)), none⟩]).seq
 ((MC.reg
 [⟨some 23, MOp.mv (Opd.s 0), none⟩,
 ⟨some 24, MOp.load (some 5) (Opd.s 4), none⟩,
 ⟨some 25, MOp.call 39 [(0, Opd.s 23), (0, Opd.s 24)], none⟩,
 ⟨some 8, MOp.mv (Opd.s 25), none⟩]).seq
 ((MC.reg
 [⟨some 9, MOp.mv (Opd.c (AV.int .i64 0)), none⟩]).seq
 (((MC.reg
 [⟨some 10, MOp.mv (Opd.c (AV.int .i64 0)), none⟩]).seq
 (MC.block 0
 (MC.loop M10b1l M10b1))).seq
 M10r1))))))) ⟩
theorem tab10 : tableOf Tryd.prog 10 = some M10 := by kernel_rfl
end Go.Proofs.YtochnineebgbgaaDoor
