/- Functions of the program in the evaluator's form, written out by a program. No conditions. -/
import Derived.Test.YtbeimfhodgmjhaaDoorM8
set_option linter.unusedVariables false
namespace Go.Proofs.YtbeimfhodgmjhaaDoor
open Go Go.Ab
def M4b0 : MC :=
 (((MC.reg
 [⟨some 89, MOp.mv (Opd.s 18), none⟩,
 ⟨some 90, MOp.mv (Opd.s 10), none⟩,
 ⟨some 91, MOp.len (Opd.s 90), none⟩,
 ⟨some 92, MOp.bin .lss (Opd.s 89)
 (Opd.s 91), none⟩]).seq
 (MC.cond (Opd.s 92) MC.skip
 (MC.exit 4))).seq
 ((MC.block 5
 (MC.draw
 [⟨some 95, MOp.mv (Opd.s 16), none⟩,
 ⟨some 96, MOp.mv (Opd.s 95), none⟩,
 ⟨some 97, MOp.mv (Opd.s 13), some (96, true)⟩,
 ⟨some 98, MOp.mv (Opd.s 17), some (96, true)⟩,
 ⟨some 99, MOp.ixa 2 (Opd.s 97)
 (Opd.s 98), some (96, true)⟩,
 ⟨some 100, MOp.fa 0 (Opd.s 99), some (96, true)⟩,
 ⟨some 101, MOp.load none (Opd.s 100), some (96, true)⟩,
 ⟨some 102, MOp.mv (Opd.s 10), some (96, true)⟩,
 ⟨some 103, MOp.mv (Opd.s 18), some (96, true)⟩,
 ⟨some 104, MOp.ixa 2 (Opd.s 102)
 (Opd.s 103), some (96, true)⟩,
 ⟨some 105, MOp.fa 0 (Opd.s 104), some (96, true)⟩,
 ⟨some 106, MOp.load none (Opd.s 105), some (96, true)⟩,
 ⟨some 107, MOp.bin .neq (Opd.s 101)
 (Opd.s 106), some (96, true)⟩,
 ⟨some 108, MOp.pick (Opd.s 96)
 (Opd.s 107)
 (Opd.c (AV.bool false)), none⟩,
 ⟨some 16, MOp.mv (Opd.s 108), none⟩]
 [0, 1, 3, 3, 15, 31, 63, 3, 3, 387, 899, 1923, 4095,
 8191, 16383])).seq
 (MC.reg
 [⟨some 93, MOp.mv (Opd.s 18), none⟩,
 ⟨some 94, MOp.bin .add (Opd.s 93)
 (Opd.c
 (AV.int .i64 1)), none⟩,
 ⟨some 18, MOp.mv (Opd.s 94), none⟩])))
def M4b0l : List Bool := [false, false, false, true, false, false, false, false, false, false, true, false, true, true, false, true, true, true, true, false, false, false, false, false, false, false, false, false, false, false, false, false, false, false, false, false, false, false, false, false, false, false, false, false, false, false, false, false, false, false, false, false, false, false, false, false, false, false, false, false, false, false, false, false, false, false, false, false, false, false, false, false, false, false, false, false, false, false, false, false, false, false, false, false, true, true, false, false, false, false, false, false, false, false, false, false, false, false, false, false, false, false, false, false, false, false, false, false, false, false, false, false, false, false, false, false, false, false, false, false, false, false, false, false, false, false, false, false, false, false, false, false, false, false, false, false, false, false, false, false]
def M4r0 : MC :=
 (MC.reg
 [⟨some 109, MOp.bin .add (Opd.s 85)
 (Opd.c (AV.int .i64 1)), none⟩,
 ⟨some 85, MOp.mv (Opd.s 109), none⟩])
def M4b1 : MC :=
 ((MC.reg
 [⟨some 86, MOp.bin .lss (Opd.s 85) (Opd.s 84), none⟩]).seq
 ((MC.cond (Opd.s 86) MC.skip (MC.exit 2)).seq
 ((MC.block 3
 ((MC.reg
 [⟨some 87, MOp.mv (Opd.s 85), none⟩,
 ⟨some 17, MOp.mv (Opd.s 87), none⟩]).seq
 ((MC.reg
 [⟨some 88, MOp.mv (Opd.s 12), none⟩,
 ⟨some 18, MOp.mv (Opd.s 88), none⟩]).seq
 (MC.block 4
 (MC.loop M4b0l M4b0))))).seq
 M4r0)))
def M4b1l : List Bool := [false, false, false, true, false, false, false, false, false, false, true, false, true, true, false, true, true, false, false, false, false, false, false, false, false, false, false, false, false, false, false, false, false, false, false, false, false, false, false, false, false, false, false, false, false, false, false, false, false, false, false, false, false, false, false, false, false, false, false, false, false, false, false, false, false, false, false, false, false, false, false, false, false, false, false, false, false, false, false, false, false, false, false, false, true, true, false, false, false, false, false, false, false, false, false, false, false, false, false, false, false, false, false, false, false, false, false, false, false, false, false, false, false, false, false, false, false, false, false, false, false, false, false, false, false, false, false, false, false, false, false, false, false, false, false, false, false, false, false, false]
def M4b2 : MC :=
 (((MC.reg
 [⟨some 42, MOp.mv (Opd.s 14), none⟩,
 ⟨some 43, MOp.mv (Opd.s 1), none⟩,
 ⟨some 44, MOp.len (Opd.s 43), none⟩,
 ⟨some 45, MOp.bin .lss (Opd.s 42) (Opd.s 44), none⟩,
 ⟨some 46, MOp.mv (Opd.s 45), none⟩,
 ⟨some 47, MOp.mv (Opd.s 14), some (46, true)⟩,
 ⟨some 48, MOp.bin .lss (Opd.s 47)
 (Opd.c (AV.int .i64 3)), some (46, true)⟩,
 ⟨some 49, MOp.pick (Opd.s 46) (Opd.s 48)
 (Opd.c (AV.bool false)), none⟩]).seq
 (MC.cond (Opd.s 49) MC.skip (MC.exit 0))).seq
 ((MC.block 1
 (MC.draw
 [⟨some 52, MOp.mv (Opd.s 13), none⟩,
 ⟨some 53, MOp.mv (Opd.s 1), none⟩,
 ⟨some 54, MOp.mv (Opd.s 14), none⟩,
 ⟨some 55, MOp.ixa 2 (Opd.s 53) (Opd.s 54), none⟩,
 ⟨some 56, MOp.fa 0 (Opd.s 55), none⟩,
 ⟨some 57, MOp.load none (Opd.s 56), none⟩,
 ⟨some 58, MOp.mv (Opd.s 1), none⟩,
 ⟨some 59, MOp.mv (Opd.s 14), none⟩,
 ⟨some 60, MOp.ixa 2 (Opd.s 58) (Opd.s 59), none⟩,
 ⟨some 61, MOp.fa 1 (Opd.s 60), none⟩,
 ⟨some 62, MOp.load none (Opd.s 61), none⟩,
 ⟨some 63, MOp.call 22
 [(0, Opd.s 62),
 (0, Opd.c (AV.int .i64 9))], none⟩,
 ⟨some 64, MOp.build
 [AV.int .i64 0, AV.str []]
 [(0, 1, Opd.s 57), (1, 1, Opd.s 63)], none⟩,
 ⟨some 65, MOp.bsl false 2 1
 [AV.int .i64 0, AV.str []]
 [(0, 2, Opd.s 64)], none⟩,
 ⟨some 66, MOp.app false 2 24 (Opd.s 52) (Opd.s 65), none⟩,
 ⟨some 13, MOp.mv (Opd.s 66), none⟩]
 [0, 0, 0, 6, 14, 30, 0, 0, 192, 448, 960, 1984, 4094, 8190, 16383,
 32767])).seq
 (MC.reg
 [⟨some 50, MOp.mv (Opd.s 14), none⟩,
 ⟨some 51, MOp.bin .add (Opd.s 50)
 (Opd.c (AV.int .i64 1)), none⟩,
 ⟨some 14, MOp.mv (Opd.s 51), none⟩])))
def M4b2l : List Bool := [false, true, false, true, false, false, false, false, false, false, true, false, true, true, true, false, false, false, false, false, false, false, false, false, false, false, false, false, false, false, false, false, false, false, false, false, false, false, false, false, false, false, false, false, false, false, false, false, false, false, false, false, false, false, false, false, false, false, false, false, false, false, false, false, false, false, false, false, false, false, false, false, false, false, false, false, false, false, false, false, false, false, false, false, false, false, false, false, false, false, false, false, false, false, false, false, false, false, false, false, false, false, false, false, false, false, false, false, false, false, false, false, false, false, false, false, false, false, false, false, false, false, false, false, false, false, false, false, false, false, false, false, false, false, false, false, false, false, false, false]
def M4r1 : MC :=
 ((MC.reg
 [⟨some 111, MOp.mv (Opd.s 15), none⟩,
 ⟨some 112, MOp.call 38 [(0, Opd.s 111)], none⟩,
 ⟨some 110, MOp.mv (Opd.s 112), none⟩,
 ⟨some 113, MOp.ext 0 (Opd.s 110), none⟩,
 ⟨some 114, MOp.ext 1 (Opd.s 110), none⟩,
 ⟨some 19, MOp.alloc
 [AV.int .i64 0,
 AV.int .i64 0,
 AV.int .i64 0,
 AV.int .i64 0,
 AV.int .i64 0], none⟩,
 ⟨none, MOp.store 5 (Opd.s 19) (Opd.s 113), none⟩,
 ⟨some 20, MOp.mv (Opd.s 114), none⟩]).seq
 ((MC.reg
 [⟨some 116, MOp.mv (Opd.s 15), none⟩,
 ⟨some 117, MOp.call 39 [(0, Opd.s 116)], none⟩,
 ⟨some 115, MOp.mv (Opd.s 117), none⟩,
 ⟨some 118, MOp.ext 0 (Opd.s 115), none⟩,
 ⟨some 119, MOp.ext 1 (Opd.s 115), none⟩,
 ⟨some 21, MOp.alloc
 [AV.int .i64 0,
 AV.int .i64 0,
 AV.int .i64 0,
 AV.int .i64 0,
 AV.int .i64 0], none⟩,
 ⟨none, MOp.store 5 (Opd.s 21) (Opd.s 118), none⟩,
 ⟨some 22, MOp.mv (Opd.s 119), none⟩]).seq
 ((MC.reg
 [⟨some 120, MOp.load (some 5) (Opd.s 19), none⟩,
 ⟨some 121, MOp.load (some 5) (Opd.s 21), none⟩,
 ⟨some 122, MOp.eqv false
 (EqK.flat
 (EqF.many
 [SK.i, SK.i, SK.i, SK.i, SK.i]))
 (Opd.s 120) (Opd.s 121), none⟩,
 ⟨some 123, MOp.mv (Opd.s 122), none⟩,
 ⟨some 124, MOp.mv (Opd.s 20), some (123, true)⟩,
 ⟨some 125, MOp.mv (Opd.s 22), some (123, true)⟩,
 ⟨some 126, MOp.eqv false (EqK.flat (EqF.one SK.b))
 (Opd.s 124) (Opd.s 125), some (123, true)⟩,
 ⟨some 127, MOp.pick (Opd.s 123) (Opd.s 126)
 (Opd.c (AV.bool false)), none⟩,
 ⟨some 128, MOp.mv (Opd.s 127), none⟩,
 ⟨some 129, MOp.mv (Opd.s 16), some (128, true)⟩,
 ⟨some 130, MOp.un .not (Opd.s 129), some (128, true)⟩,
 ⟨some 131, MOp.mv (Opd.s 130), some (128, true)⟩,
 ⟨some 132, MOp.mv (Opd.s 20), some (131, false)⟩,
 ⟨some 133, MOp.mv (Opd.s 132), some (131, false)⟩,
 ⟨some 134, MOp.load (some 5) (Opd.s 19), some (133, true)⟩,
 ⟨some 135, MOp.load (some 5) (Opd.s 3), some (133, true)⟩,
 ⟨some 136, MOp.eqv false
 (EqK.flat
 (EqF.many
 [SK.i, SK.i, SK.i, SK.i, SK.i]))
 (Opd.s 134) (Opd.s 135), some (133, true)⟩,
 ⟨some 137, MOp.pick (Opd.s 133) (Opd.s 136)
 (Opd.c (AV.bool false)), some (131, false)⟩,
 ⟨some 138, MOp.pick (Opd.s 131) (Opd.c (AV.bool true))
 (Opd.s 137), some (128, true)⟩,
 ⟨some 139, MOp.pick (Opd.s 128) (Opd.s 138)
 (Opd.c (AV.bool false)), none⟩,
 ⟨some 6, MOp.mv (Opd.s 139), none⟩]).seq
 MC.ret)))
def M4r2 : MC :=
 ((MC.draw
 [⟨some 68, MOp.mv (Opd.s 10), none⟩,
 ⟨some 69, MOp.mv (Opd.s 12), none⟩,
 ⟨some 70, MOp.slc 2 (Opd.s 68) none (some (Opd.s 69)), none⟩,
 ⟨some 71, MOp.app false 2 24 (Opd.c AV.nils) (Opd.s 70), none⟩,
 ⟨some 72, MOp.mv (Opd.s 13), none⟩,
 ⟨some 73, MOp.app false 2 24 (Opd.s 71) (Opd.s 72), none⟩,
 ⟨some 74, MOp.mv (Opd.s 10), none⟩,
 ⟨some 75, MOp.mv (Opd.s 12), none⟩,
 ⟨some 76, MOp.slc 2 (Opd.s 74) (some (Opd.s 75)) none, none⟩,
 ⟨some 77, MOp.app false 2 24 (Opd.s 73) (Opd.s 76), none⟩,
 ⟨some 78, MOp.call 41 [(2, Opd.s 77)], none⟩,
 ⟨some 67, MOp.mv (Opd.s 78), none⟩,
 ⟨some 79, MOp.ext 0 (Opd.s 67), none⟩,
 ⟨some 80, MOp.ext 1 (Opd.s 67), none⟩,
 ⟨some 15, MOp.mv (Opd.s 79), none⟩,
 ⟨some 9, MOp.mv (Opd.s 80), none⟩]
 [0, 0, 3, 7, 0, 31, 0, 0, 192, 511, 1023, 2047, 4095, 4095, 8191, 32767]).seq
 (((MC.reg
 [⟨some 81, MOp.mv (Opd.s 9), none⟩,
 ⟨some 82, MOp.un .not (Opd.s 81), none⟩]).seq
 (MC.cond (Opd.s 82)
 ((MC.reg
 [⟨some 6, MOp.mv (Opd.c (AV.bool true)), none⟩]).seq
 MC.ret)
 MC.skip)).seq
 ((MC.reg
 [⟨some 16, MOp.mv (Opd.c (AV.bool true)), none⟩]).seq
 (((MC.reg
 [⟨some 83, MOp.mv (Opd.s 13), none⟩,
 ⟨some 84, MOp.len (Opd.s 83), none⟩,
 ⟨some 85, MOp.mv (Opd.c (AV.int .i64 0)), none⟩]).seq
 (MC.block 2
 (MC.loop M4b1l M4b1))).seq
 M4r1))))
def M4 : MFun :=
 ⟨140, [MRes.tmp 0 6], (MC.reg
 [⟨some 3, MOp.box (Opd.s 0), none⟩,
 ⟨some 6, MOp.mv (Opd.c (AV.bool false)), none⟩]).seq
 ((MC.reg
 [⟨some 23, MOp.call 21 [], none⟩,
 ⟨some 7, MOp.mv (Opd.s 23), none⟩]).seq
 (((MC.reg
 [⟨some 24, MOp.mv (Opd.s 7), none⟩,
 ⟨some 25, MOp.un .not (Opd.s 24), none⟩]).seq
 (MC.cond (Opd.s 25)
 ((MC.reg
 [⟨some 6, MOp.mv (Opd.c (AV.bool false)), none⟩]).seq
 MC.ret)
 MC.skip)).seq
 ((MC.reg
 [⟨some 27, MOp.load (some 5) (Opd.s 3), none⟩,
 ⟨some 28, MOp.call 23 [(0, Opd.s 27)], none⟩,
 ⟨some 26, MOp.mv (Opd.s 28), none⟩,
 ⟨some 29, MOp.ext 0 (Opd.s 26), none⟩,
 ⟨some 30, MOp.ext 1 (Opd.s 26), none⟩,
 ⟨some 8, MOp.mv (Opd.s 29), none⟩,
 ⟨some 9, MOp.mv (Opd.s 30), none⟩]).seq
 (((MC.reg
 [⟨some 31, MOp.mv (Opd.s 9), none⟩,
 ⟨some 32, MOp.un .not (Opd.s 31), none⟩]).seq
 (MC.cond (Opd.s 32)
 ((MC.reg
 [⟨some 6, MOp.mv (Opd.c (AV.bool true)), none⟩]).seq
 MC.ret)
 MC.skip)).seq
 ((MC.reg
 [⟨some 34, MOp.mv (Opd.s 8), none⟩,
 ⟨some 35, MOp.call 40 [(0, Opd.s 34)], none⟩,
 ⟨some 33, MOp.mv (Opd.s 35), none⟩,
 ⟨some 36, MOp.ext 0 (Opd.s 33), none⟩,
 ⟨some 37, MOp.ext 1 (Opd.s 33), none⟩,
 ⟨some 10, MOp.mv (Opd.s 36), none⟩,
 ⟨some 11, MOp.mv (Opd.s 37), none⟩]).seq
 ((MC.reg
 [⟨some 38, MOp.mv (Opd.s 2), none⟩,
 ⟨some 39, MOp.bin .rem (Opd.s 38)
 (Opd.c (AV.int .i64 6)), none⟩,
 ⟨some 40, MOp.bin .add (Opd.s 39)
 (Opd.c (AV.int .i64 6)), none⟩,
 ⟨some 41, MOp.bin .rem (Opd.s 40)
 (Opd.c (AV.int .i64 6)), none⟩,
 ⟨some 12, MOp.mv (Opd.s 41), none⟩]).seq
 ((MC.reg
 [⟨some 13, MOp.mv (Opd.c AV.nils), none⟩]).seq
 (((MC.reg
 [⟨some 14, MOp.mv (Opd.c (AV.int .i64 0)), none⟩]).seq
 (MC.block 0
 (MC.loop M4b2l M4b2))).seq
 M4r2)))))))) ⟩
theorem tab4 : tableOf Tryd.prog 4 = some M4 := by kernel_rfl
end Go.Proofs.YtbeimfhodgmjhaaDoor
