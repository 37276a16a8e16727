/- Functions of the program in the evaluator's form, written out by a program. No conditions. -/
import Derived.Test.YtbeimfhodgmjhaaDoorM8
set_option linter.unusedVariables false
namespace Go.Proofs.YtbeimfhodgmjhaaDoor
open Go Go.Ab
def M6b0 : MC :=
 (((MC.reg
 [⟨some 114, MOp.mv (Opd.s 15), none⟩,
 ⟨some 115, MOp.fa 2 (Opd.s 8), none⟩,
 ⟨some 116, MOp.load none (Opd.s 115), none⟩,
 ⟨some 117, MOp.bin .lss (Opd.s 114) (Opd.s 116), none⟩]).seq
 (MC.cond (Opd.s 117) MC.skip (MC.exit 2))).seq
 ((MC.block 3
 (MC.reg
 [⟨some 120, MOp.mv (Opd.s 12), none⟩,
 ⟨some 121, MOp.mv (Opd.s 13), none⟩,
 ⟨some 122, MOp.call 46
 [(1, Opd.s 121),
 (0, Opd.c (AV.int .i64 1))], none⟩,
 ⟨some 123, MOp.app true 1 1 (Opd.s 120) (Opd.s 122), none⟩,
 ⟨some 12, MOp.mv (Opd.s 123), none⟩])).seq
 (MC.reg
 [⟨some 118, MOp.mv (Opd.s 15), none⟩,
 ⟨some 119, MOp.bin .add (Opd.s 118)
 (Opd.c (AV.int .i64 1)), none⟩,
 ⟨some 15, MOp.mv (Opd.s 119), none⟩])))
def M6b0l : List Bool := [false, false, false, false, false, false, false, false, true, false, false, false, true, true, false, true, false, false, false, false, false, false, false, false, false, false, false, false, false, false, false, false, false, false, false, false, false, false, false, false, false, false, false, false, false, false, false, false, false, false, false, false, false, false, false, false, false, false, false, false, false, false, false, false, false, false, false, false, false, false, false, false, false, false, false, false, false, false, false, false, false, false, false, false, false, false, false, false, false, false, false, false, false, false, false, false, false, false, false, false, false, false, false, false, false, false, false, false, false, false, false, false, false, false, false, false, false, false, false, false, false, false, false, false, false, false, false, false, false, false]
def M6b1 : MC :=
 ((MC.reg
 [⟨some 104, MOp.bin .lss (Opd.s 103) (Opd.s 102), none⟩]).seq
 ((MC.cond (Opd.s 104) MC.skip (MC.exit 0)).seq
 ((MC.block 1
 ((MC.reg
 [⟨some 105, MOp.mv (Opd.s 103), none⟩,
 ⟨some 14, MOp.mv (Opd.s 105), none⟩]).seq
 ((MC.reg
 [⟨some 106, MOp.mv (Opd.s 14), none⟩,
 ⟨some 107, MOp.mv (Opd.s 2), none⟩,
 ⟨some 108, MOp.len (Opd.s 107), none⟩,
 ⟨some 109, MOp.bin .geq (Opd.s 106)
 (Opd.s 108), none⟩]).seq
 (MC.cond (Opd.s 109)
 (MC.reg
 [⟨some 110, MOp.mv (Opd.s 13), none⟩,
 ⟨some 111, MOp.mv (Opd.s 14), none⟩,
 ⟨some 112, MOp.ixa 1 (Opd.s 110) (Opd.s 111), none⟩,
 ⟨none, MOp.store 1 (Opd.s 112)
 (Opd.c
 (AV.int .u8 192)), none⟩])
 MC.skip)))).seq
 (MC.reg
 [⟨some 113, MOp.bin .add (Opd.s 103)
 (Opd.c (AV.int .i64 1)), none⟩,
 ⟨some 103, MOp.mv (Opd.s 113), none⟩]))))
def M6b1l : List Bool := [false, false, true, false, false, false, false, false, true, false, false, false, true, true, false, false, false, false, false, false, false, false, false, false, false, false, false, false, false, false, false, false, false, false, false, false, false, false, false, false, false, false, false, false, false, false, false, false, false, false, false, false, false, false, false, false, false, false, false, false, false, false, false, false, false, false, false, false, false, false, false, false, false, false, false, false, false, false, false, false, false, false, false, false, false, false, false, false, false, false, false, false, false, false, false, false, false, false, false, false, false, false, true, true, false, false, false, false, false, false, false, false, false, false, false, false, false, false, false, false, false, false, false, false, false, false, false, false, false, false]
def M6r0 : MC :=
 ((MC.reg
 [⟨some 124, MOp.mv (Opd.s 12), none⟩,
 ⟨some 125, MOp.len (Opd.s 124), none⟩,
 ⟨some 126, MOp.fa 0 (Opd.s 8), none⟩,
 ⟨some 127, MOp.load none (Opd.s 126), none⟩,
 ⟨some 128, MOp.call 36 [(0, Opd.s 125), (0, Opd.s 127)], none⟩,
 ⟨some 129, MOp.bin .leq (Opd.s 128)
 (Opd.c (AV.int .i64 30)), none⟩,
 ⟨some 6, MOp.mv (Opd.s 129), none⟩]).seq
 MC.ret)
def M6r1 : MC :=
 (((MC.reg
 [⟨some 15, MOp.mv (Opd.c (AV.int .i64 0)), none⟩]).seq
 (MC.block 2
 (MC.loop M6b0l M6b0))).seq
 M6r0)
def M6 : MFun :=
 ⟨130, [MRes.tmp 0 6], (MC.reg
 [⟨some 3, MOp.box (Opd.s 0), none⟩,
 ⟨some 4, MOp.box (Opd.s 1), none⟩,
 ⟨some 6, MOp.mv (Opd.c (AV.bool false)), none⟩]).seq
 ((MC.reg
 [⟨some 16, MOp.call 21 [], none⟩,
 ⟨some 7, MOp.mv (Opd.s 16), none⟩]).seq
 (((MC.reg
 [⟨some 17, MOp.mv (Opd.s 7), none⟩,
 ⟨some 18, MOp.un .not (Opd.s 17), none⟩]).seq
 (MC.cond (Opd.s 18)
 ((MC.reg
 [⟨some 6, MOp.mv (Opd.c (AV.bool false)), none⟩]).seq
 MC.ret)
 MC.skip)).seq
 ((MC.reg
 [⟨some 20, MOp.load (some 5) (Opd.s 3), none⟩,
 ⟨some 21, MOp.load (some 5) (Opd.s 4), none⟩,
 ⟨some 22, MOp.call 42 [(0, Opd.s 20), (0, Opd.s 21)], none⟩,
 ⟨some 19, MOp.mv (Opd.s 22), none⟩,
 ⟨some 23, MOp.ext 0 (Opd.s 19), none⟩,
 ⟨some 24, MOp.ext 1 (Opd.s 19), none⟩,
 ⟨some 8, MOp.alloc
 [AV.int .i64 0, AV.int .i64 0,
 AV.int .i64 0, AV.int .i64 0,
 AV.int .i64 0], none⟩,
 ⟨none, MOp.store 5 (Opd.s 8) (Opd.s 23), none⟩,
 ⟨some 9, MOp.mv (Opd.s 24), none⟩]).seq
 ((MC.reg
 [⟨some 26, MOp.load (some 5) (Opd.s 4), none⟩,
 ⟨some 27, MOp.load (some 5) (Opd.s 3), none⟩,
 ⟨some 28, MOp.call 42 [(0, Opd.s 26), (0, Opd.s 27)], none⟩,
 ⟨some 25, MOp.mv (Opd.s 28), none⟩,
 ⟨some 29, MOp.ext 0 (Opd.s 25), none⟩,
 ⟨some 30, MOp.ext 1 (Opd.s 25), none⟩,
 ⟨some 10, MOp.alloc
 [AV.int .i64 0, AV.int .i64 0,
 AV.int .i64 0, AV.int .i64 0,
 AV.int .i64 0], none⟩,
 ⟨none, MOp.store 5 (Opd.s 10) (Opd.s 29), none⟩,
 ⟨some 11, MOp.mv (Opd.s 30), none⟩]).seq
 (((MC.reg
 [⟨some 31, MOp.mv (Opd.s 9), none⟩,
 ⟨some 32, MOp.un .not (Opd.s 31), none⟩,
 ⟨some 33, MOp.mv (Opd.s 32), none⟩,
 ⟨some 34, MOp.mv (Opd.s 11), some (33, false)⟩,
 ⟨some 35, MOp.un .not (Opd.s 34), some (33, false)⟩,
 ⟨some 36, MOp.pick (Opd.s 33) (Opd.c (AV.bool true))
 (Opd.s 35), none⟩]).seq
 (MC.cond (Opd.s 36)
 ((MC.reg
 [⟨some 37, MOp.mv (Opd.s 9), none⟩,
 ⟨some 38, MOp.mv (Opd.s 11), none⟩,
 ⟨some 39, MOp.eqv false (EqK.flat (EqF.one SK.b))
 (Opd.s 37) (Opd.s 38), none⟩,
 ⟨some 6, MOp.mv (Opd.s 39), none⟩]).seq
 MC.ret)
 MC.skip)).seq
 (((MC.draw
 [⟨some 40, MOp.fa 0 (Opd.s 8), none⟩,
 ⟨some 41, MOp.load none (Opd.s 40), none⟩,
 ⟨some 42, MOp.fa 0 (Opd.s 10), none⟩,
 ⟨some 43, MOp.load none (Opd.s 42), none⟩,
 ⟨some 44, MOp.bin .neq (Opd.s 41) (Opd.s 43), none⟩,
 ⟨some 45, MOp.mv (Opd.s 44), none⟩,
 ⟨some 46, MOp.fa 1 (Opd.s 8), some (45, false)⟩,
 ⟨some 47, MOp.load none (Opd.s 46), some (45, false)⟩,
 ⟨some 48, MOp.fa 1 (Opd.s 10), some (45, false)⟩,
 ⟨some 49, MOp.load none (Opd.s 48), some (45, false)⟩,
 ⟨some 50, MOp.bin .neq (Opd.s 47) (Opd.s 49), some (45, false)⟩,
 ⟨some 51, MOp.pick (Opd.s 45) (Opd.c (AV.bool true))
 (Opd.s 50), none⟩,
 ⟨some 52, MOp.mv (Opd.s 51), none⟩,
 ⟨some 53, MOp.fa 2 (Opd.s 8), some (52, false)⟩,
 ⟨some 54, MOp.load none (Opd.s 53), some (52, false)⟩,
 ⟨some 55, MOp.bin .lss (Opd.s 54)
 (Opd.c (AV.int .i64 1)), some (52, false)⟩,
 ⟨some 56, MOp.pick (Opd.s 52) (Opd.c (AV.bool true))
 (Opd.s 55), none⟩,
 ⟨some 57, MOp.mv (Opd.s 56), none⟩,
 ⟨some 58, MOp.fa 2 (Opd.s 8), some (57, false)⟩,
 ⟨some 59, MOp.load none (Opd.s 58), some (57, false)⟩,
 ⟨some 60, MOp.fa 2 (Opd.s 4), some (57, false)⟩,
 ⟨some 61, MOp.load none (Opd.s 60), some (57, false)⟩,
 ⟨some 62, MOp.call 27 [(0, Opd.s 61)], some (57, false)⟩,
 ⟨some 63, MOp.bin .add (Opd.s 62)
 (Opd.c (AV.int .i64 1)), some (57, false)⟩,
 ⟨some 64, MOp.bin .gtr (Opd.s 59) (Opd.s 63), some (57, false)⟩,
 ⟨some 65, MOp.pick (Opd.s 57) (Opd.c (AV.bool true))
 (Opd.s 64), none⟩,
 ⟨some 66, MOp.mv (Opd.s 65), none⟩,
 ⟨some 67, MOp.fa 2 (Opd.s 10), some (66, false)⟩,
 ⟨some 68, MOp.load none (Opd.s 67), some (66, false)⟩,
 ⟨some 69, MOp.fa 2 (Opd.s 3), some (66, false)⟩,
 ⟨some 70, MOp.load none (Opd.s 69), some (66, false)⟩,
 ⟨some 71, MOp.call 27 [(0, Opd.s 70)], some (66, false)⟩,
 ⟨some 72, MOp.bin .add (Opd.s 71)
 (Opd.c (AV.int .i64 1)), some (66, false)⟩,
 ⟨some 73, MOp.bin .gtr (Opd.s 68) (Opd.s 72), some (66, false)⟩,
 ⟨some 74, MOp.pick (Opd.s 66) (Opd.c (AV.bool true))
 (Opd.s 73), none⟩,
 ⟨some 75, MOp.mv (Opd.s 74), none⟩,
 ⟨some 76, MOp.fa 2 (Opd.s 8), some (75, false)⟩,
 ⟨some 77, MOp.load none (Opd.s 76), some (75, false)⟩,
 ⟨some 78, MOp.fa 3 (Opd.s 8), some (75, false)⟩,
 ⟨some 79, MOp.load none (Opd.s 78), some (75, false)⟩,
 ⟨some 80, MOp.fa 0 (Opd.s 8), some (75, false)⟩,
 ⟨some 81, MOp.load none (Opd.s 80), some (75, false)⟩,
 ⟨some 82, MOp.call 44 [(0, Opd.s 79), (0, Opd.s 81)], some (75, false)⟩,
 ⟨some 83, MOp.bin .mul (Opd.s 77) (Opd.s 82), some (75, false)⟩,
 ⟨some 84, MOp.bin .gtr (Opd.s 83)
 (Opd.c (AV.int .i64 30)), some (75, false)⟩,
 ⟨some 85, MOp.pick (Opd.s 75) (Opd.c (AV.bool true))
 (Opd.s 84), none⟩,
 ⟨some 86, MOp.mv (Opd.s 85), none⟩,
 ⟨some 87, MOp.fa 4 (Opd.s 8), some (86, false)⟩,
 ⟨some 88, MOp.load none (Opd.s 87), some (86, false)⟩,
 ⟨some 89, MOp.fa 4 (Opd.s 4), some (86, false)⟩,
 ⟨some 90, MOp.load none (Opd.s 89), some (86, false)⟩,
 ⟨some 91, MOp.call 29 [(0, Opd.s 90)], some (86, false)⟩,
 ⟨some 92, MOp.bin .neq (Opd.s 88) (Opd.s 91), some (86, false)⟩,
 ⟨some 93, MOp.pick (Opd.s 86) (Opd.c (AV.bool true))
 (Opd.s 92), none⟩]
 [0, 1, 0, 4, 15, 31, 63, 127, 63, 319, 1023, 2047, 4095, 8191, 16383, 32767, 65535, 131071,
 262143, 524287, 262143, 1310719, 3407871, 7602175, 16777215, 33554431, 67108863,
 134217727, 268435455, 134217727, 671088639, 1744830463, 3892314111, 8589934591,
 17179869183, 34359738367, 68719476735, 137438953471, 68719476735, 343597383679,
 68719476735, 1168231104511, 4191888080895, 8796093022207, 17592186044415, 35184372088831,
 70368744177663, 140737488355327, 281474976710655, 140737488355327, 703687441776639,
 1829587348619263, 4503599627370495, 9007199254740991]).seq
 (MC.cond (Opd.s 93)
 ((MC.reg
 [⟨some 6, MOp.mv (Opd.c (AV.bool false)), none⟩]).seq
 MC.ret)
 MC.skip)).seq
 ((MC.reg
 [⟨some 12, MOp.mv (Opd.c AV.nils), none⟩]).seq
 ((MC.reg
 [⟨some 94, MOp.fa 3 (Opd.s 8), none⟩,
 ⟨some 95, MOp.load none (Opd.s 94), none⟩,
 ⟨some 96, MOp.bin .add (Opd.c (AV.int .i64 3))
 (Opd.s 95), none⟩,
 ⟨some 97, MOp.mks 1 1 [AV.int .u8 0] (Opd.s 96)
 (Opd.s 96), none⟩,
 ⟨some 13, MOp.mv (Opd.s 97), none⟩]).seq
 ((MC.reg
 [⟨some 98, MOp.mv (Opd.s 13), none⟩,
 ⟨some 99, MOp.mv (Opd.s 2), none⟩,
 ⟨some 100, MOp.cpy 1 (Opd.s 98) (Opd.s 99), none⟩]).seq
 (((MC.reg
 [⟨some 101, MOp.mv (Opd.s 13), none⟩,
 ⟨some 102, MOp.len (Opd.s 101), none⟩,
 ⟨some 103, MOp.mv (Opd.c (AV.int .i64 0)), none⟩]).seq
 (MC.block 0
 (MC.loop M6b1l M6b1))).seq
 M6r1)))))))))) ⟩
theorem tab6 : tableOf Tryd.prog 6 = some M6 := by kernel_rfl
end Go.Proofs.YtbeimfhodgmjhaaDoor
