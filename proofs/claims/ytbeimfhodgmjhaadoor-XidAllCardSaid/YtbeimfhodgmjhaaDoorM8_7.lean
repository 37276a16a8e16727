/- Functions of the program in the evaluator's form, written out by a program. No conditions. -/
import Derived.Test.YtbeimfhodgmjhaaDoorM8f
set_option linter.unusedVariables false
namespace Go.Proofs.YtbeimfhodgmjhaaDoor
open Go Go.Ab
def M7b0 : MC :=
 ((MC.reg
 [⟨some 79, MOp.bin .lss (Opd.s 78) (Opd.s 77), none⟩]).seq
 ((MC.cond (Opd.s 79) MC.skip (MC.exit 0)).seq
 ((MC.block 1
 ((MC.reg
 [⟨some 80, MOp.ixa 1 (Opd.s 76) (Opd.s 78), none⟩,
 ⟨some 81, MOp.load none (Opd.s 80), none⟩,
 ⟨some 15, MOp.mv (Opd.s 81), none⟩]).seq
 ((MC.reg
 [⟨some 83, MOp.mv (Opd.s 15), none⟩,
 ⟨some 84, MOp.call 50 [(0, Opd.s 83)], none⟩,
 ⟨some 82, MOp.mv (Opd.s 84), none⟩,
 ⟨some 85, MOp.ext 0 (Opd.s 82), none⟩,
 ⟨some 86, MOp.ext 1 (Opd.s 82), none⟩,
 ⟨some 16, MOp.alloc
 [AV.int .u32 0,
 AV.int .u32 0,
 AV.int .i64 0,
 AV.int .i64 0,
 AV.bool false, AV.str []], none⟩,
 ⟨none, MOp.store 6 (Opd.s 16) (Opd.s 85), none⟩,
 ⟨some 17, MOp.mv (Opd.s 86), none⟩]).seq
 ((MC.reg
 [⟨some 88, MOp.mv (Opd.s 15), none⟩,
 ⟨some 89, MOp.call 51 [(0, Opd.s 88)], none⟩,
 ⟨some 87, MOp.mv (Opd.s 89), none⟩,
 ⟨some 90, MOp.ext 0 (Opd.s 87), none⟩,
 ⟨some 91, MOp.ext 1 (Opd.s 87), none⟩,
 ⟨some 18, MOp.alloc
 [AV.int .u32 0,
 AV.int .u32 0,
 AV.int .i64 0,
 AV.int .i64 0,
 AV.bool false, AV.str []], none⟩,
 ⟨none, MOp.store 6 (Opd.s 18) (Opd.s 90), none⟩,
 ⟨some 19, MOp.mv (Opd.s 91), none⟩]).seq
 ((MC.reg
 [⟨some 92, MOp.load (some 6) (Opd.s 16), none⟩,
 ⟨some 93, MOp.load (some 6) (Opd.s 18), none⟩,
 ⟨some 94, MOp.eqv true
 (EqK.flat
 (EqF.many
 [SK.i, SK.i, SK.i, SK.i,
 SK.b, SK.s]))
 (Opd.s 92) (Opd.s 93), none⟩,
 ⟨some 95, MOp.mv (Opd.s 94), none⟩,
 ⟨some 96, MOp.mv (Opd.s 17), some (95, false)⟩,
 ⟨some 97, MOp.mv (Opd.s 19), some (95, false)⟩,
 ⟨some 98, MOp.eqv true
 (EqK.flat (EqF.one SK.b))
 (Opd.s 96) (Opd.s 97), some (95, false)⟩,
 ⟨some 99, MOp.pick (Opd.s 95)
 (Opd.c (AV.bool true)) (Opd.s 98), none⟩]).seq
 (MC.cond (Opd.s 99)
 ((MC.reg
 [⟨some 8, MOp.mv (Opd.c (AV.bool false)), none⟩]).seq
 MC.ret)
 MC.skip)))))).seq
 (MC.reg
 [⟨some 100, MOp.bin .add (Opd.s 78)
 (Opd.c (AV.int .i64 1)), none⟩,
 ⟨some 78, MOp.mv (Opd.s 100), none⟩]))))
def M7b0l : List Bool := [false, false, true, true, true, false, false, false, false, false, true, true, false, false, false, false, false, false, false, false, false, false, false, false, false, false, false, false, false, false, false, false, false, false, false, false, false, false, false, false, false, false, false, false, false, false, false, false, false, false, false, false, false, false, false, false, false, false, false, false, false, false, false, false, false, false, false, false, false, false, false, false, false, false, false, false, true, true, true, false, false, false, false, false, false, false, false, false, false, false, false, false, false, false, false, false, false, false, false, false, false, false, false, false, false, false, false, false, false, false, false, false, false, false, false, false, false, false, false, false, false, false, false, false, false, false, false, false, false, false, false, false, false, false, false, false, false, false, false, false]
def M7r0 : MC :=
 ((MC.reg
 [⟨some 102, MOp.mv (Opd.s 2), none⟩,
 ⟨some 103, MOp.mv (Opd.s 3), none⟩,
 ⟨some 104, MOp.call 52 [(1, Opd.s 102), (1, Opd.s 103)], none⟩,
 ⟨some 101, MOp.mv (Opd.s 104), none⟩,
 ⟨some 105, MOp.ext 0 (Opd.s 101), none⟩,
 ⟨some 106, MOp.ext 1 (Opd.s 101), none⟩,
 ⟨some 20, MOp.mv (Opd.s 105), none⟩,
 ⟨some 21, MOp.mv (Opd.s 106), none⟩]).seq
 ((MC.reg
 [⟨some 108, MOp.mv (Opd.s 2), none⟩,
 ⟨some 109, MOp.mv (Opd.s 3), none⟩,
 ⟨some 110, MOp.call 53 [(1, Opd.s 108), (1, Opd.s 109)], none⟩,
 ⟨some 107, MOp.mv (Opd.s 110), none⟩,
 ⟨some 111, MOp.ext 0 (Opd.s 107), none⟩,
 ⟨some 112, MOp.ext 1 (Opd.s 107), none⟩,
 ⟨some 22, MOp.mv (Opd.s 111), none⟩,
 ⟨some 23, MOp.mv (Opd.s 112), none⟩]).seq
 ((MC.reg
 [⟨some 114, MOp.mv (Opd.s 10), none⟩,
 ⟨some 115, MOp.call 50 [(0, Opd.s 114)], none⟩,
 ⟨some 113, MOp.mv (Opd.s 115), none⟩,
 ⟨some 116, MOp.ext 0 (Opd.s 113), none⟩,
 ⟨some 117, MOp.ext 1 (Opd.s 113), none⟩,
 ⟨some 24, MOp.alloc
 [AV.int .u32 0,
 AV.int .u32 0,
 AV.int .i64 0,
 AV.int .i64 0, AV.bool false,
 AV.str []], none⟩,
 ⟨none, MOp.store 6 (Opd.s 24) (Opd.s 116), none⟩,
 ⟨some 25, MOp.mv (Opd.s 117), none⟩]).seq
 ((MC.reg
 [⟨some 118, MOp.mv (Opd.s 20), none⟩,
 ⟨some 119, MOp.mv (Opd.s 22), none⟩,
 ⟨some 120, MOp.bin .eql (Opd.s 118) (Opd.s 119), none⟩,
 ⟨some 121, MOp.mv (Opd.s 120), none⟩,
 ⟨some 122, MOp.mv (Opd.s 21), some (121, true)⟩,
 ⟨some 123, MOp.mv (Opd.s 23), some (121, true)⟩,
 ⟨some 124, MOp.bin .eql (Opd.s 122) (Opd.s 123), some (121, true)⟩,
 ⟨some 125, MOp.pick (Opd.s 121) (Opd.s 124)
 (Opd.c (AV.bool false)), none⟩,
 ⟨some 126, MOp.mv (Opd.s 125), none⟩,
 ⟨some 127, MOp.mv (Opd.s 25), some (126, true)⟩,
 ⟨some 128, MOp.mv (Opd.s 11), some (126, true)⟩,
 ⟨some 129, MOp.eqv false (EqK.flat (EqF.one SK.b))
 (Opd.s 127) (Opd.s 128), some (126, true)⟩,
 ⟨some 130, MOp.pick (Opd.s 126) (Opd.s 129)
 (Opd.c (AV.bool false)), none⟩,
 ⟨some 131, MOp.mv (Opd.s 130), none⟩,
 ⟨some 132, MOp.mv (Opd.s 11), some (131, true)⟩,
 ⟨some 133, MOp.un .not (Opd.s 132), some (131, true)⟩,
 ⟨some 134, MOp.mv (Opd.s 133), some (131, true)⟩,
 ⟨some 135, MOp.load (some 6) (Opd.s 24), some (134, false)⟩,
 ⟨some 136, MOp.load (some 6) (Opd.s 4), some (134, false)⟩,
 ⟨some 137, MOp.eqv false
 (EqK.flat
 (EqF.many
 [SK.i, SK.i, SK.i, SK.i, SK.b,
 SK.s]))
 (Opd.s 135) (Opd.s 136), some (134, false)⟩,
 ⟨some 138, MOp.pick (Opd.s 134) (Opd.c (AV.bool true))
 (Opd.s 137), some (131, true)⟩,
 ⟨some 139, MOp.pick (Opd.s 131) (Opd.s 138)
 (Opd.c (AV.bool false)), none⟩,
 ⟨some 8, MOp.mv (Opd.s 139), none⟩]).seq
 MC.ret))))
def M7 : MFun :=
 ⟨140, [MRes.tmp 0 8], (MC.reg
 [⟨some 4, MOp.box (Opd.s 0), none⟩,
 ⟨some 8, MOp.mv (Opd.c (AV.bool false)), none⟩]).seq
 ((MC.reg
 [⟨some 26, MOp.call 21 [], none⟩,
 ⟨some 9, MOp.mv (Opd.s 26), none⟩]).seq
 (((MC.reg
 [⟨some 27, MOp.mv (Opd.s 9), none⟩,
 ⟨some 28, MOp.un .not (Opd.s 27), none⟩]).seq
 (MC.cond (Opd.s 28)
 ((MC.reg
 [⟨some 8, MOp.mv (Opd.c (AV.bool false)), none⟩]).seq
 MC.ret)
 MC.skip)).seq
 ((MC.reg
 [⟨some 29, MOp.fa 5 (Opd.s 4), none⟩,
 ⟨some 30, MOp.load none (Opd.s 29), none⟩,
 ⟨some 31, MOp.call 22
 [(0, Opd.s 30), (0, Opd.c (AV.int .i64 25))], none⟩,
 ⟨some 32, MOp.mv (Opd.s 1), none⟩,
 ⟨some 33, MOp.call 22
 [(0, Opd.s 32), (0, Opd.c (AV.int .i64 40))], none⟩,
 ⟨some 34, MOp.fa 5 (Opd.s 4), none⟩,
 ⟨none, MOp.store 1 (Opd.s 34) (Opd.s 31), none⟩,
 ⟨some 1, MOp.mv (Opd.s 33), none⟩]).seq
 ((MC.draw
 [⟨some 35, MOp.mv (Opd.s 2), none⟩,
 ⟨some 36, MOp.mv (Opd.s 2), none⟩,
 ⟨some 37, MOp.len (Opd.s 36), none⟩,
 ⟨some 38, MOp.mn [Opd.s 37, Opd.c (AV.int .i64 8)], none⟩,
 ⟨some 39, MOp.slc 1 (Opd.s 35) none (some (Opd.s 38)), none⟩,
 ⟨some 40, MOp.mv (Opd.s 3), none⟩,
 ⟨some 41, MOp.mv (Opd.s 3), none⟩,
 ⟨some 42, MOp.len (Opd.s 41), none⟩,
 ⟨some 43, MOp.mn [Opd.s 42, Opd.c (AV.int .i64 8)], none⟩,
 ⟨some 44, MOp.slc 1 (Opd.s 40) none (some (Opd.s 43)), none⟩,
 ⟨some 2, MOp.mv (Opd.s 39), none⟩,
 ⟨some 3, MOp.mv (Opd.s 44), none⟩]
 [0, 0, 2, 6, 15, 0, 0, 64, 192, 480, 31, 2047]).seq
 ((MC.reg
 [⟨some 46, MOp.load (some 6) (Opd.s 4), none⟩,
 ⟨some 47, MOp.call 47 [(0, Opd.s 46)], none⟩,
 ⟨some 45, MOp.mv (Opd.s 47), none⟩,
 ⟨some 48, MOp.ext 0 (Opd.s 45), none⟩,
 ⟨some 49, MOp.ext 1 (Opd.s 45), none⟩,
 ⟨some 10, MOp.mv (Opd.s 48), none⟩,
 ⟨some 11, MOp.mv (Opd.s 49), none⟩]).seq
 ((MC.reg
 [⟨some 51, MOp.load (some 6) (Opd.s 4), none⟩,
 ⟨some 52, MOp.call 48 [(0, Opd.s 51)], none⟩,
 ⟨some 50, MOp.mv (Opd.s 52), none⟩,
 ⟨some 53, MOp.ext 0 (Opd.s 50), none⟩,
 ⟨some 54, MOp.ext 1 (Opd.s 50), none⟩,
 ⟨some 12, MOp.mv (Opd.s 53), none⟩,
 ⟨some 13, MOp.mv (Opd.s 54), none⟩]).seq
 (((MC.reg
 [⟨some 55, MOp.mv (Opd.s 10), none⟩,
 ⟨some 56, MOp.mv (Opd.s 12), none⟩,
 ⟨some 57, MOp.bin .neq (Opd.s 55) (Opd.s 56), none⟩,
 ⟨some 58, MOp.mv (Opd.s 57), none⟩,
 ⟨some 59, MOp.mv (Opd.s 11), some (58, false)⟩,
 ⟨some 60, MOp.mv (Opd.s 13), some (58, false)⟩,
 ⟨some 61, MOp.eqv true (EqK.flat (EqF.one SK.b)) (Opd.s 59)
 (Opd.s 60), some (58, false)⟩,
 ⟨some 62, MOp.pick (Opd.s 58) (Opd.c (AV.bool true))
 (Opd.s 61), none⟩,
 ⟨some 63, MOp.mv (Opd.s 62), none⟩,
 ⟨some 64, MOp.load (some 6) (Opd.s 4), some (63, false)⟩,
 ⟨some 65, MOp.call 49 [(0, Opd.s 64)], some (63, false)⟩,
 ⟨some 66, MOp.mv (Opd.s 13), some (63, false)⟩,
 ⟨some 67, MOp.eqv true (EqK.flat (EqF.one SK.b)) (Opd.s 65)
 (Opd.s 66), some (63, false)⟩,
 ⟨some 68, MOp.pick (Opd.s 63) (Opd.c (AV.bool true))
 (Opd.s 67), none⟩]).seq
 (MC.cond (Opd.s 68)
 ((MC.reg
 [⟨some 8, MOp.mv (Opd.c (AV.bool false)), none⟩]).seq
 MC.ret)
 MC.skip)).seq
 (((MC.reg
 [⟨some 69, MOp.mv (Opd.s 10), none⟩,
 ⟨some 70, MOp.mv (Opd.s 1), none⟩,
 ⟨some 71, MOp.mv (Opd.s 10), none⟩,
 ⟨some 72, MOp.mv (Opd.s 10), none⟩,
 ⟨some 73, MOp.lens (Opd.s 72), none⟩,
 ⟨some 74, MOp.mn
 [Opd.s 73, Opd.c (AV.int .i64 10)], none⟩,
 ⟨some 75, MOp.sls (Opd.s 71) none (some (Opd.s 74)), none⟩,
 ⟨some 76, MOp.bsl false 1 3 [AV.str [], AV.str [], AV.str []]
 [(0, 1, Opd.s 69), (1, 1, Opd.s 70), (2, 1, Opd.s 75)], none⟩,
 ⟨some 77, MOp.len (Opd.s 76), none⟩,
 ⟨some 78, MOp.mv (Opd.c (AV.int .i64 0)), none⟩]).seq
 (MC.block 0
 (MC.loop M7b0l M7b0))).seq
 M7r0)))))))) ⟩
theorem tab7 : tableOf Tryd.prog 7 = some M7 := by kernel_rfl
end Go.Proofs.YtbeimfhodgmjhaaDoor
