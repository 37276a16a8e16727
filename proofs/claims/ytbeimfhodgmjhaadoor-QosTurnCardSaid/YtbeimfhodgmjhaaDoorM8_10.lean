/- Functions of the program in the evaluator's form, written out by a program. No conditions. -/
import Derived.Test.YtbeimfhodgmjhaaDoorM8
set_option linter.unusedVariables false
namespace Go.Proofs.YtbeimfhodgmjhaaDoor
open Go Go.Ab
def M10 : MFun :=
 ⟨51, [MRes.tmp 0 6], (MC.reg
 [⟨some 3, MOp.box (Opd.s 0), none⟩,
 ⟨some 6, MOp.mv (Opd.c (AV.bool false)), none⟩]).seq
 ((MC.reg
 [⟨some 10, MOp.call 21 [], none⟩,
 ⟨some 7, MOp.mv (Opd.s 10), none⟩]).seq
 (((MC.reg
 [⟨some 11, MOp.mv (Opd.s 7), none⟩,
 ⟨some 12, MOp.un .not (Opd.s 11), none⟩]).seq
 (MC.cond (Opd.s 12)
 ((MC.reg
 [⟨some 6, MOp.mv (Opd.c (AV.bool false)), none⟩]).seq
 MC.ret)
 MC.skip)).seq
 (((MC.reg
 [⟨some 13, MOp.mv (Opd.s 1), none⟩,
 ⟨some 14, MOp.bin .rem (Opd.s 13)
 (Opd.c (AV.int .i64 5)), none⟩,
 ⟨some 15, MOp.bin .add (Opd.s 14)
 (Opd.c (AV.int .i64 5)), none⟩,
 ⟨some 16, MOp.bin .rem (Opd.s 15)
 (Opd.c (AV.int .i64 5)), none⟩]).seq
 (MC.block 0
 ((MC.reg
 [⟨some 20, MOp.bin .eql (Opd.s 16)
 (Opd.c (AV.int .i64 0)), none⟩,
 ⟨some 19, MOp.mv (Opd.s 20), none⟩]).seq
 (MC.cond (Opd.s 19)
 (MC.reg
 [⟨some 21, MOp.mv (Opd.s 2), none⟩,
 ⟨some 22, MOp.fa 0 (Opd.s 3), none⟩,
 ⟨none, MOp.store 1 (Opd.s 22) (Opd.s 21), none⟩])
 ((MC.reg
 [⟨some 24, MOp.bin .eql (Opd.s 16)
 (Opd.c (AV.int .i64 1)), none⟩,
 ⟨some 23, MOp.mv (Opd.s 24), none⟩]).seq
 (MC.cond (Opd.s 23)
 (MC.reg
 [⟨some 25, MOp.mv (Opd.s 2), none⟩,
 ⟨some 26, MOp.fa 1 (Opd.s 3), none⟩,
 ⟨none, MOp.store 1 (Opd.s 26) (Opd.s 25), none⟩])
 ((MC.reg
 [⟨some 28, MOp.bin .eql (Opd.s 16)
 (Opd.c (AV.int .i64 2)), none⟩,
 ⟨some 27, MOp.mv (Opd.s 28), none⟩]).seq
 (MC.cond (Opd.s 27)
 (MC.reg
 [⟨some 29, MOp.mv (Opd.s 2), none⟩,
 ⟨some 30, MOp.fa 2 (Opd.s 3), none⟩,
 ⟨none, MOp.store 1 (Opd.s 30) (Opd.s 29), none⟩])
 ((MC.reg
 [⟨some 32, MOp.bin .eql (Opd.s 16)
 (Opd.c (AV.int .i64 3)), none⟩,
 ⟨some 31, MOp.mv (Opd.s 32), none⟩]).seq
 (MC.cond (Opd.s 31)
 (MC.reg
 [⟨some 33, MOp.mv (Opd.s 2), none⟩,
 ⟨some 34, MOp.fa 3 (Opd.s 3), none⟩,
 ⟨none, MOp.store 1 (Opd.s 34) (Opd.s 33), none⟩])
 (MC.reg
 [⟨some 17, MOp.mv (Opd.s 2), none⟩,
 ⟨some 18, MOp.fa 4 (Opd.s 3), none⟩,
 ⟨none, MOp.store 1 (Opd.s 18) (Opd.s 17), none⟩]))))))))))).seq
 ((MC.reg
 [⟨some 36, MOp.load (some 5) (Opd.s 3), none⟩,
 ⟨some 37, MOp.call 23 [(0, Opd.s 36)], none⟩,
 ⟨some 35, MOp.mv (Opd.s 37), none⟩,
 ⟨some 38, MOp.ext 0 (Opd.s 35), none⟩,
 ⟨some 39, MOp.ext 1 (Opd.s 35), none⟩,
 ⟨some 8, MOp.mv (Opd.s 38), none⟩,
 ⟨some 9, MOp.mv (Opd.s 39), none⟩]).seq
 ((MC.draw
 [⟨some 40, MOp.load (some 5) (Opd.s 3), none⟩,
 ⟨some 41, MOp.call 25 [(0, Opd.s 40)], none⟩,
 ⟨some 42, MOp.load (some 5) (Opd.s 3), none⟩,
 ⟨some 43, MOp.call 58 [(0, Opd.s 42)], none⟩,
 ⟨some 44, MOp.eqv false (EqK.flat (EqF.one SK.b)) (Opd.s 41)
 (Opd.s 43), none⟩,
 ⟨some 45, MOp.mv (Opd.s 44), none⟩,
 ⟨some 46, MOp.mv (Opd.s 9), some (45, true)⟩,
 ⟨some 47, MOp.load (some 5) (Opd.s 3), some (45, true)⟩,
 ⟨some 48, MOp.call 25 [(0, Opd.s 47)], some (45, true)⟩,
 ⟨some 49, MOp.eqv false (EqK.flat (EqF.one SK.b)) (Opd.s 46)
 (Opd.s 48), some (45, true)⟩,
 ⟨some 50, MOp.pick (Opd.s 45) (Opd.s 49) (Opd.c (AV.bool false)), none⟩,
 ⟨some 6, MOp.mv (Opd.s 50), none⟩]
 [0, 1, 0, 7, 15, 31, 63, 63, 191, 511, 1023, 2047]).seq
 MC.ret))))) ⟩
theorem tab10 : tableOf Tryd.prog 10 = some M10 := by kernel_rfl
end Go.Proofs.YtbeimfhodgmjhaaDoor
