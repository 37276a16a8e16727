/- Functions of the program in the evaluator's form, written out by a program. No conditions. -/
import Derived.Test.YtochnineebgbgaaDoorM12
set_option linter.unusedVariables false
namespace Go.Proofs.YtochnineebgbgaaDoor
open Go Go.Ab
def M29 : MFun :=
 ⟨30, [MRes.tmp 0 6, MRes.tmp 0 7], (MC.reg
 [⟨some 6, MOp.mv (Opd.c (AV.str [])), none⟩,
 ⟨some 7, MOp.mv (Opd.c (AV.bool false)), none⟩]).seq
 (((MC.reg
 [⟨some 8, MOp.mv (Opd.s 1), none⟩,
 ⟨some 9, MOp.mv (Opd.s 0), none⟩,
 ⟨some 10, MOp.nchk (Opd.s 9), none⟩,
 ⟨some 11, MOp.fa 0 (Opd.s 10), none⟩,
 ⟨some 12, MOp.load none (Opd.s 11), none⟩,
 ⟨some 13, MOp.bin .neq (Opd.s 8) (Opd.s 12), none⟩]).seq
 (MC.cond (Opd.s 13)
 ((MC.reg
 [⟨some 14, MOp.mv (Opd.s 0), none⟩,
 ⟨some 15, MOp.nchk (Opd.s 14), none⟩,
 ⟨some 16, MOp.fa 1 (Opd.s 15), none⟩,
 ⟨none, MOp.store 1 (Opd.s 16) (Opd.c (AV.bool true)), none⟩]).seq
 ((MC.reg
 [⟨some 6, MOp.mv (Opd.c (AV.str [])), none⟩,
 ⟨some 7, MOp.mv (Opd.c (AV.bool false)), none⟩]).seq
 MC.ret))
 MC.skip)).seq
 ((MC.reg
 [⟨some 17, MOp.mv (Opd.s 0), none⟩,
 ⟨some 18, MOp.mv (Opd.s 0), none⟩,
 ⟨some 19, MOp.mv (Opd.s 0), none⟩,
 ⟨some 20, MOp.nchk (Opd.s 19), none⟩,
 ⟨some 21, MOp.fa 0 (Opd.s 20), none⟩,
 ⟨some 22, MOp.load none (Opd.s 21), none⟩,
 ⟨some 23, MOp.bin .add (Opd.s 22)
 (Opd.c (AV.int .i64 1)), none⟩,
 ⟨some 24, MOp.call 23 [(0, Opd.s 23)], none⟩,
 ⟨some 25, MOp.nchk (Opd.s 17), none⟩,
 ⟨some 26, MOp.fa 0 (Opd.s 25), none⟩,
 ⟨none, MOp.store 1 (Opd.s 26) (Opd.s 24), none⟩,
 ⟨some 27, MOp.nchk (Opd.s 18), none⟩,
 ⟨some 28, MOp.fa 1 (Opd.s 27), none⟩,
 ⟨none, MOp.store 1 (Opd.s 28) (Opd.c (AV.bool false)), none⟩]).seq
 ((MC.reg
 [⟨some 29, MOp.mv (Opd.s 2), none⟩,
 ⟨some 6, MOp.mv (Opd.s 29), none⟩,
 ⟨some 7, MOp.mv (Opd.c (AV.bool true)), none⟩]).seq
 MC.ret))) ⟩
theorem tab29 : tableOf Tryd.prog 29 = some M29 := by kernel_rfl
end Go.Proofs.YtochnineebgbgaaDoor
