/- Functions of the program in the evaluator's form, written out by a program. No conditions. -/
import Derived.Test.YtghfinbdgnggjaaMd
import Derived.Test.YtghfinbdgnggjaaRaw
set_option linter.unusedVariables false
namespace Go.Proofs.Ytghfinbdgnggjaa
open Go Go.Ab
def M1042 : MFun :=
 ⟨8, [MRes.tmp 1 2], (MC.reg [⟨some 2, MOp.mv (Opd.c AV.nils), none⟩]).seq
 (((MC.reg
 [⟨some 3, MOp.mv (Opd.s 0), none⟩,
 ⟨some 4, MOp.eqv false EqK.slc (Opd.s 3) (Opd.c AV.nils), none⟩]).seq
 (MC.cond (Opd.s 4)
 ((MC.reg
 [⟨some 2, MOp.mv (Opd.c AV.nils), none⟩]).seq
 MC.ret)
 MC.skip)).seq
 ((MC.reg
 [⟨some 5, MOp.bsl true 1 0 [] [], none⟩,
 ⟨some 6, MOp.mv (Opd.s 0), none⟩,
 ⟨some 7, MOp.app true 1 1 (Opd.s 5) (Opd.s 6), none⟩,
 ⟨some 2, MOp.mv (Opd.s 7), none⟩]).seq
 MC.ret)) ⟩
def M1018b0 : MC :=
 ((MC.reg
 [⟨some 47, MOp.bin .lss (Opd.s 46)
 (Opd.s 45), none⟩]).seq
 ((MC.cond (Opd.s 47) MC.skip
 (MC.exit 2)).seq
 ((MC.block 3
 ((MC.reg
 [⟨some 48, MOp.mv (Opd.s 46), none⟩,
 ⟨some 10, MOp.mv (Opd.s 48), none⟩]).seq
 (MC.reg
 [⟨some 49, MOp.mv (Opd.s 7), none⟩,
 ⟨some 50, MOp.mv (Opd.s 10), none⟩,
 ⟨some 51, MOp.ixa 1 (Opd.s 49) (Opd.s 50), none⟩,
 ⟨some 52, MOp.load none (Opd.s 51), none⟩,
 ⟨some 53, MOp.bin .xor (Opd.s 52)
 (Opd.c
 (AV.int .u8 255)), none⟩,
 ⟨some 54, MOp.ixa 1 (Opd.s 49) (Opd.s 50), none⟩,
 ⟨none, MOp.store 1 (Opd.s 54)
 (Opd.s 53), none⟩]))).seq
 (MC.reg
 [⟨some 55, MOp.bin .add (Opd.s 46)
 (Opd.c
 (AV.int .i64 1)), none⟩,
 ⟨some 46, MOp.mv (Opd.s 55), none⟩]))))
def M1018b0l : List Bool := [true, false, false, false, true, true, false, true, false, false, false, false, false, false, false, false, false, false, false, false, true, true, false, false, false, false, false, false, false, false, false, false, false, false, false, false, false, false, false, false, false, false, false, false, false, true, true, false, false, false, false, false, false, false, false, false, false, false, false, false, false]
def M1018b1 : MC :=
 ((MC.reg
 [⟨some 22, MOp.bin .lss (Opd.s 21) (Opd.s 20), none⟩]).seq
 ((MC.cond (Opd.s 22) MC.skip (MC.exit 0)).seq
 ((MC.block 1
 ((MC.reg
 [⟨some 23, MOp.mv (Opd.s 21), none⟩,
 ⟨some 6, MOp.mv (Opd.s 23), none⟩]).seq
 ((MC.reg
 [⟨some 25, MOp.mv (Opd.s 4), none⟩,
 ⟨some 26, MOp.mv (Opd.s 0), none⟩,
 ⟨some 27, MOp.mv (Opd.s 6), none⟩,
 ⟨some 28, MOp.ixa 1 (Opd.s 26) (Opd.s 27), none⟩,
 ⟨some 29, MOp.load none (Opd.s 28), none⟩,
 ⟨some 30, MOp.call 37 [(0, Opd.s 25), (0, Opd.s 29)], none⟩,
 ⟨some 24, MOp.mv (Opd.s 30), none⟩,
 ⟨some 31, MOp.ext 0 (Opd.s 24), none⟩,
 ⟨some 32, MOp.ext 1 (Opd.s 24), none⟩,
 ⟨some 33, MOp.ext 2 (Opd.s 24), none⟩,
 ⟨some 7, MOp.mv (Opd.s 31), none⟩,
 ⟨some 8, MOp.mv (Opd.s 32), none⟩,
 ⟨some 9, MOp.mv (Opd.s 33), none⟩]).seq
 ((MC.reg
 [⟨some 34, MOp.mv (Opd.s 9), none⟩,
 ⟨some 35, MOp.mv (Opd.s 34), none⟩,
 ⟨some 36, MOp.mv (Opd.s 8), some (35, true)⟩,
 ⟨some 37, MOp.bin .eql (Opd.s 36)
 (Opd.c (AV.int .i64 0)), some (35, true)⟩,
 ⟨some 38, MOp.pick (Opd.s 35) (Opd.s 37)
 (Opd.c (AV.bool false)), none⟩]).seq
 (MC.cond (Opd.s 38)
 ((MC.reg
 [⟨some 39, MOp.mv (Opd.s 5), none⟩,
 ⟨some 40, MOp.mv (Opd.s 7), none⟩,
 ⟨some 41, MOp.app false 1 1 (Opd.c AV.nils)
 (Opd.s 40), none⟩,
 ⟨some 42, MOp.bsl false 1 1 [AV.nils]
 [(0, 1, Opd.s 41)], none⟩,
 ⟨some 43, MOp.app false 1 24 (Opd.s 39) (Opd.s 42), none⟩,
 ⟨some 5, MOp.mv (Opd.s 43), none⟩]).seq
 ((MC.reg
 [⟨some 44, MOp.mv (Opd.s 7), none⟩,
 ⟨some 45, MOp.len (Opd.s 44), none⟩,
 ⟨some 46, MOp.mv
 (Opd.c (AV.int .i64 0)), none⟩]).seq
 (MC.block 2
 (MC.loop M1018b0l M1018b0))))
 MC.skip))))).seq
 (MC.reg
 [⟨some 56, MOp.bin .add (Opd.s 21)
 (Opd.c (AV.int .i64 1)), none⟩,
 ⟨some 21, MOp.mv (Opd.s 56), none⟩]))))
def M1018b1l : List Bool := [true, false, false, false, true, true, false, false, false, false, false, false, false, false, false, false, false, false, false, false, true, true, false, false, false, false, false, false, false, false, false, false, false, false, false, false, false, false, false, false, false, false, false, false, false, false, false, false, false, false, false, false, false, false, false, false, false, false, false, false, false]
def M1018r1 : MC :=
 ((MC.reg
 [⟨some 57, MOp.mv (Opd.s 5), none⟩,
 ⟨some 58, MOp.mv (Opd.s 0), none⟩,
 ⟨some 59, MOp.call 35
 [(0, Opd.c (AV.int .i64 50)), (1, Opd.s 58)], none⟩,
 ⟨some 60, MOp.call 40 [(1, Opd.s 57), (1, Opd.s 59)], none⟩,
 ⟨some 2, MOp.mv (Opd.s 60), none⟩]).seq
 MC.ret)
def M1018 : MFun :=
 ⟨61, [MRes.tmp 0 2], (MC.reg
 [⟨some 2, MOp.mv (Opd.c (AV.bool false)), none⟩]).seq
 ((MC.reg
 [⟨some 11, MOp.call 19 [], none⟩,
 ⟨some 3, MOp.mv (Opd.s 11), none⟩]).seq
 (((MC.reg
 [⟨some 12, MOp.mv (Opd.s 3), none⟩,
 ⟨some 13, MOp.un .not (Opd.s 12), none⟩]).seq
 (MC.cond (Opd.s 13)
 ((MC.reg
 [⟨some 2, MOp.mv (Opd.c (AV.bool false)), none⟩]).seq
 MC.ret)
 MC.skip)).seq
 ((MC.reg
 [⟨some 14, MOp.mv (Opd.s 0), none⟩,
 ⟨some 15, MOp.call 20
 [(1, Opd.s 14), (0, Opd.c (AV.int .i64 200))], none⟩,
 ⟨some 0, MOp.mv (Opd.s 15), none⟩]).seq
 ((MC.reg
 [⟨some 16, MOp.call 36 [(0, Opd.c (AV.int .i64 50))], none⟩,
 ⟨some 4, MOp.mv (Opd.s 16), none⟩]).seq
 (((MC.reg
 [⟨some 17, MOp.mv (Opd.s 4), none⟩,
 ⟨some 18, MOp.eqv false EqK.ptr (Opd.s 17) (Opd.c AV.nilp), none⟩]).seq
 (MC.cond (Opd.s 18)
 ((MC.reg
 [⟨some 2, MOp.mv (Opd.c (AV.bool false)), none⟩]).seq
 MC.ret)
 MC.skip)).seq
 ((MC.reg
 [⟨some 5, MOp.mv (Opd.c AV.nils), none⟩]).seq
 (((MC.reg
 [⟨some 19, MOp.mv (Opd.s 0), none⟩,
 ⟨some 20, MOp.len (Opd.s 19), none⟩,
 ⟨some 21, MOp.mv (Opd.c (AV.int .i64 0)), none⟩]).seq
 (MC.block 0
 (MC.loop M1018b1l M1018b1))).seq
 M1018r1))))))) ⟩
theorem tabH42 : cFunH Try.prog [24] Try.f42 = some M1042 := by kernel_rfl
theorem tabH18 : cFunH Try.prog [] Try.f18 = some M1018 := by kernel_rfl
theorem tabH46 : cFunH Try.prog [] Try.f46 = some M46 := by kernel_rfl
theorem tabH37 : cFunH Try.prog [] Try.f37 = some M37 := by kernel_rfl
end Go.Proofs.Ytghfinbdgnggjaa
