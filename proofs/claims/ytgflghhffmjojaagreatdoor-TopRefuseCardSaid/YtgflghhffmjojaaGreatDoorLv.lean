/- What stands in place of functions: results handed on as they are; what one may offer. No conditions. -/
import Derived.Test.YtgflghhffmjojaaGreatDoorMH1
import Derived.Test.YtgflghhffmjojaaGreatDoorMH2
import Derived.Test.YtgflghhffmjojaaGreatDoorMH3
import Derived.Test.YtgflghhffmjojaaGreatDoorMR
import Derived.Test.YtgflghhffmjojaaGreatDoorRaw
import Derived.Test.YtgflghhffmjojaaGreatDoorBox
set_option linter.unusedSimpArgs false
set_option linter.unusedVariables false
set_option maxRecDepth 100000
namespace Go.Proofs.YtgflghhffmjojaaGreatDoor
open Go Go.Ab
/-! ### Levels -/
noncomputable def ev0 : Nat → Calls' := evF tabGl (tableOf Tryz.prog) ext
noncomputable def rw0 (m : MFun) (args : List AV) (s : St) : Option (AV × St) := rawR m.res (evC tabGl (ev0 600) 600 m.body (env0 m.ntmps args) s)
noncomputable def ext1 (f : Nat) : Option (List AV → St → Option (AV × St)) := if f = 91 then some (rw0 M91) else if f = 158 then some (rw0 M158) else ext f
noncomputable def ev1' : Nat → Calls' := evF tabGl (tableOf Tryz.prog) ext1
noncomputable def rw1 (m : MFun) (args : List AV) (s : St) : Option (AV × St) := rawR m.res (evC tabGl (ev1' 600) 600 m.body (env0 m.ntmps args) s)
noncomputable def ext2 (f : Nat) : Option (List AV → St → Option (AV × St)) := if f = 58 then some (rw1 M58s) else if f = 82 then some (rw1 M82s) else ext1 f
theorem ext0_ok : ∀ w0, ExtOk Tryz.prog tabGl w0 ext := fun w0 => extOk _ w0
theorem good_of {e : Nat → Option (List AV → St → Option (AV × St))} (h : ∀ w0, ExtOk Tryz.prog tabGl w0 e) {f : Nat} {x : List AV → St → Option (AV × St)} (hf : e f = some x) : GoodFn Tryz.prog tabGl f x :=
  ⟨(h default).there f x hf, fun w0 args s v s' G w vals hv hr hS hgl => (h w0).goes f x args s v s' G w vals hf hv hr hS hgl⟩
theorem good91 : GoodFn Tryz.prog tabGl 91 (rw0 M91) := good_raw (tableOf_ok _) ext0_ok mixed Tryz.func91 tab91s (by kernel_rfl) 600
theorem good158 : GoodFn Tryz.prog tabGl 158 (rw0 M158) := good_raw (tableOf_ok _) ext0_ok mixed Tryz.func158 tab158s (by kernel_rfl) 600
theorem ext1_ok : ∀ w0, ExtOk Tryz.prog tabGl w0 ext1 := extOk_of fun f x hf => by
  unfold ext1 at hf
  split at hf
  · rename_i e; subst e; cases hf; exact good91
  · split at hf
    · rename_i e; subst e; cases hf; exact good158
    · exact good_of ext0_ok hf
theorem good58 : GoodFn Tryz.prog tabGl 58 (rw1 M58s) := good_raw (tableOf_ok _) ext1_ok mixed Tryz.func58 tab58s (by kernel_rfl) 600
theorem good82 : GoodFn Tryz.prog tabGl 82 (rw1 M82s) := good_raw (tableOf_ok _) ext1_ok mixed Tryz.func82 tab82s (by kernel_rfl) 600
theorem ext2_ok : ∀ w0, ExtOk Tryz.prog tabGl w0 ext2 := extOk_of fun f x hf => by
  unfold ext2 at hf
  split at hf
  · rename_i e; subst e; cases hf; exact good58
  · split at hf
    · rename_i e; subst e; cases hf; exact good82
    · exact good_of ext1_ok hf
noncomputable def ev2a : Nat → Calls' := evF tabGl (tableOf Tryz.prog) ext2
/-- glowwormlaw20.Begun is run once. -/
def hB89 : List AV → St → Option AV
  | [], _ => some (.bool true)
  | _, _ => none
def lstB (f : Nat) : Option (List AV → St → Option AV) := if f = 89 then some hB89 else none
noncomputable def ext2b : Nat → Option (List AV → St → Option (AV × St)) := extWith ext2 lstB
noncomputable def ev2 : Nat → Calls' := evF tabGl (tableOf Tryz.prog) ext2b
theorem tab_flat (g : Nat) : Ab.flat (tabGl g) = true := by
  unfold tabGl
  split
  · decide +kernel
  · split
    · decide +kernel
    · split
      · decide +kernel
      · rfl
/-! ### What one may offer -/
def bit1 (b : Int) : Int := IntKind.i64.wrap (BitVec.ofInt 64 b &&& BitVec.ofInt 64 1).toNat
def MayT (b s w z t : Int) : Prop := bit1 b = 1 ∧ bit1 s = 1 ∧ (1 ≤ b ∧ b ≤ 15) ∧ (1 ≤ s ∧ s ≤ 7) ∧ (1 ≤ w ∧ w ≤ 127) ∧ (1 ≤ z ∧ z ≤ 15) ∧ (1 ≤ t ∧ t ≤ 7)
instance (b s w z t : Int) : Decidable (MayT b s w z t) := by unfold MayT; exact inferInstance
theorem ev2_in {k f : Nat} {m : MFun} (hx : ext2b f = none) (hF : tableOf Tryz.prog f = some m) (args : List AV) (s : St) :
    ev2 (k + 1) f args s = outR m.res (evC tabGl (ev2 k) k m.body (env0 m.ntmps args) s) := by
  simp only [ev2, evF, hx, hF]
end Go.Proofs.YtgflghhffmjojaaGreatDoor
