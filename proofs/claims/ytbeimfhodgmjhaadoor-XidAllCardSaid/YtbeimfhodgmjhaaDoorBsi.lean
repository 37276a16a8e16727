/- Slice literals that are made but to become a text. No conditions. -/
import Derived.Test.YtbeimfhodgmjhaaDoorSet
set_option linter.unusedSimpArgs false
namespace Go.Ab
open Go
theorem az_bsi (d : Option Nat) (g : Option (Nat × Bool)) {n l z p} : allocZ ⟨d, .bsi n l z p, g⟩ = none := (id rfl)
theorem bk_bsi (gl : Nat → AV) (e : Env) {n l z p} : blockOf gl e (.bsi n l z p) = 0 := (id rfl)
def bsiR (n : Nat) (s : St) : Option (List AV) → Option (AV × St × Nat)
  | some cs => some (.sl cs n none, s, 0)
  | none => none
theorem bsiR_sl (n : Nat) (s : St) (cs : List AV) : bsiR n s (some cs) = some (.sl cs n none, s, 0) := (id rfl)
theorem ev1_bsiR (gl : Nat → AV) (call : Calls') (e : Env) (s : St) (m n : Nat) (z : List AV) (ps : List (Nat × Nat × Opd)) : ev1 gl call e s (.bsi m n z ps) = bsiR n s (fill gl e z ps) := by
  simp only [ev1, evP, evR, evW]
  cases fill gl e z ps <;> rfl
end Go.Ab
