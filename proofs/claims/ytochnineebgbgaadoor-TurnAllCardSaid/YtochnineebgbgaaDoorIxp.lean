/- An element of an array that lies in a variable. No conditions. -/
import Derived.Test.YtochnineebgbgaaDoorSet
import Derived.Test.YtochnineebgbgaaDoorTabs
set_option linter.unusedSimpArgs false
set_option linter.unusedVariables false
namespace Go.Ab
open Go
def ixpV (len size : Nat) (x i : AV) : Option AV :=
  match x with
  | .ptr b o => match idx len i with
    | some j => some (.ptr b (o + j * size))
    | none => none
  | .rp cs => match idx len i with
    | some j => if j * size ≤ cs.length then some (.rp (cs.drop (j * size))) else none
    | none => none
  | _ => none
theorem ev1_ixpV (gl : Nat → AV) (call : Calls') (e : Env) (s : St) (len size : Nat) (x i : Opd) : ev1 gl call e s (.ixp len size x i) = pR s (ixpV len size (opd gl e x) (opd gl e i)) := by
  rw [ev1_ixp]; rfl
end Go.Ab
