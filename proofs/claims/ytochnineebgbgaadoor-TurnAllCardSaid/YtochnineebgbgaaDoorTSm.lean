/- A turn.Turn in plain Lean, and the law TurnSwap on it: all windows, all numbers of texts, by running it. No conditions. -/
import Derived.Test.YtochnineebgbgaaDoorIn
set_option linter.unusedSimpArgs false
set_option linter.unusedVariables false
set_option maxRecDepth 100000
namespace Go.Proofs.YtochnineebgbgaaDoor
open Go Go.Ab
/-- A frame. -/
structure Fm where
  cmd : Bool
  kind : Int
  sort : Int
  nr : Int
  ns : Int
  pf : Bool
  body : List UInt8
  deriving DecidableEq
/-- One side: what TurnAt tells of it, but for where it lies, its size and its window. -/
structure Tn where
  role : Int
  mine : Bool
  L : List (List UInt8)
  f : Int
  st : Nat
  nx : Int
  od : Bool
  deriving DecidableEq
def Tn.m (T : Tn) (W : Nat) : Nat := min W T.L.length
/-- What it says. -/
def Tn.says (T : Tn) (W : Nat) : List Fm :=
  if T.mine = true then
    if T.m W = 0 then [⟨T.role == 1, 2, if T.od = true then 2 else 0, T.nx, 0, true, []⟩]
    else (List.range (T.m W)).map fun j => ⟨T.role == 1, 1, 0, T.nx, (T.f + (j : Nat)) % 8, decide (j + 1 = T.m W), T.L.getD j []⟩
  else []
def Tn.went (T : Tn) (W : Nat) : Tn := if T.mine = true then { T with mine := false, st := max T.st (T.m W) } else T
def Tn.acc (T : Tn) (nr : Int) : Bool := decide ((nr - T.f) % 8 ≤ (T.st : Int))
/-- It takes a frame of the other one's. -/
def Tn.took (T : Tn) (p : Fm) : Tn :=
  { T with
    mine := T.mine || p.pf
    L := if T.acc p.nr = true then T.L.drop ((p.nr - T.f) % 8).toNat else T.L
    f := if T.acc p.nr = true then p.nr else T.f
    st := if T.acc p.nr = true then T.st - ((p.nr - T.f) % 8).toNat else T.st
    nx := if p.kind = 1 ∧ p.ns = T.nx then (T.nx + 1) % 8 else T.nx
    od := if p.kind = 1 then !decide (p.ns = T.nx) else T.od }
/-- A frame that may be taken by the law's contract. -/
def Tn.can (T : Tn) (p : Fm) : Bool :=
  (p.cmd == (T.role == 2)) && (decide (p.kind = 1) || decide (p.kind = 2)) && decide (T.st ≤ T.L.length) && decide (T.st ≤ 7) && decide (0 ≤ p.nr) && decide (p.nr ≤ 7) && decide (0 ≤ p.ns) && decide (p.ns ≤ 7)
def Tn.tells (T : Tn) (p : Fm) : Bool := decide (p.kind = 1) && decide (p.ns = T.nx)
def Tn.late (T : Tn) : Tn := { T with mine := T.mine || T.role == 1 }
def Tn.swap (T : Tn) : Tn := { T with role := 3 - T.role, mine := 3 - T.role == 1 }
/-- Sound for the contracts of Go. -/
def Tn.ok (T : Tn) : Bool := (decide (T.role = 1) || decide (T.role = 2)) && decide (T.L.length ≤ 8) && decide (T.st ≤ T.L.length) && decide (T.st ≤ 7)
/-! TurnSwap. -/
/-- The frames of one side go to the other one; g: how many were told; off: the first text's number. -/
def hears (off : Nat) : List Fm → Tn × Nat → Option (Tn × Nat)
  | [], x => some x
  | p :: ps, (T, g) =>
    if T.can p = true then
      if T.tells p = true then
        if p.body = bd (g + off) then hears off ps (T.took p, g + 1) else none
      else hears off ps (T.took p, g)
    else none
structure Sy where
  a : Tn
  b : Tn
  g0 : Nat
  g1 : Nat
  deriving DecidableEq
def Sy.swaps (S : Sy) (i : Nat) : Bool := decide (i % 3 = 0) && ((S.a.role == 1 && S.a.mine) || (S.b.role == 1 && S.b.mine))
/-- One round. -/
def Sy.round (W : Nat) (i : Nat) (S : Sy) : Option Sy :=
  if S.a.ok = true then
    match hears 0 (S.a.says W) (S.b, S.g1) with
    | none => none
    | some (b1, g1) =>
      if b1.ok = true then
        match hears 10 (b1.says W) (S.a.went W, S.g0) with
        | none => none
        | some (a1, g0) =>
          let X : Sy := ⟨a1, b1.went W, g0, g1⟩
          let Y : Sy := if X.swaps i = true then ⟨X.a.swap, X.b.swap, g0, g1⟩ else X
          if (Y.a.role == Y.b.role || (Y.a.mine && Y.b.mine)) = true then none else if Y.a.ok = true ∧ Y.b.ok = true then some Y else none
      else none
  else none
def Sy.start (n : Nat) : Sy := ⟨⟨1, true, (List.range n).map bd, 0, 0, 0, false⟩, ⟨2, false, (List.range n).map fun j => bd (j + 10), 0, 0, 0, false⟩, 0, 0⟩
def Sy.run (W n : Nat) : Nat → Option Sy
  | 0 => some (Sy.start n)
  | k + 1 => (Sy.run W n k).bind (Sy.round W k)
def Sy.good (W n : Nat) : Bool := match Sy.run W n 30 with
  | some S => decide (S.g0 = n) && decide (S.g1 = n) && decide (S.a.L = []) && decide (S.b.L = [])
  | none => false
theorem swap_good : ∀ W, 1 ≤ W → W ≤ 7 → ∀ n, n < 8 → Sy.good W n = true := by
  have h : ((List.range 8).all fun W => (List.range 8).all fun n => W == 0 || Sy.good W n) = true := by decide +kernel
  intro W h1 h7 n hn
  have a := List.all_eq_true.1 h W (by simp; omega)
  have b := List.all_eq_true.1 a n (by simp; omega)
  simpa [show (W == 0) = false from beq_eq_false_iff_ne.2 (by omega)] using b
theorem run_some {W n : Nat} (h : Sy.good W n = true) : ∀ k, k ≤ 30 → ∃ S, Sy.run W n k = some S := by
  have h30 : ∃ S, Sy.run W n 30 = some S := by
    unfold Sy.good at h
    split at h
    · exact ⟨_, by assumption⟩
    · cases h
  have back : ∀ k, (∃ S, Sy.run W n (k + 1) = some S) → ∃ S, Sy.run W n k = some S := by
    rintro k ⟨S, hS⟩
    obtain ⟨T, hT, _⟩ := Option.bind_eq_some_iff.1 (show (Sy.run W n k).bind (Sy.round W k) = some S from hS)
    exact ⟨T, hT⟩
  have down : ∀ d, d ≤ 30 → ∃ S, Sy.run W n (30 - d) = some S := by
    intro d
    induction d with
    | zero => intro _; exact h30
    | succ d ih =>
      intro hd
      have := ih (by omega)
      rw [show 30 - d = (30 - (d + 1)) + 1 by omega] at this
      exact back _ this
  intro k hk
  have := down (30 - k) (by omega)
  rwa [show 30 - (30 - k) = k by omega] at this
end Go.Proofs.YtochnineebgbgaaDoor
