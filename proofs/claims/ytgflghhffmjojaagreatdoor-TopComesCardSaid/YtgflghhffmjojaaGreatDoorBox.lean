/- Boxes, type assertions, lengths of texts in the evaluator. No conditions. -/
import Derived.Test.YtgflghhffmjojaaGreatDoorPtr
set_option linter.unusedSimpArgs false
set_option linter.unusedVariables false
namespace Go.Ab
open Go
def tasV (t : Nat) (zero x : AV) : Option AV :=
  match x with
  | .iface u v => if u = t then some (.tup [v, .bool true]) else some (.tup [zero, .bool false])
  | .nili => some (.tup [zero, .bool false])
  | _ => none
theorem ev1_tasV (gl : Nat → AV) (call : Calls') (e : Env) (s : St) (t : Nat) (z : AV) (x : Opd) : ev1 gl call e s (.tas t z true x) = pR s (tasV t z (opd gl e x)) := by
  rw [ev1_tas]
  simp only [evP, tasV]
  generalize opd gl e x = v
  cases v <;> simp only [if_true]
theorem tas_same (t : Nat) (z v : AV) : tasV t z (.iface t v) = some (.tup [v, .bool true]) := by simp [tasV]
theorem tas_nil (t : Nat) (z : AV) : tasV t z .nili = some (.tup [z, .bool false]) := (id rfl)
theorem tas_6484 (z v : AV) : tasV 64 z (.iface 84 v) = some (.tup [z, .bool false]) := (id rfl)
theorem tas_6486 (z v : AV) : tasV 64 z (.iface 86 v) = some (.tup [z, .bool false]) := (id rfl)
theorem tas_8464 (z v : AV) : tasV 84 z (.iface 64 v) = some (.tup [z, .bool false]) := (id rfl)
theorem tas_8486 (z v : AV) : tasV 84 z (.iface 86 v) = some (.tup [z, .bool false]) := (id rfl)
theorem tas_8664 (z v : AV) : tasV 86 z (.iface 64 v) = some (.tup [z, .bool false]) := (id rfl)
theorem tas_8684 (z v : AV) : tasV 86 z (.iface 84 v) = some (.tup [z, .bool false]) := (id rfl)
def stA (s : St) (b n : Nat) (vs : List AV) : Option Ab.Obj → Option (AV × St)
  | some (.cells z cs) => if vs.length = n then (match storeL cs 0 vs with
    | some cs' => some (.undef, s.upd b (.cells z cs'))
    | none => none) else none
  | _ => none
theorem store_agg (s : St) (b n : Nat) (vs : List AV) : storeV n s (.ptr b 0) (.agg vs) = stA s b n vs (s.get b) := by
  simp only [storeV, stA, cellsOf]
  generalize s.get b = q
  cases q with
  | none => rfl
  | some x => cases x <;> rfl
theorem stA_2 (s : St) (b z : Nat) (a c x y : AV) : stA s b 2 [x, y] (some (.cells z [a, c])) = some (.undef, s.upd b (.cells z [x, y])) := by simp [stA, storeL, fillL]
theorem stA_3 (s : St) (b z : Nat) (a c d x y w : AV) : stA s b 3 [x, y, w] (some (.cells z [a, c, d])) = some (.undef, s.upd b (.cells z [x, y, w])) := by simp [stA, storeL, fillL]
theorem new_upd (s : St) (o o' : Ab.Obj) : (s.new o).upd s.next o' = s.new o' := by simp [St.new, St.upd, updH]
theorem freeze_iface (n : Nat) (s : St) (t : Nat) (v : AV) : Ab.freeze n s (.iface t v) = some (.iface t v, s) := (id rfl)
theorem freeze_nili (n : Nat) (s : St) : Ab.freeze n s .nili = some (.nili, s) := (id rfl)
theorem freeze_agg (n : Nat) (s : St) (cs : List AV) : Ab.freeze n s (.agg cs) = some (.agg cs, s) := (id rfl)
def boxV (s : St) : Option (List AV) → Option (AV × St × Nat)
  | some cs => some (.ptr s.next 0, s.new (.cells 0 cs), 2)
  | none => none
theorem ev1_boxV (gl : Nat → AV) (call : Calls') (e : Env) (s : St) (x : Opd) : ev1 gl call e s (.box x) = boxV s (cellsOf (opd gl e x)) := by
  rw [ev1_box]; simp only [evW]; cases cellsOf (opd gl e x) <;> rfl
theorem boxV_some (s : St) (cs : List AV) : boxV s (some cs) = some (.ptr s.next 0, s.new (.cells 0 cs), 2) := (id rfl)
def bkV : AV → Nat
  | .ptr b _ => b
  | _ => 0
theorem bk_load (gl : Nat → AV) (e : Env) (n : Option Nat) (x : Opd) : blockOf gl e (.load n x) = bkV (opd gl e x) := by
  simp only [blockOf, bkV]
  generalize opd gl e x = v
  cases v <;> rfl
theorem bkV_ptr (b o : Nat) : bkV (.ptr b o) = b := (id rfl)
theorem bkV_rp (cs : List AV) : bkV (.rp cs) = 0 := (id rfl)
theorem get_new_other (s : St) (o : Ab.Obj) (b : Nat) (h : b < s.next) : (s.new o).get b = s.get b := get_new_ne s o (by omega)
theorem ev1_buildV (gl : Nat → AV) (call : Calls') (e : Env) (s : St) (z : List AV) (ps : List (Nat × Nat × Opd)) (cs : List AV) (h : fill gl e z ps = some cs) : ev1 gl call e s (.build z ps) = some (.agg cs, s, 0) := by
  rw [ev1_build, h]; rfl
theorem fill1_c (z : List AV) (off : Nat) (v : AV) (h : cellsOf v = some [v]) (ho : off < z.length) : fill1 z off 1 v = some (z.set off v) := by
  simp only [fill1, h, storeL, fillL, List.length_cons, List.length_nil, Nat.zero_add, if_true]
  rw [if_pos (by omega)]
theorem fill3a (a b c : AV) (k : IntKind) (n : Int) : fill1 [a, b, c] 0 1 (.int k n) = some [.int k n, b, c] := fill1_c _ _ _ rfl (by simp)
theorem fill3b (a b c : AV) (k : IntKind) (n : Int) : fill1 [a, b, c] 1 1 (.int k n) = some [a, .int k n, c] := fill1_c _ _ _ rfl (by simp)
theorem fill3c (a b c : AV) (n : Bool) : fill1 [a, b, c] 2 1 (.bool n) = some [a, b, .bool n] := fill1_c _ _ _ rfl (by simp)
theorem fill2b (a b : AV) (n : Bool) : fill1 [a, b] 1 1 (.bool n) = some [a, .bool n] := fill1_c _ _ _ rfl (by simp)
end Go.Ab
namespace Go.Ab
open Go
def lensV' : AV → Option AV
  | .str l => some (.int .i64 l.length)
  | _ => none
theorem ev1_lensV' (gl : Nat → AV) (call : Calls') (e : Env) (s : St) (x : Opd) : ev1 gl call e s (.lens x) = pR s (lensV' (opd gl e x)) := by
  rw [ev1_lens]; simp only [evP, lensV']; generalize opd gl e x = v; cases v <;> rfl
theorem lensV'_str (l : List UInt8) : lensV' (.str l) = some (.int .i64 l.length) := (id rfl)
theorem load_some (s : St) (b o n : Nat) (z : Nat) (cs : List AV) (v : AV) (h : s.get b = some (.cells z cs)) (hv : Ab.cut cs o (some n) = some v) : loadR s (some n) (.ptr b o) = some (v, s, 1) := by
  simp only [loadR, h, hv]
end Go.Ab
