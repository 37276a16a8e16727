/- Cells of boxed structs, read and written. No conditions. -/
import Derived.Test.YtochnineebgbgaaDoorAbS
import Derived.Test.YtochnineebgbgaaDoorBox
set_option linter.unusedSimpArgs false
set_option linter.unusedVariables false
namespace Go.Ab
open Go
def cutO (o n : Nat) : Option Ab.Obj → Option AV
  | some (.cells _ cs) => Ab.cut cs o (some n)
  | _ => none
theorem load_ptrN (s : St) (b o n : Nat) : loadR s (some n) (.ptr b o) = ldV s (cutO o n (s.get b)) := by
  simp only [loadR, cutO]
  generalize s.get b = q
  cases q with
  | none => rfl
  | some x => cases x with
    | cells z cs => simp only; cases Ab.cut cs o (some n) <;> rfl
    | _ => rfl
def resC (s : St) (n : Option Nat) : Option Ab.Obj → Nat → Option (AV × St)
  | some (.cells _ cs), o => match cut cs o n with
    | some v => some (v, s)
    | none => none
  | _, _ => none
def resP (s : St) (n : Option Nat) : AV → Option (AV × St)
  | .ptr b o => resC s n (s.get b) o
  | _ => none
theorem resV_cell (e : Env) (s : St) (i : Nat) (n : Option Nat) : resV e s (.cell i n) = resP s n (e.at i) := by
  simp only [resV, resP, resC]
  generalize e.at i = v
  cases v with
  | ptr b o =>
    simp only
    generalize s.get b = q
    cases q with
    | none => rfl
    | some x => cases x <;> rfl
  | _ => rfl
theorem resP_ptr (s : St) (n : Option Nat) (b o : Nat) : resP s n (.ptr b o) = resC s n (s.get b) o := (id rfl)
theorem cells_iface (t : Nat) (v : AV) : cellsOf (.iface t v) = some [.iface t v] := (id rfl)
def stB (s : St) (b o n : Nat) (vs : List AV) : Option Ab.Obj → Option (AV × St)
  | some (.cells z cs) => if vs.length = n then (match storeL cs o vs with
    | some cs' => some (.undef, s.upd b (.cells z cs'))
    | none => none) else none
  | _ => none
theorem store_aggO (s : St) (b o n : Nat) (vs : List AV) : storeV n s (.ptr b o) (.agg vs) = stB s b o n vs (s.get b) := by
  simp only [storeV, stB, cellsOf]
  generalize s.get b = q
  cases q with
  | none => rfl
  | some x => cases x <;> rfl
theorem dryV_bool (b : Bool) : dryV (.bool b) = .bool b := (id rfl)
theorem dryV_int (k : IntKind) (n : Int) : dryV (.int k n) = .int k n := (id rfl)
theorem dryV_str (l : List UInt8) : dryV (.str l) = .str l := (id rfl)
theorem dryV_agg (l : List AV) : dryV (.agg l) = .agg l := (id rfl)
theorem dryV_iface (t : Nat) (v : AV) : dryV (.iface t v) = .iface t v := (id rfl)
theorem dryV_tup (l : List AV) : dryV (.tup l) = .tup (l.map dry1) := (id rfl)
theorem dry1_bool (b : Bool) : dry1 (.bool b) = .bool b := (id rfl)
theorem dry1_int (k : IntKind) (n : Int) : dry1 (.int k n) = .int k n := (id rfl)
theorem dry1_str (l : List UInt8) : dry1 (.str l) = .str l := (id rfl)
theorem dry1_agg (l : List AV) : dry1 (.agg l) = .agg l := (id rfl)
theorem dry1_iface (t : Nat) (v : AV) : dry1 (.iface t v) = .iface t v := (id rfl)
theorem dry1_nili : dry1 .nili = .nili := (id rfl)
theorem dry1_nils : dry1 .nils = .nils := (id rfl)
theorem dry1_sl (cs : List AV) (n : Nat) (tk : Option (Nat × Nat × Nat)) : dry1 (.sl cs n tk) = .sl cs n none := (id rfl)
theorem cutO_2_0_2 (z : Nat) (a0 a1 : AV) : cutO 0 2 (some (.cells z [a0, a1])) = some (.agg [a0, a1]) := (id rfl)
theorem stB_2_0_2 (s : St) (b z : Nat) (a0 a1 x0 x1 : AV) : stB s b 0 2 [x0, x1] (some (.cells z [a0, a1])) = some (.undef, s.upd b (.cells z [x0, x1])) := by simp [stB, storeL, fillL]
theorem fill_2_0_2 (a0 a1 x0 x1 : AV) : fill1 [a0, a1] 0 2 (.agg [x0, x1]) = some [x0, x1] := by simp [fill1, cellsOf, storeL, fillL]
theorem fill_2_0i (a0 a1 : AV) (k : IntKind) (n : Int) : fill1 [a0, a1] 0 1 (.int k n) = some [.int k n, a1] := by simp [fill1, cellsOf, storeL, fillL]
theorem fill_2_0b (a0 a1 : AV) (b : Bool) : fill1 [a0, a1] 0 1 (.bool b) = some [.bool b, a1] := by simp [fill1, cellsOf, storeL, fillL]
theorem fill_2_0s (a0 a1 : AV) (l : List UInt8) : fill1 [a0, a1] 0 1 (.str l) = some [.str l, a1] := by simp [fill1, cellsOf, storeL, fillL]
theorem fill_2_0f (a0 a1 : AV) (t : Nat) (v : AV) : fill1 [a0, a1] 0 1 (.iface t v) = some [.iface t v, a1] := by simp [fill1, cellsOf, storeL, fillL]
theorem fill_2_0n (a0 a1 : AV)  : fill1 [a0, a1] 0 1 (.nili) = some [.nili, a1] := by simp [fill1, cellsOf, storeL, fillL]
theorem fill_2_1i (a0 a1 : AV) (k : IntKind) (n : Int) : fill1 [a0, a1] 1 1 (.int k n) = some [a0, .int k n] := by simp [fill1, cellsOf, storeL, fillL]
theorem fill_2_1b (a0 a1 : AV) (b : Bool) : fill1 [a0, a1] 1 1 (.bool b) = some [a0, .bool b] := by simp [fill1, cellsOf, storeL, fillL]
theorem fill_2_1s (a0 a1 : AV) (l : List UInt8) : fill1 [a0, a1] 1 1 (.str l) = some [a0, .str l] := by simp [fill1, cellsOf, storeL, fillL]
theorem fill_2_1f (a0 a1 : AV) (t : Nat) (v : AV) : fill1 [a0, a1] 1 1 (.iface t v) = some [a0, .iface t v] := by simp [fill1, cellsOf, storeL, fillL]
theorem fill_2_1n (a0 a1 : AV)  : fill1 [a0, a1] 1 1 (.nili) = some [a0, .nili] := by simp [fill1, cellsOf, storeL, fillL]
theorem resC_2 (s : St) (z : Nat) (a0 a1 : AV) : resC s (some 2) (some (.cells z [a0, a1])) 0 = some (.agg [a0, a1], s) := (id rfl)
theorem cutO_3_0_2 (z : Nat) (a0 a1 a2 : AV) : cutO 0 2 (some (.cells z [a0, a1, a2])) = some (.agg [a0, a1]) := (id rfl)
theorem stB_3_0_2 (s : St) (b z : Nat) (a0 a1 a2 x0 x1 : AV) : stB s b 0 2 [x0, x1] (some (.cells z [a0, a1, a2])) = some (.undef, s.upd b (.cells z [x0, x1, a2])) := by simp [stB, storeL, fillL]
theorem fill_3_0_2 (a0 a1 a2 x0 x1 : AV) : fill1 [a0, a1, a2] 0 2 (.agg [x0, x1]) = some [x0, x1, a2] := by simp [fill1, cellsOf, storeL, fillL]
theorem cutO_3_1_2 (z : Nat) (a0 a1 a2 : AV) : cutO 1 2 (some (.cells z [a0, a1, a2])) = some (.agg [a1, a2]) := (id rfl)
theorem stB_3_1_2 (s : St) (b z : Nat) (a0 a1 a2 x0 x1 : AV) : stB s b 1 2 [x0, x1] (some (.cells z [a0, a1, a2])) = some (.undef, s.upd b (.cells z [a0, x0, x1])) := by simp [stB, storeL, fillL]
theorem fill_3_1_2 (a0 a1 a2 x0 x1 : AV) : fill1 [a0, a1, a2] 1 2 (.agg [x0, x1]) = some [a0, x0, x1] := by simp [fill1, cellsOf, storeL, fillL]
theorem cutO_3_0_3 (z : Nat) (a0 a1 a2 : AV) : cutO 0 3 (some (.cells z [a0, a1, a2])) = some (.agg [a0, a1, a2]) := (id rfl)
theorem stB_3_0_3 (s : St) (b z : Nat) (a0 a1 a2 x0 x1 x2 : AV) : stB s b 0 3 [x0, x1, x2] (some (.cells z [a0, a1, a2])) = some (.undef, s.upd b (.cells z [x0, x1, x2])) := by simp [stB, storeL, fillL]
theorem fill_3_0_3 (a0 a1 a2 x0 x1 x2 : AV) : fill1 [a0, a1, a2] 0 3 (.agg [x0, x1, x2]) = some [x0, x1, x2] := by simp [fill1, cellsOf, storeL, fillL]
theorem fill_3_0i (a0 a1 a2 : AV) (k : IntKind) (n : Int) : fill1 [a0, a1, a2] 0 1 (.int k n) = some [.int k n, a1, a2] := by simp [fill1, cellsOf, storeL, fillL]
theorem fill_3_0b (a0 a1 a2 : AV) (b : Bool) : fill1 [a0, a1, a2] 0 1 (.bool b) = some [.bool b, a1, a2] := by simp [fill1, cellsOf, storeL, fillL]
theorem fill_3_0s (a0 a1 a2 : AV) (l : List UInt8) : fill1 [a0, a1, a2] 0 1 (.str l) = some [.str l, a1, a2] := by simp [fill1, cellsOf, storeL, fillL]
theorem fill_3_0f (a0 a1 a2 : AV) (t : Nat) (v : AV) : fill1 [a0, a1, a2] 0 1 (.iface t v) = some [.iface t v, a1, a2] := by simp [fill1, cellsOf, storeL, fillL]
theorem fill_3_0n (a0 a1 a2 : AV)  : fill1 [a0, a1, a2] 0 1 (.nili) = some [.nili, a1, a2] := by simp [fill1, cellsOf, storeL, fillL]
theorem fill_3_1i (a0 a1 a2 : AV) (k : IntKind) (n : Int) : fill1 [a0, a1, a2] 1 1 (.int k n) = some [a0, .int k n, a2] := by simp [fill1, cellsOf, storeL, fillL]
theorem fill_3_1b (a0 a1 a2 : AV) (b : Bool) : fill1 [a0, a1, a2] 1 1 (.bool b) = some [a0, .bool b, a2] := by simp [fill1, cellsOf, storeL, fillL]
theorem fill_3_1s (a0 a1 a2 : AV) (l : List UInt8) : fill1 [a0, a1, a2] 1 1 (.str l) = some [a0, .str l, a2] := by simp [fill1, cellsOf, storeL, fillL]
theorem fill_3_1f (a0 a1 a2 : AV) (t : Nat) (v : AV) : fill1 [a0, a1, a2] 1 1 (.iface t v) = some [a0, .iface t v, a2] := by simp [fill1, cellsOf, storeL, fillL]
theorem fill_3_1n (a0 a1 a2 : AV)  : fill1 [a0, a1, a2] 1 1 (.nili) = some [a0, .nili, a2] := by simp [fill1, cellsOf, storeL, fillL]
theorem fill_3_2i (a0 a1 a2 : AV) (k : IntKind) (n : Int) : fill1 [a0, a1, a2] 2 1 (.int k n) = some [a0, a1, .int k n] := by simp [fill1, cellsOf, storeL, fillL]
theorem fill_3_2b (a0 a1 a2 : AV) (b : Bool) : fill1 [a0, a1, a2] 2 1 (.bool b) = some [a0, a1, .bool b] := by simp [fill1, cellsOf, storeL, fillL]
theorem fill_3_2s (a0 a1 a2 : AV) (l : List UInt8) : fill1 [a0, a1, a2] 2 1 (.str l) = some [a0, a1, .str l] := by simp [fill1, cellsOf, storeL, fillL]
theorem fill_3_2f (a0 a1 a2 : AV) (t : Nat) (v : AV) : fill1 [a0, a1, a2] 2 1 (.iface t v) = some [a0, a1, .iface t v] := by simp [fill1, cellsOf, storeL, fillL]
theorem fill_3_2n (a0 a1 a2 : AV)  : fill1 [a0, a1, a2] 2 1 (.nili) = some [a0, a1, .nili] := by simp [fill1, cellsOf, storeL, fillL]
theorem resC_3 (s : St) (z : Nat) (a0 a1 a2 : AV) : resC s (some 3) (some (.cells z [a0, a1, a2])) 0 = some (.agg [a0, a1, a2], s) := (id rfl)
theorem cutO_5_0_2 (z : Nat) (a0 a1 a2 a3 a4 : AV) : cutO 0 2 (some (.cells z [a0, a1, a2, a3, a4])) = some (.agg [a0, a1]) := (id rfl)
theorem stB_5_0_2 (s : St) (b z : Nat) (a0 a1 a2 a3 a4 x0 x1 : AV) : stB s b 0 2 [x0, x1] (some (.cells z [a0, a1, a2, a3, a4])) = some (.undef, s.upd b (.cells z [x0, x1, a2, a3, a4])) := by simp [stB, storeL, fillL]
theorem fill_5_0_2 (a0 a1 a2 a3 a4 x0 x1 : AV) : fill1 [a0, a1, a2, a3, a4] 0 2 (.agg [x0, x1]) = some [x0, x1, a2, a3, a4] := by simp [fill1, cellsOf, storeL, fillL]
theorem cutO_5_1_2 (z : Nat) (a0 a1 a2 a3 a4 : AV) : cutO 1 2 (some (.cells z [a0, a1, a2, a3, a4])) = some (.agg [a1, a2]) := (id rfl)
theorem stB_5_1_2 (s : St) (b z : Nat) (a0 a1 a2 a3 a4 x0 x1 : AV) : stB s b 1 2 [x0, x1] (some (.cells z [a0, a1, a2, a3, a4])) = some (.undef, s.upd b (.cells z [a0, x0, x1, a3, a4])) := by simp [stB, storeL, fillL]
theorem fill_5_1_2 (a0 a1 a2 a3 a4 x0 x1 : AV) : fill1 [a0, a1, a2, a3, a4] 1 2 (.agg [x0, x1]) = some [a0, x0, x1, a3, a4] := by simp [fill1, cellsOf, storeL, fillL]
theorem cutO_5_2_2 (z : Nat) (a0 a1 a2 a3 a4 : AV) : cutO 2 2 (some (.cells z [a0, a1, a2, a3, a4])) = some (.agg [a2, a3]) := (id rfl)
theorem stB_5_2_2 (s : St) (b z : Nat) (a0 a1 a2 a3 a4 x0 x1 : AV) : stB s b 2 2 [x0, x1] (some (.cells z [a0, a1, a2, a3, a4])) = some (.undef, s.upd b (.cells z [a0, a1, x0, x1, a4])) := by simp [stB, storeL, fillL]
theorem fill_5_2_2 (a0 a1 a2 a3 a4 x0 x1 : AV) : fill1 [a0, a1, a2, a3, a4] 2 2 (.agg [x0, x1]) = some [a0, a1, x0, x1, a4] := by simp [fill1, cellsOf, storeL, fillL]
theorem cutO_5_3_2 (z : Nat) (a0 a1 a2 a3 a4 : AV) : cutO 3 2 (some (.cells z [a0, a1, a2, a3, a4])) = some (.agg [a3, a4]) := (id rfl)
theorem stB_5_3_2 (s : St) (b z : Nat) (a0 a1 a2 a3 a4 x0 x1 : AV) : stB s b 3 2 [x0, x1] (some (.cells z [a0, a1, a2, a3, a4])) = some (.undef, s.upd b (.cells z [a0, a1, a2, x0, x1])) := by simp [stB, storeL, fillL]
theorem fill_5_3_2 (a0 a1 a2 a3 a4 x0 x1 : AV) : fill1 [a0, a1, a2, a3, a4] 3 2 (.agg [x0, x1]) = some [a0, a1, a2, x0, x1] := by simp [fill1, cellsOf, storeL, fillL]
theorem cutO_5_0_3 (z : Nat) (a0 a1 a2 a3 a4 : AV) : cutO 0 3 (some (.cells z [a0, a1, a2, a3, a4])) = some (.agg [a0, a1, a2]) := (id rfl)
theorem stB_5_0_3 (s : St) (b z : Nat) (a0 a1 a2 a3 a4 x0 x1 x2 : AV) : stB s b 0 3 [x0, x1, x2] (some (.cells z [a0, a1, a2, a3, a4])) = some (.undef, s.upd b (.cells z [x0, x1, x2, a3, a4])) := by simp [stB, storeL, fillL]
theorem fill_5_0_3 (a0 a1 a2 a3 a4 x0 x1 x2 : AV) : fill1 [a0, a1, a2, a3, a4] 0 3 (.agg [x0, x1, x2]) = some [x0, x1, x2, a3, a4] := by simp [fill1, cellsOf, storeL, fillL]
theorem cutO_5_1_3 (z : Nat) (a0 a1 a2 a3 a4 : AV) : cutO 1 3 (some (.cells z [a0, a1, a2, a3, a4])) = some (.agg [a1, a2, a3]) := (id rfl)
theorem stB_5_1_3 (s : St) (b z : Nat) (a0 a1 a2 a3 a4 x0 x1 x2 : AV) : stB s b 1 3 [x0, x1, x2] (some (.cells z [a0, a1, a2, a3, a4])) = some (.undef, s.upd b (.cells z [a0, x0, x1, x2, a4])) := by simp [stB, storeL, fillL]
theorem fill_5_1_3 (a0 a1 a2 a3 a4 x0 x1 x2 : AV) : fill1 [a0, a1, a2, a3, a4] 1 3 (.agg [x0, x1, x2]) = some [a0, x0, x1, x2, a4] := by simp [fill1, cellsOf, storeL, fillL]
theorem cutO_5_2_3 (z : Nat) (a0 a1 a2 a3 a4 : AV) : cutO 2 3 (some (.cells z [a0, a1, a2, a3, a4])) = some (.agg [a2, a3, a4]) := (id rfl)
theorem stB_5_2_3 (s : St) (b z : Nat) (a0 a1 a2 a3 a4 x0 x1 x2 : AV) : stB s b 2 3 [x0, x1, x2] (some (.cells z [a0, a1, a2, a3, a4])) = some (.undef, s.upd b (.cells z [a0, a1, x0, x1, x2])) := by simp [stB, storeL, fillL]
theorem fill_5_2_3 (a0 a1 a2 a3 a4 x0 x1 x2 : AV) : fill1 [a0, a1, a2, a3, a4] 2 3 (.agg [x0, x1, x2]) = some [a0, a1, x0, x1, x2] := by simp [fill1, cellsOf, storeL, fillL]
theorem cutO_5_0_5 (z : Nat) (a0 a1 a2 a3 a4 : AV) : cutO 0 5 (some (.cells z [a0, a1, a2, a3, a4])) = some (.agg [a0, a1, a2, a3, a4]) := (id rfl)
theorem stB_5_0_5 (s : St) (b z : Nat) (a0 a1 a2 a3 a4 x0 x1 x2 x3 x4 : AV) : stB s b 0 5 [x0, x1, x2, x3, x4] (some (.cells z [a0, a1, a2, a3, a4])) = some (.undef, s.upd b (.cells z [x0, x1, x2, x3, x4])) := by simp [stB, storeL, fillL]
theorem fill_5_0_5 (a0 a1 a2 a3 a4 x0 x1 x2 x3 x4 : AV) : fill1 [a0, a1, a2, a3, a4] 0 5 (.agg [x0, x1, x2, x3, x4]) = some [x0, x1, x2, x3, x4] := by simp [fill1, cellsOf, storeL, fillL]
theorem fill_5_0i (a0 a1 a2 a3 a4 : AV) (k : IntKind) (n : Int) : fill1 [a0, a1, a2, a3, a4] 0 1 (.int k n) = some [.int k n, a1, a2, a3, a4] := by simp [fill1, cellsOf, storeL, fillL]
theorem fill_5_0b (a0 a1 a2 a3 a4 : AV) (b : Bool) : fill1 [a0, a1, a2, a3, a4] 0 1 (.bool b) = some [.bool b, a1, a2, a3, a4] := by simp [fill1, cellsOf, storeL, fillL]
theorem fill_5_0s (a0 a1 a2 a3 a4 : AV) (l : List UInt8) : fill1 [a0, a1, a2, a3, a4] 0 1 (.str l) = some [.str l, a1, a2, a3, a4] := by simp [fill1, cellsOf, storeL, fillL]
theorem fill_5_0f (a0 a1 a2 a3 a4 : AV) (t : Nat) (v : AV) : fill1 [a0, a1, a2, a3, a4] 0 1 (.iface t v) = some [.iface t v, a1, a2, a3, a4] := by simp [fill1, cellsOf, storeL, fillL]
theorem fill_5_0n (a0 a1 a2 a3 a4 : AV)  : fill1 [a0, a1, a2, a3, a4] 0 1 (.nili) = some [.nili, a1, a2, a3, a4] := by simp [fill1, cellsOf, storeL, fillL]
theorem fill_5_1i (a0 a1 a2 a3 a4 : AV) (k : IntKind) (n : Int) : fill1 [a0, a1, a2, a3, a4] 1 1 (.int k n) = some [a0, .int k n, a2, a3, a4] := by simp [fill1, cellsOf, storeL, fillL]
theorem fill_5_1b (a0 a1 a2 a3 a4 : AV) (b : Bool) : fill1 [a0, a1, a2, a3, a4] 1 1 (.bool b) = some [a0, .bool b, a2, a3, a4] := by simp [fill1, cellsOf, storeL, fillL]
theorem fill_5_1s (a0 a1 a2 a3 a4 : AV) (l : List UInt8) : fill1 [a0, a1, a2, a3, a4] 1 1 (.str l) = some [a0, .str l, a2, a3, a4] := by simp [fill1, cellsOf, storeL, fillL]
theorem fill_5_1f (a0 a1 a2 a3 a4 : AV) (t : Nat) (v : AV) : fill1 [a0, a1, a2, a3, a4] 1 1 (.iface t v) = some [a0, .iface t v, a2, a3, a4] := by simp [fill1, cellsOf, storeL, fillL]
theorem fill_5_1n (a0 a1 a2 a3 a4 : AV)  : fill1 [a0, a1, a2, a3, a4] 1 1 (.nili) = some [a0, .nili, a2, a3, a4] := by simp [fill1, cellsOf, storeL, fillL]
theorem fill_5_2i (a0 a1 a2 a3 a4 : AV) (k : IntKind) (n : Int) : fill1 [a0, a1, a2, a3, a4] 2 1 (.int k n) = some [a0, a1, .int k n, a3, a4] := by simp [fill1, cellsOf, storeL, fillL]
theorem fill_5_2b (a0 a1 a2 a3 a4 : AV) (b : Bool) : fill1 [a0, a1, a2, a3, a4] 2 1 (.bool b) = some [a0, a1, .bool b, a3, a4] := by simp [fill1, cellsOf, storeL, fillL]
theorem fill_5_2s (a0 a1 a2 a3 a4 : AV) (l : List UInt8) : fill1 [a0, a1, a2, a3, a4] 2 1 (.str l) = some [a0, a1, .str l, a3, a4] := by simp [fill1, cellsOf, storeL, fillL]
theorem fill_5_2f (a0 a1 a2 a3 a4 : AV) (t : Nat) (v : AV) : fill1 [a0, a1, a2, a3, a4] 2 1 (.iface t v) = some [a0, a1, .iface t v, a3, a4] := by simp [fill1, cellsOf, storeL, fillL]
theorem fill_5_2n (a0 a1 a2 a3 a4 : AV)  : fill1 [a0, a1, a2, a3, a4] 2 1 (.nili) = some [a0, a1, .nili, a3, a4] := by simp [fill1, cellsOf, storeL, fillL]
theorem fill_5_3i (a0 a1 a2 a3 a4 : AV) (k : IntKind) (n : Int) : fill1 [a0, a1, a2, a3, a4] 3 1 (.int k n) = some [a0, a1, a2, .int k n, a4] := by simp [fill1, cellsOf, storeL, fillL]
theorem fill_5_3b (a0 a1 a2 a3 a4 : AV) (b : Bool) : fill1 [a0, a1, a2, a3, a4] 3 1 (.bool b) = some [a0, a1, a2, .bool b, a4] := by simp [fill1, cellsOf, storeL, fillL]
theorem fill_5_3s (a0 a1 a2 a3 a4 : AV) (l : List UInt8) : fill1 [a0, a1, a2, a3, a4] 3 1 (.str l) = some [a0, a1, a2, .str l, a4] := by simp [fill1, cellsOf, storeL, fillL]
theorem fill_5_3f (a0 a1 a2 a3 a4 : AV) (t : Nat) (v : AV) : fill1 [a0, a1, a2, a3, a4] 3 1 (.iface t v) = some [a0, a1, a2, .iface t v, a4] := by simp [fill1, cellsOf, storeL, fillL]
theorem fill_5_3n (a0 a1 a2 a3 a4 : AV)  : fill1 [a0, a1, a2, a3, a4] 3 1 (.nili) = some [a0, a1, a2, .nili, a4] := by simp [fill1, cellsOf, storeL, fillL]
theorem fill_5_4i (a0 a1 a2 a3 a4 : AV) (k : IntKind) (n : Int) : fill1 [a0, a1, a2, a3, a4] 4 1 (.int k n) = some [a0, a1, a2, a3, .int k n] := by simp [fill1, cellsOf, storeL, fillL]
theorem fill_5_4b (a0 a1 a2 a3 a4 : AV) (b : Bool) : fill1 [a0, a1, a2, a3, a4] 4 1 (.bool b) = some [a0, a1, a2, a3, .bool b] := by simp [fill1, cellsOf, storeL, fillL]
theorem fill_5_4s (a0 a1 a2 a3 a4 : AV) (l : List UInt8) : fill1 [a0, a1, a2, a3, a4] 4 1 (.str l) = some [a0, a1, a2, a3, .str l] := by simp [fill1, cellsOf, storeL, fillL]
theorem fill_5_4f (a0 a1 a2 a3 a4 : AV) (t : Nat) (v : AV) : fill1 [a0, a1, a2, a3, a4] 4 1 (.iface t v) = some [a0, a1, a2, a3, .iface t v] := by simp [fill1, cellsOf, storeL, fillL]
theorem fill_5_4n (a0 a1 a2 a3 a4 : AV)  : fill1 [a0, a1, a2, a3, a4] 4 1 (.nili) = some [a0, a1, a2, a3, .nili] := by simp [fill1, cellsOf, storeL, fillL]
theorem resC_5 (s : St) (z : Nat) (a0 a1 a2 a3 a4 : AV) : resC s (some 5) (some (.cells z [a0, a1, a2, a3, a4])) 0 = some (.agg [a0, a1, a2, a3, a4], s) := (id rfl)
theorem cutO_9_0_2 (z : Nat) (a0 a1 a2 a3 a4 a5 a6 a7 a8 : AV) : cutO 0 2 (some (.cells z [a0, a1, a2, a3, a4, a5, a6, a7, a8])) = some (.agg [a0, a1]) := (id rfl)
theorem stB_9_0_2 (s : St) (b z : Nat) (a0 a1 a2 a3 a4 a5 a6 a7 a8 x0 x1 : AV) : stB s b 0 2 [x0, x1] (some (.cells z [a0, a1, a2, a3, a4, a5, a6, a7, a8])) = some (.undef, s.upd b (.cells z [x0, x1, a2, a3, a4, a5, a6, a7, a8])) := by simp [stB, storeL, fillL]
theorem fill_9_0_2 (a0 a1 a2 a3 a4 a5 a6 a7 a8 x0 x1 : AV) : fill1 [a0, a1, a2, a3, a4, a5, a6, a7, a8] 0 2 (.agg [x0, x1]) = some [x0, x1, a2, a3, a4, a5, a6, a7, a8] := by simp [fill1, cellsOf, storeL, fillL]
theorem cutO_9_1_2 (z : Nat) (a0 a1 a2 a3 a4 a5 a6 a7 a8 : AV) : cutO 1 2 (some (.cells z [a0, a1, a2, a3, a4, a5, a6, a7, a8])) = some (.agg [a1, a2]) := (id rfl)
theorem stB_9_1_2 (s : St) (b z : Nat) (a0 a1 a2 a3 a4 a5 a6 a7 a8 x0 x1 : AV) : stB s b 1 2 [x0, x1] (some (.cells z [a0, a1, a2, a3, a4, a5, a6, a7, a8])) = some (.undef, s.upd b (.cells z [a0, x0, x1, a3, a4, a5, a6, a7, a8])) := by simp [stB, storeL, fillL]
theorem fill_9_1_2 (a0 a1 a2 a3 a4 a5 a6 a7 a8 x0 x1 : AV) : fill1 [a0, a1, a2, a3, a4, a5, a6, a7, a8] 1 2 (.agg [x0, x1]) = some [a0, x0, x1, a3, a4, a5, a6, a7, a8] := by simp [fill1, cellsOf, storeL, fillL]
theorem cutO_9_2_2 (z : Nat) (a0 a1 a2 a3 a4 a5 a6 a7 a8 : AV) : cutO 2 2 (some (.cells z [a0, a1, a2, a3, a4, a5, a6, a7, a8])) = some (.agg [a2, a3]) := (id rfl)
theorem stB_9_2_2 (s : St) (b z : Nat) (a0 a1 a2 a3 a4 a5 a6 a7 a8 x0 x1 : AV) : stB s b 2 2 [x0, x1] (some (.cells z [a0, a1, a2, a3, a4, a5, a6, a7, a8])) = some (.undef, s.upd b (.cells z [a0, a1, x0, x1, a4, a5, a6, a7, a8])) := by simp [stB, storeL, fillL]
theorem fill_9_2_2 (a0 a1 a2 a3 a4 a5 a6 a7 a8 x0 x1 : AV) : fill1 [a0, a1, a2, a3, a4, a5, a6, a7, a8] 2 2 (.agg [x0, x1]) = some [a0, a1, x0, x1, a4, a5, a6, a7, a8] := by simp [fill1, cellsOf, storeL, fillL]
theorem cutO_9_3_2 (z : Nat) (a0 a1 a2 a3 a4 a5 a6 a7 a8 : AV) : cutO 3 2 (some (.cells z [a0, a1, a2, a3, a4, a5, a6, a7, a8])) = some (.agg [a3, a4]) := (id rfl)
theorem stB_9_3_2 (s : St) (b z : Nat) (a0 a1 a2 a3 a4 a5 a6 a7 a8 x0 x1 : AV) : stB s b 3 2 [x0, x1] (some (.cells z [a0, a1, a2, a3, a4, a5, a6, a7, a8])) = some (.undef, s.upd b (.cells z [a0, a1, a2, x0, x1, a5, a6, a7, a8])) := by simp [stB, storeL, fillL]
theorem fill_9_3_2 (a0 a1 a2 a3 a4 a5 a6 a7 a8 x0 x1 : AV) : fill1 [a0, a1, a2, a3, a4, a5, a6, a7, a8] 3 2 (.agg [x0, x1]) = some [a0, a1, a2, x0, x1, a5, a6, a7, a8] := by simp [fill1, cellsOf, storeL, fillL]
theorem cutO_9_4_2 (z : Nat) (a0 a1 a2 a3 a4 a5 a6 a7 a8 : AV) : cutO 4 2 (some (.cells z [a0, a1, a2, a3, a4, a5, a6, a7, a8])) = some (.agg [a4, a5]) := (id rfl)
theorem stB_9_4_2 (s : St) (b z : Nat) (a0 a1 a2 a3 a4 a5 a6 a7 a8 x0 x1 : AV) : stB s b 4 2 [x0, x1] (some (.cells z [a0, a1, a2, a3, a4, a5, a6, a7, a8])) = some (.undef, s.upd b (.cells z [a0, a1, a2, a3, x0, x1, a6, a7, a8])) := by simp [stB, storeL, fillL]
theorem fill_9_4_2 (a0 a1 a2 a3 a4 a5 a6 a7 a8 x0 x1 : AV) : fill1 [a0, a1, a2, a3, a4, a5, a6, a7, a8] 4 2 (.agg [x0, x1]) = some [a0, a1, a2, a3, x0, x1, a6, a7, a8] := by simp [fill1, cellsOf, storeL, fillL]
theorem cutO_9_5_2 (z : Nat) (a0 a1 a2 a3 a4 a5 a6 a7 a8 : AV) : cutO 5 2 (some (.cells z [a0, a1, a2, a3, a4, a5, a6, a7, a8])) = some (.agg [a5, a6]) := (id rfl)
theorem stB_9_5_2 (s : St) (b z : Nat) (a0 a1 a2 a3 a4 a5 a6 a7 a8 x0 x1 : AV) : stB s b 5 2 [x0, x1] (some (.cells z [a0, a1, a2, a3, a4, a5, a6, a7, a8])) = some (.undef, s.upd b (.cells z [a0, a1, a2, a3, a4, x0, x1, a7, a8])) := by simp [stB, storeL, fillL]
theorem fill_9_5_2 (a0 a1 a2 a3 a4 a5 a6 a7 a8 x0 x1 : AV) : fill1 [a0, a1, a2, a3, a4, a5, a6, a7, a8] 5 2 (.agg [x0, x1]) = some [a0, a1, a2, a3, a4, x0, x1, a7, a8] := by simp [fill1, cellsOf, storeL, fillL]
theorem cutO_9_6_2 (z : Nat) (a0 a1 a2 a3 a4 a5 a6 a7 a8 : AV) : cutO 6 2 (some (.cells z [a0, a1, a2, a3, a4, a5, a6, a7, a8])) = some (.agg [a6, a7]) := (id rfl)
theorem stB_9_6_2 (s : St) (b z : Nat) (a0 a1 a2 a3 a4 a5 a6 a7 a8 x0 x1 : AV) : stB s b 6 2 [x0, x1] (some (.cells z [a0, a1, a2, a3, a4, a5, a6, a7, a8])) = some (.undef, s.upd b (.cells z [a0, a1, a2, a3, a4, a5, x0, x1, a8])) := by simp [stB, storeL, fillL]
theorem fill_9_6_2 (a0 a1 a2 a3 a4 a5 a6 a7 a8 x0 x1 : AV) : fill1 [a0, a1, a2, a3, a4, a5, a6, a7, a8] 6 2 (.agg [x0, x1]) = some [a0, a1, a2, a3, a4, a5, x0, x1, a8] := by simp [fill1, cellsOf, storeL, fillL]
theorem cutO_9_7_2 (z : Nat) (a0 a1 a2 a3 a4 a5 a6 a7 a8 : AV) : cutO 7 2 (some (.cells z [a0, a1, a2, a3, a4, a5, a6, a7, a8])) = some (.agg [a7, a8]) := (id rfl)
theorem stB_9_7_2 (s : St) (b z : Nat) (a0 a1 a2 a3 a4 a5 a6 a7 a8 x0 x1 : AV) : stB s b 7 2 [x0, x1] (some (.cells z [a0, a1, a2, a3, a4, a5, a6, a7, a8])) = some (.undef, s.upd b (.cells z [a0, a1, a2, a3, a4, a5, a6, x0, x1])) := by simp [stB, storeL, fillL]
theorem fill_9_7_2 (a0 a1 a2 a3 a4 a5 a6 a7 a8 x0 x1 : AV) : fill1 [a0, a1, a2, a3, a4, a5, a6, a7, a8] 7 2 (.agg [x0, x1]) = some [a0, a1, a2, a3, a4, a5, a6, x0, x1] := by simp [fill1, cellsOf, storeL, fillL]
theorem cutO_9_0_3 (z : Nat) (a0 a1 a2 a3 a4 a5 a6 a7 a8 : AV) : cutO 0 3 (some (.cells z [a0, a1, a2, a3, a4, a5, a6, a7, a8])) = some (.agg [a0, a1, a2]) := (id rfl)
theorem stB_9_0_3 (s : St) (b z : Nat) (a0 a1 a2 a3 a4 a5 a6 a7 a8 x0 x1 x2 : AV) : stB s b 0 3 [x0, x1, x2] (some (.cells z [a0, a1, a2, a3, a4, a5, a6, a7, a8])) = some (.undef, s.upd b (.cells z [x0, x1, x2, a3, a4, a5, a6, a7, a8])) := by simp [stB, storeL, fillL]
theorem fill_9_0_3 (a0 a1 a2 a3 a4 a5 a6 a7 a8 x0 x1 x2 : AV) : fill1 [a0, a1, a2, a3, a4, a5, a6, a7, a8] 0 3 (.agg [x0, x1, x2]) = some [x0, x1, x2, a3, a4, a5, a6, a7, a8] := by simp [fill1, cellsOf, storeL, fillL]
theorem cutO_9_1_3 (z : Nat) (a0 a1 a2 a3 a4 a5 a6 a7 a8 : AV) : cutO 1 3 (some (.cells z [a0, a1, a2, a3, a4, a5, a6, a7, a8])) = some (.agg [a1, a2, a3]) := (id rfl)
theorem stB_9_1_3 (s : St) (b z : Nat) (a0 a1 a2 a3 a4 a5 a6 a7 a8 x0 x1 x2 : AV) : stB s b 1 3 [x0, x1, x2] (some (.cells z [a0, a1, a2, a3, a4, a5, a6, a7, a8])) = some (.undef, s.upd b (.cells z [a0, x0, x1, x2, a4, a5, a6, a7, a8])) := by simp [stB, storeL, fillL]
theorem fill_9_1_3 (a0 a1 a2 a3 a4 a5 a6 a7 a8 x0 x1 x2 : AV) : fill1 [a0, a1, a2, a3, a4, a5, a6, a7, a8] 1 3 (.agg [x0, x1, x2]) = some [a0, x0, x1, x2, a4, a5, a6, a7, a8] := by simp [fill1, cellsOf, storeL, fillL]
theorem cutO_9_2_3 (z : Nat) (a0 a1 a2 a3 a4 a5 a6 a7 a8 : AV) : cutO 2 3 (some (.cells z [a0, a1, a2, a3, a4, a5, a6, a7, a8])) = some (.agg [a2, a3, a4]) := (id rfl)
theorem stB_9_2_3 (s : St) (b z : Nat) (a0 a1 a2 a3 a4 a5 a6 a7 a8 x0 x1 x2 : AV) : stB s b 2 3 [x0, x1, x2] (some (.cells z [a0, a1, a2, a3, a4, a5, a6, a7, a8])) = some (.undef, s.upd b (.cells z [a0, a1, x0, x1, x2, a5, a6, a7, a8])) := by simp [stB, storeL, fillL]
theorem fill_9_2_3 (a0 a1 a2 a3 a4 a5 a6 a7 a8 x0 x1 x2 : AV) : fill1 [a0, a1, a2, a3, a4, a5, a6, a7, a8] 2 3 (.agg [x0, x1, x2]) = some [a0, a1, x0, x1, x2, a5, a6, a7, a8] := by simp [fill1, cellsOf, storeL, fillL]
theorem cutO_9_3_3 (z : Nat) (a0 a1 a2 a3 a4 a5 a6 a7 a8 : AV) : cutO 3 3 (some (.cells z [a0, a1, a2, a3, a4, a5, a6, a7, a8])) = some (.agg [a3, a4, a5]) := (id rfl)
theorem stB_9_3_3 (s : St) (b z : Nat) (a0 a1 a2 a3 a4 a5 a6 a7 a8 x0 x1 x2 : AV) : stB s b 3 3 [x0, x1, x2] (some (.cells z [a0, a1, a2, a3, a4, a5, a6, a7, a8])) = some (.undef, s.upd b (.cells z [a0, a1, a2, x0, x1, x2, a6, a7, a8])) := by simp [stB, storeL, fillL]
theorem fill_9_3_3 (a0 a1 a2 a3 a4 a5 a6 a7 a8 x0 x1 x2 : AV) : fill1 [a0, a1, a2, a3, a4, a5, a6, a7, a8] 3 3 (.agg [x0, x1, x2]) = some [a0, a1, a2, x0, x1, x2, a6, a7, a8] := by simp [fill1, cellsOf, storeL, fillL]
theorem cutO_9_4_3 (z : Nat) (a0 a1 a2 a3 a4 a5 a6 a7 a8 : AV) : cutO 4 3 (some (.cells z [a0, a1, a2, a3, a4, a5, a6, a7, a8])) = some (.agg [a4, a5, a6]) := (id rfl)
theorem stB_9_4_3 (s : St) (b z : Nat) (a0 a1 a2 a3 a4 a5 a6 a7 a8 x0 x1 x2 : AV) : stB s b 4 3 [x0, x1, x2] (some (.cells z [a0, a1, a2, a3, a4, a5, a6, a7, a8])) = some (.undef, s.upd b (.cells z [a0, a1, a2, a3, x0, x1, x2, a7, a8])) := by simp [stB, storeL, fillL]
theorem fill_9_4_3 (a0 a1 a2 a3 a4 a5 a6 a7 a8 x0 x1 x2 : AV) : fill1 [a0, a1, a2, a3, a4, a5, a6, a7, a8] 4 3 (.agg [x0, x1, x2]) = some [a0, a1, a2, a3, x0, x1, x2, a7, a8] := by simp [fill1, cellsOf, storeL, fillL]
theorem cutO_9_5_3 (z : Nat) (a0 a1 a2 a3 a4 a5 a6 a7 a8 : AV) : cutO 5 3 (some (.cells z [a0, a1, a2, a3, a4, a5, a6, a7, a8])) = some (.agg [a5, a6, a7]) := (id rfl)
theorem stB_9_5_3 (s : St) (b z : Nat) (a0 a1 a2 a3 a4 a5 a6 a7 a8 x0 x1 x2 : AV) : stB s b 5 3 [x0, x1, x2] (some (.cells z [a0, a1, a2, a3, a4, a5, a6, a7, a8])) = some (.undef, s.upd b (.cells z [a0, a1, a2, a3, a4, x0, x1, x2, a8])) := by simp [stB, storeL, fillL]
theorem fill_9_5_3 (a0 a1 a2 a3 a4 a5 a6 a7 a8 x0 x1 x2 : AV) : fill1 [a0, a1, a2, a3, a4, a5, a6, a7, a8] 5 3 (.agg [x0, x1, x2]) = some [a0, a1, a2, a3, a4, x0, x1, x2, a8] := by simp [fill1, cellsOf, storeL, fillL]
theorem cutO_9_6_3 (z : Nat) (a0 a1 a2 a3 a4 a5 a6 a7 a8 : AV) : cutO 6 3 (some (.cells z [a0, a1, a2, a3, a4, a5, a6, a7, a8])) = some (.agg [a6, a7, a8]) := (id rfl)
theorem stB_9_6_3 (s : St) (b z : Nat) (a0 a1 a2 a3 a4 a5 a6 a7 a8 x0 x1 x2 : AV) : stB s b 6 3 [x0, x1, x2] (some (.cells z [a0, a1, a2, a3, a4, a5, a6, a7, a8])) = some (.undef, s.upd b (.cells z [a0, a1, a2, a3, a4, a5, x0, x1, x2])) := by simp [stB, storeL, fillL]
theorem fill_9_6_3 (a0 a1 a2 a3 a4 a5 a6 a7 a8 x0 x1 x2 : AV) : fill1 [a0, a1, a2, a3, a4, a5, a6, a7, a8] 6 3 (.agg [x0, x1, x2]) = some [a0, a1, a2, a3, a4, a5, x0, x1, x2] := by simp [fill1, cellsOf, storeL, fillL]
theorem cutO_9_0_5 (z : Nat) (a0 a1 a2 a3 a4 a5 a6 a7 a8 : AV) : cutO 0 5 (some (.cells z [a0, a1, a2, a3, a4, a5, a6, a7, a8])) = some (.agg [a0, a1, a2, a3, a4]) := (id rfl)
theorem stB_9_0_5 (s : St) (b z : Nat) (a0 a1 a2 a3 a4 a5 a6 a7 a8 x0 x1 x2 x3 x4 : AV) : stB s b 0 5 [x0, x1, x2, x3, x4] (some (.cells z [a0, a1, a2, a3, a4, a5, a6, a7, a8])) = some (.undef, s.upd b (.cells z [x0, x1, x2, x3, x4, a5, a6, a7, a8])) := by simp [stB, storeL, fillL]
theorem fill_9_0_5 (a0 a1 a2 a3 a4 a5 a6 a7 a8 x0 x1 x2 x3 x4 : AV) : fill1 [a0, a1, a2, a3, a4, a5, a6, a7, a8] 0 5 (.agg [x0, x1, x2, x3, x4]) = some [x0, x1, x2, x3, x4, a5, a6, a7, a8] := by simp [fill1, cellsOf, storeL, fillL]
theorem cutO_9_1_5 (z : Nat) (a0 a1 a2 a3 a4 a5 a6 a7 a8 : AV) : cutO 1 5 (some (.cells z [a0, a1, a2, a3, a4, a5, a6, a7, a8])) = some (.agg [a1, a2, a3, a4, a5]) := (id rfl)
theorem stB_9_1_5 (s : St) (b z : Nat) (a0 a1 a2 a3 a4 a5 a6 a7 a8 x0 x1 x2 x3 x4 : AV) : stB s b 1 5 [x0, x1, x2, x3, x4] (some (.cells z [a0, a1, a2, a3, a4, a5, a6, a7, a8])) = some (.undef, s.upd b (.cells z [a0, x0, x1, x2, x3, x4, a6, a7, a8])) := by simp [stB, storeL, fillL]
theorem fill_9_1_5 (a0 a1 a2 a3 a4 a5 a6 a7 a8 x0 x1 x2 x3 x4 : AV) : fill1 [a0, a1, a2, a3, a4, a5, a6, a7, a8] 1 5 (.agg [x0, x1, x2, x3, x4]) = some [a0, x0, x1, x2, x3, x4, a6, a7, a8] := by simp [fill1, cellsOf, storeL, fillL]
theorem cutO_9_2_5 (z : Nat) (a0 a1 a2 a3 a4 a5 a6 a7 a8 : AV) : cutO 2 5 (some (.cells z [a0, a1, a2, a3, a4, a5, a6, a7, a8])) = some (.agg [a2, a3, a4, a5, a6]) := (id rfl)
theorem stB_9_2_5 (s : St) (b z : Nat) (a0 a1 a2 a3 a4 a5 a6 a7 a8 x0 x1 x2 x3 x4 : AV) : stB s b 2 5 [x0, x1, x2, x3, x4] (some (.cells z [a0, a1, a2, a3, a4, a5, a6, a7, a8])) = some (.undef, s.upd b (.cells z [a0, a1, x0, x1, x2, x3, x4, a7, a8])) := by simp [stB, storeL, fillL]
theorem fill_9_2_5 (a0 a1 a2 a3 a4 a5 a6 a7 a8 x0 x1 x2 x3 x4 : AV) : fill1 [a0, a1, a2, a3, a4, a5, a6, a7, a8] 2 5 (.agg [x0, x1, x2, x3, x4]) = some [a0, a1, x0, x1, x2, x3, x4, a7, a8] := by simp [fill1, cellsOf, storeL, fillL]
theorem cutO_9_3_5 (z : Nat) (a0 a1 a2 a3 a4 a5 a6 a7 a8 : AV) : cutO 3 5 (some (.cells z [a0, a1, a2, a3, a4, a5, a6, a7, a8])) = some (.agg [a3, a4, a5, a6, a7]) := (id rfl)
theorem stB_9_3_5 (s : St) (b z : Nat) (a0 a1 a2 a3 a4 a5 a6 a7 a8 x0 x1 x2 x3 x4 : AV) : stB s b 3 5 [x0, x1, x2, x3, x4] (some (.cells z [a0, a1, a2, a3, a4, a5, a6, a7, a8])) = some (.undef, s.upd b (.cells z [a0, a1, a2, x0, x1, x2, x3, x4, a8])) := by simp [stB, storeL, fillL]
theorem fill_9_3_5 (a0 a1 a2 a3 a4 a5 a6 a7 a8 x0 x1 x2 x3 x4 : AV) : fill1 [a0, a1, a2, a3, a4, a5, a6, a7, a8] 3 5 (.agg [x0, x1, x2, x3, x4]) = some [a0, a1, a2, x0, x1, x2, x3, x4, a8] := by simp [fill1, cellsOf, storeL, fillL]
theorem cutO_9_4_5 (z : Nat) (a0 a1 a2 a3 a4 a5 a6 a7 a8 : AV) : cutO 4 5 (some (.cells z [a0, a1, a2, a3, a4, a5, a6, a7, a8])) = some (.agg [a4, a5, a6, a7, a8]) := (id rfl)
theorem stB_9_4_5 (s : St) (b z : Nat) (a0 a1 a2 a3 a4 a5 a6 a7 a8 x0 x1 x2 x3 x4 : AV) : stB s b 4 5 [x0, x1, x2, x3, x4] (some (.cells z [a0, a1, a2, a3, a4, a5, a6, a7, a8])) = some (.undef, s.upd b (.cells z [a0, a1, a2, a3, x0, x1, x2, x3, x4])) := by simp [stB, storeL, fillL]
theorem fill_9_4_5 (a0 a1 a2 a3 a4 a5 a6 a7 a8 x0 x1 x2 x3 x4 : AV) : fill1 [a0, a1, a2, a3, a4, a5, a6, a7, a8] 4 5 (.agg [x0, x1, x2, x3, x4]) = some [a0, a1, a2, a3, x0, x1, x2, x3, x4] := by simp [fill1, cellsOf, storeL, fillL]
theorem cutO_9_0_9 (z : Nat) (a0 a1 a2 a3 a4 a5 a6 a7 a8 : AV) : cutO 0 9 (some (.cells z [a0, a1, a2, a3, a4, a5, a6, a7, a8])) = some (.agg [a0, a1, a2, a3, a4, a5, a6, a7, a8]) := (id rfl)
theorem stB_9_0_9 (s : St) (b z : Nat) (a0 a1 a2 a3 a4 a5 a6 a7 a8 x0 x1 x2 x3 x4 x5 x6 x7 x8 : AV) : stB s b 0 9 [x0, x1, x2, x3, x4, x5, x6, x7, x8] (some (.cells z [a0, a1, a2, a3, a4, a5, a6, a7, a8])) = some (.undef, s.upd b (.cells z [x0, x1, x2, x3, x4, x5, x6, x7, x8])) := by simp [stB, storeL, fillL]
theorem fill_9_0_9 (a0 a1 a2 a3 a4 a5 a6 a7 a8 x0 x1 x2 x3 x4 x5 x6 x7 x8 : AV) : fill1 [a0, a1, a2, a3, a4, a5, a6, a7, a8] 0 9 (.agg [x0, x1, x2, x3, x4, x5, x6, x7, x8]) = some [x0, x1, x2, x3, x4, x5, x6, x7, x8] := by simp [fill1, cellsOf, storeL, fillL]
theorem fill_9_0i (a0 a1 a2 a3 a4 a5 a6 a7 a8 : AV) (k : IntKind) (n : Int) : fill1 [a0, a1, a2, a3, a4, a5, a6, a7, a8] 0 1 (.int k n) = some [.int k n, a1, a2, a3, a4, a5, a6, a7, a8] := by simp [fill1, cellsOf, storeL, fillL]
theorem fill_9_0b (a0 a1 a2 a3 a4 a5 a6 a7 a8 : AV) (b : Bool) : fill1 [a0, a1, a2, a3, a4, a5, a6, a7, a8] 0 1 (.bool b) = some [.bool b, a1, a2, a3, a4, a5, a6, a7, a8] := by simp [fill1, cellsOf, storeL, fillL]
theorem fill_9_0s (a0 a1 a2 a3 a4 a5 a6 a7 a8 : AV) (l : List UInt8) : fill1 [a0, a1, a2, a3, a4, a5, a6, a7, a8] 0 1 (.str l) = some [.str l, a1, a2, a3, a4, a5, a6, a7, a8] := by simp [fill1, cellsOf, storeL, fillL]
theorem fill_9_0f (a0 a1 a2 a3 a4 a5 a6 a7 a8 : AV) (t : Nat) (v : AV) : fill1 [a0, a1, a2, a3, a4, a5, a6, a7, a8] 0 1 (.iface t v) = some [.iface t v, a1, a2, a3, a4, a5, a6, a7, a8] := by simp [fill1, cellsOf, storeL, fillL]
theorem fill_9_0n (a0 a1 a2 a3 a4 a5 a6 a7 a8 : AV)  : fill1 [a0, a1, a2, a3, a4, a5, a6, a7, a8] 0 1 (.nili) = some [.nili, a1, a2, a3, a4, a5, a6, a7, a8] := by simp [fill1, cellsOf, storeL, fillL]
theorem fill_9_1i (a0 a1 a2 a3 a4 a5 a6 a7 a8 : AV) (k : IntKind) (n : Int) : fill1 [a0, a1, a2, a3, a4, a5, a6, a7, a8] 1 1 (.int k n) = some [a0, .int k n, a2, a3, a4, a5, a6, a7, a8] := by simp [fill1, cellsOf, storeL, fillL]
theorem fill_9_1b (a0 a1 a2 a3 a4 a5 a6 a7 a8 : AV) (b : Bool) : fill1 [a0, a1, a2, a3, a4, a5, a6, a7, a8] 1 1 (.bool b) = some [a0, .bool b, a2, a3, a4, a5, a6, a7, a8] := by simp [fill1, cellsOf, storeL, fillL]
theorem fill_9_1s (a0 a1 a2 a3 a4 a5 a6 a7 a8 : AV) (l : List UInt8) : fill1 [a0, a1, a2, a3, a4, a5, a6, a7, a8] 1 1 (.str l) = some [a0, .str l, a2, a3, a4, a5, a6, a7, a8] := by simp [fill1, cellsOf, storeL, fillL]
theorem fill_9_1f (a0 a1 a2 a3 a4 a5 a6 a7 a8 : AV) (t : Nat) (v : AV) : fill1 [a0, a1, a2, a3, a4, a5, a6, a7, a8] 1 1 (.iface t v) = some [a0, .iface t v, a2, a3, a4, a5, a6, a7, a8] := by simp [fill1, cellsOf, storeL, fillL]
theorem fill_9_1n (a0 a1 a2 a3 a4 a5 a6 a7 a8 : AV)  : fill1 [a0, a1, a2, a3, a4, a5, a6, a7, a8] 1 1 (.nili) = some [a0, .nili, a2, a3, a4, a5, a6, a7, a8] := by simp [fill1, cellsOf, storeL, fillL]
theorem fill_9_2i (a0 a1 a2 a3 a4 a5 a6 a7 a8 : AV) (k : IntKind) (n : Int) : fill1 [a0, a1, a2, a3, a4, a5, a6, a7, a8] 2 1 (.int k n) = some [a0, a1, .int k n, a3, a4, a5, a6, a7, a8] := by simp [fill1, cellsOf, storeL, fillL]
theorem fill_9_2b (a0 a1 a2 a3 a4 a5 a6 a7 a8 : AV) (b : Bool) : fill1 [a0, a1, a2, a3, a4, a5, a6, a7, a8] 2 1 (.bool b) = some [a0, a1, .bool b, a3, a4, a5, a6, a7, a8] := by simp [fill1, cellsOf, storeL, fillL]
theorem fill_9_2s (a0 a1 a2 a3 a4 a5 a6 a7 a8 : AV) (l : List UInt8) : fill1 [a0, a1, a2, a3, a4, a5, a6, a7, a8] 2 1 (.str l) = some [a0, a1, .str l, a3, a4, a5, a6, a7, a8] := by simp [fill1, cellsOf, storeL, fillL]
theorem fill_9_2f (a0 a1 a2 a3 a4 a5 a6 a7 a8 : AV) (t : Nat) (v : AV) : fill1 [a0, a1, a2, a3, a4, a5, a6, a7, a8] 2 1 (.iface t v) = some [a0, a1, .iface t v, a3, a4, a5, a6, a7, a8] := by simp [fill1, cellsOf, storeL, fillL]
theorem fill_9_2n (a0 a1 a2 a3 a4 a5 a6 a7 a8 : AV)  : fill1 [a0, a1, a2, a3, a4, a5, a6, a7, a8] 2 1 (.nili) = some [a0, a1, .nili, a3, a4, a5, a6, a7, a8] := by simp [fill1, cellsOf, storeL, fillL]
theorem fill_9_3i (a0 a1 a2 a3 a4 a5 a6 a7 a8 : AV) (k : IntKind) (n : Int) : fill1 [a0, a1, a2, a3, a4, a5, a6, a7, a8] 3 1 (.int k n) = some [a0, a1, a2, .int k n, a4, a5, a6, a7, a8] := by simp [fill1, cellsOf, storeL, fillL]
theorem fill_9_3b (a0 a1 a2 a3 a4 a5 a6 a7 a8 : AV) (b : Bool) : fill1 [a0, a1, a2, a3, a4, a5, a6, a7, a8] 3 1 (.bool b) = some [a0, a1, a2, .bool b, a4, a5, a6, a7, a8] := by simp [fill1, cellsOf, storeL, fillL]
theorem fill_9_3s (a0 a1 a2 a3 a4 a5 a6 a7 a8 : AV) (l : List UInt8) : fill1 [a0, a1, a2, a3, a4, a5, a6, a7, a8] 3 1 (.str l) = some [a0, a1, a2, .str l, a4, a5, a6, a7, a8] := by simp [fill1, cellsOf, storeL, fillL]
theorem fill_9_3f (a0 a1 a2 a3 a4 a5 a6 a7 a8 : AV) (t : Nat) (v : AV) : fill1 [a0, a1, a2, a3, a4, a5, a6, a7, a8] 3 1 (.iface t v) = some [a0, a1, a2, .iface t v, a4, a5, a6, a7, a8] := by simp [fill1, cellsOf, storeL, fillL]
theorem fill_9_3n (a0 a1 a2 a3 a4 a5 a6 a7 a8 : AV)  : fill1 [a0, a1, a2, a3, a4, a5, a6, a7, a8] 3 1 (.nili) = some [a0, a1, a2, .nili, a4, a5, a6, a7, a8] := by simp [fill1, cellsOf, storeL, fillL]
theorem fill_9_4i (a0 a1 a2 a3 a4 a5 a6 a7 a8 : AV) (k : IntKind) (n : Int) : fill1 [a0, a1, a2, a3, a4, a5, a6, a7, a8] 4 1 (.int k n) = some [a0, a1, a2, a3, .int k n, a5, a6, a7, a8] := by simp [fill1, cellsOf, storeL, fillL]
theorem fill_9_4b (a0 a1 a2 a3 a4 a5 a6 a7 a8 : AV) (b : Bool) : fill1 [a0, a1, a2, a3, a4, a5, a6, a7, a8] 4 1 (.bool b) = some [a0, a1, a2, a3, .bool b, a5, a6, a7, a8] := by simp [fill1, cellsOf, storeL, fillL]
theorem fill_9_4s (a0 a1 a2 a3 a4 a5 a6 a7 a8 : AV) (l : List UInt8) : fill1 [a0, a1, a2, a3, a4, a5, a6, a7, a8] 4 1 (.str l) = some [a0, a1, a2, a3, .str l, a5, a6, a7, a8] := by simp [fill1, cellsOf, storeL, fillL]
theorem fill_9_4f (a0 a1 a2 a3 a4 a5 a6 a7 a8 : AV) (t : Nat) (v : AV) : fill1 [a0, a1, a2, a3, a4, a5, a6, a7, a8] 4 1 (.iface t v) = some [a0, a1, a2, a3, .iface t v, a5, a6, a7, a8] := by simp [fill1, cellsOf, storeL, fillL]
theorem fill_9_4n (a0 a1 a2 a3 a4 a5 a6 a7 a8 : AV)  : fill1 [a0, a1, a2, a3, a4, a5, a6, a7, a8] 4 1 (.nili) = some [a0, a1, a2, a3, .nili, a5, a6, a7, a8] := by simp [fill1, cellsOf, storeL, fillL]
theorem fill_9_5i (a0 a1 a2 a3 a4 a5 a6 a7 a8 : AV) (k : IntKind) (n : Int) : fill1 [a0, a1, a2, a3, a4, a5, a6, a7, a8] 5 1 (.int k n) = some [a0, a1, a2, a3, a4, .int k n, a6, a7, a8] := by simp [fill1, cellsOf, storeL, fillL]
theorem fill_9_5b (a0 a1 a2 a3 a4 a5 a6 a7 a8 : AV) (b : Bool) : fill1 [a0, a1, a2, a3, a4, a5, a6, a7, a8] 5 1 (.bool b) = some [a0, a1, a2, a3, a4, .bool b, a6, a7, a8] := by simp [fill1, cellsOf, storeL, fillL]
theorem fill_9_5s (a0 a1 a2 a3 a4 a5 a6 a7 a8 : AV) (l : List UInt8) : fill1 [a0, a1, a2, a3, a4, a5, a6, a7, a8] 5 1 (.str l) = some [a0, a1, a2, a3, a4, .str l, a6, a7, a8] := by simp [fill1, cellsOf, storeL, fillL]
theorem fill_9_5f (a0 a1 a2 a3 a4 a5 a6 a7 a8 : AV) (t : Nat) (v : AV) : fill1 [a0, a1, a2, a3, a4, a5, a6, a7, a8] 5 1 (.iface t v) = some [a0, a1, a2, a3, a4, .iface t v, a6, a7, a8] := by simp [fill1, cellsOf, storeL, fillL]
theorem fill_9_5n (a0 a1 a2 a3 a4 a5 a6 a7 a8 : AV)  : fill1 [a0, a1, a2, a3, a4, a5, a6, a7, a8] 5 1 (.nili) = some [a0, a1, a2, a3, a4, .nili, a6, a7, a8] := by simp [fill1, cellsOf, storeL, fillL]
theorem fill_9_6i (a0 a1 a2 a3 a4 a5 a6 a7 a8 : AV) (k : IntKind) (n : Int) : fill1 [a0, a1, a2, a3, a4, a5, a6, a7, a8] 6 1 (.int k n) = some [a0, a1, a2, a3, a4, a5, .int k n, a7, a8] := by simp [fill1, cellsOf, storeL, fillL]
theorem fill_9_6b (a0 a1 a2 a3 a4 a5 a6 a7 a8 : AV) (b : Bool) : fill1 [a0, a1, a2, a3, a4, a5, a6, a7, a8] 6 1 (.bool b) = some [a0, a1, a2, a3, a4, a5, .bool b, a7, a8] := by simp [fill1, cellsOf, storeL, fillL]
theorem fill_9_6s (a0 a1 a2 a3 a4 a5 a6 a7 a8 : AV) (l : List UInt8) : fill1 [a0, a1, a2, a3, a4, a5, a6, a7, a8] 6 1 (.str l) = some [a0, a1, a2, a3, a4, a5, .str l, a7, a8] := by simp [fill1, cellsOf, storeL, fillL]
theorem fill_9_6f (a0 a1 a2 a3 a4 a5 a6 a7 a8 : AV) (t : Nat) (v : AV) : fill1 [a0, a1, a2, a3, a4, a5, a6, a7, a8] 6 1 (.iface t v) = some [a0, a1, a2, a3, a4, a5, .iface t v, a7, a8] := by simp [fill1, cellsOf, storeL, fillL]
theorem fill_9_6n (a0 a1 a2 a3 a4 a5 a6 a7 a8 : AV)  : fill1 [a0, a1, a2, a3, a4, a5, a6, a7, a8] 6 1 (.nili) = some [a0, a1, a2, a3, a4, a5, .nili, a7, a8] := by simp [fill1, cellsOf, storeL, fillL]
theorem fill_9_7i (a0 a1 a2 a3 a4 a5 a6 a7 a8 : AV) (k : IntKind) (n : Int) : fill1 [a0, a1, a2, a3, a4, a5, a6, a7, a8] 7 1 (.int k n) = some [a0, a1, a2, a3, a4, a5, a6, .int k n, a8] := by simp [fill1, cellsOf, storeL, fillL]
theorem fill_9_7b (a0 a1 a2 a3 a4 a5 a6 a7 a8 : AV) (b : Bool) : fill1 [a0, a1, a2, a3, a4, a5, a6, a7, a8] 7 1 (.bool b) = some [a0, a1, a2, a3, a4, a5, a6, .bool b, a8] := by simp [fill1, cellsOf, storeL, fillL]
theorem fill_9_7s (a0 a1 a2 a3 a4 a5 a6 a7 a8 : AV) (l : List UInt8) : fill1 [a0, a1, a2, a3, a4, a5, a6, a7, a8] 7 1 (.str l) = some [a0, a1, a2, a3, a4, a5, a6, .str l, a8] := by simp [fill1, cellsOf, storeL, fillL]
theorem fill_9_7f (a0 a1 a2 a3 a4 a5 a6 a7 a8 : AV) (t : Nat) (v : AV) : fill1 [a0, a1, a2, a3, a4, a5, a6, a7, a8] 7 1 (.iface t v) = some [a0, a1, a2, a3, a4, a5, a6, .iface t v, a8] := by simp [fill1, cellsOf, storeL, fillL]
theorem fill_9_7n (a0 a1 a2 a3 a4 a5 a6 a7 a8 : AV)  : fill1 [a0, a1, a2, a3, a4, a5, a6, a7, a8] 7 1 (.nili) = some [a0, a1, a2, a3, a4, a5, a6, .nili, a8] := by simp [fill1, cellsOf, storeL, fillL]
theorem fill_9_8i (a0 a1 a2 a3 a4 a5 a6 a7 a8 : AV) (k : IntKind) (n : Int) : fill1 [a0, a1, a2, a3, a4, a5, a6, a7, a8] 8 1 (.int k n) = some [a0, a1, a2, a3, a4, a5, a6, a7, .int k n] := by simp [fill1, cellsOf, storeL, fillL]
theorem fill_9_8b (a0 a1 a2 a3 a4 a5 a6 a7 a8 : AV) (b : Bool) : fill1 [a0, a1, a2, a3, a4, a5, a6, a7, a8] 8 1 (.bool b) = some [a0, a1, a2, a3, a4, a5, a6, a7, .bool b] := by simp [fill1, cellsOf, storeL, fillL]
theorem fill_9_8s (a0 a1 a2 a3 a4 a5 a6 a7 a8 : AV) (l : List UInt8) : fill1 [a0, a1, a2, a3, a4, a5, a6, a7, a8] 8 1 (.str l) = some [a0, a1, a2, a3, a4, a5, a6, a7, .str l] := by simp [fill1, cellsOf, storeL, fillL]
theorem fill_9_8f (a0 a1 a2 a3 a4 a5 a6 a7 a8 : AV) (t : Nat) (v : AV) : fill1 [a0, a1, a2, a3, a4, a5, a6, a7, a8] 8 1 (.iface t v) = some [a0, a1, a2, a3, a4, a5, a6, a7, .iface t v] := by simp [fill1, cellsOf, storeL, fillL]
theorem fill_9_8n (a0 a1 a2 a3 a4 a5 a6 a7 a8 : AV)  : fill1 [a0, a1, a2, a3, a4, a5, a6, a7, a8] 8 1 (.nili) = some [a0, a1, a2, a3, a4, a5, a6, a7, .nili] := by simp [fill1, cellsOf, storeL, fillL]
theorem resC_9 (s : St) (z : Nat) (a0 a1 a2 a3 a4 a5 a6 a7 a8 : AV) : resC s (some 9) (some (.cells z [a0, a1, a2, a3, a4, a5, a6, a7, a8])) 0 = some (.agg [a0, a1, a2, a3, a4, a5, a6, a7, a8], s) := (id rfl)
theorem conv_int (k k' : IntKind) (n : Int) : convP (.toInt k) (.int k' n) = some (.int k (k.wrap n)) := (id rfl)
theorem slcS_str (l : List UInt8) (n : Int) (h0 : 0 ≤ n) (h1 : n ≤ l.length) : slcS (.str l) none (some (.int .i64 n)) = some (.str (l.take n.toNat)) := by
  have h2 : (0 : Int) ≤ 0 ∧ (0 : Int) ≤ (n.toNat : Int) := ⟨by omega, by omega⟩
  simp only [slcS, bndO, bnd]
  rw [if_pos ⟨h0, h1⟩]
  simp only [Option.map_none, List.drop_zero]
def mn2V (x y : AV) : Option AV := if isNum x then mnV x y else none
def mx2V (x y : AV) : Option AV := if isNum x then mxV x y else none
theorem evP_mn2 (gl : Nat → AV) (e : Env) (x y : Opd) : evP gl e (.mn [x, y]) = mn2V (opd gl e x) (opd gl e y) := by
  simp only [evP, List.map_cons, List.map_nil, foldV, mn2V]
  cases isNum (opd gl e x) <;> simp <;> cases mnV (opd gl e x) (opd gl e y) <;> rfl
theorem evP_mx2 (gl : Nat → AV) (e : Env) (x y : Opd) : evP gl e (.mx [x, y]) = mx2V (opd gl e x) (opd gl e y) := by
  simp only [evP, List.map_cons, List.map_nil, foldV, mx2V]
  cases isNum (opd gl e x) <;> simp <;> cases mxV (opd gl e x) (opd gl e y) <;> rfl
theorem mn2_i64 (a b : Int) : mn2V (.int .i64 a) (.int .i64 b) = some (.int .i64 (if b < a then b else a)) := (id rfl)
theorem mx2_i64 (a b : Int) : mx2V (.int .i64 a) (.int .i64 b) = some (.int .i64 (if b > a then b else a)) := (id rfl)
def ixsV (x i : AV) : Option AV :=
  match x with
    | .str s => match idx s.length i with
      | some j => match s[j]? with
        | some b => some (.int .u8 b.toNat)
        | none => none
      | none => none
    | _ => none
theorem evP_ixs (gl : Nat → AV) (e : Env) (x i : Opd) : evP gl e (.ixs x i) = ixsV (opd gl e x) (opd gl e i) := by
  simp only [evP, ixsV]
  generalize opd gl e x = v
  cases v <;> rfl
theorem frz_sl (n : Nat) (s : St) (cs : List AV) (m : Nat) (tk : Option (Nat × Nat × Nat)) : Ab.freeze n s (.sl cs m tk) = some (.sl cs m tk, s) := (id rfl)
theorem dryV_sl (cs : List AV) (n : Nat) (tk : Option (Nat × Nat × Nat)) : dryV (.sl cs n tk) = .sl cs n none := (id rfl)
theorem dryV_nils : dryV .nils = .nils := (id rfl)
theorem dryV_nili : dryV .nili = .nili := (id rfl)
end Go.Ab
