/- How the evaluator is read with letters in it: one equation a form, and congruences that look at what is ahead alone. No conditions. -/
import Derived.Test.YtgflghhffmjojaaGreatDoorAb1
namespace Go.Ab
open Go

@[congr] theorem opR_congr {α : Type} {r r' : Option (AV × St × Nat)} (f : AV → St → Nat → Option α) (h : r = r') : opR r f = opR r' f := by rw [h]
@[congr] theorem guardR_congr {α : Type} {e : Env} {g g' : Option (Nat × Bool)} (a b : Option α) (h : g = g') : guardR e g a b = guardR e g' a b := by rw [h]
@[congr] theorem seqR_congr {r r' : Out} (f : Env → St → Out) (h : r = r') : seqR r f = seqR r' f := by rw [h]
@[congr] theorem condR_congr {c c' : AV} (a b : Out) (h : c = c') : condR c a b = condR c' a b := by rw [h]
/-- A choice whose arms are not looked at before it is made. -/
def boolR {α : Type} (c : Bool) (a b : α) : α := if c = true then a else b
@[congr] theorem boolR_congr {α : Type} {c c' : Bool} (a b : α) (h : c = c') : boolR c a b = boolR c' a b := by rw [h]
theorem boolR_true {α : Type} (a b : α) : boolR true a b = a := (id rfl)
theorem boolR_false {α : Type} (a b : α) : boolR false a b = b := (id rfl)

section
variable {α : Type} (f : AV → St → Nat → Option α) (g : Env → St → Out) (a b : Option α) (x y : Out) (e : Env) (s : St)
theorem opR_some (v : AV) (n : Nat) : opR (some (v, s, n)) f = f v s n := (id rfl)
theorem guardR_none : guardR e none a b = a := (id rfl)
theorem guardR_some (i : Nat) (w : Bool) : guardR e (some (i, w)) a b = match e.at i with | .bool c => boolR (c == w) a b | .tup [] => b | _ => none := (id rfl)
theorem seqR_nrm : seqR (some (.nrm, e, s)) g = g e s := (id rfl)
theorem seqR_exit (i : Nat) : seqR (some (.exit i, e, s)) g = some (.exit i, e, s) := (id rfl)
theorem seqR_ret : seqR (some (.ret, e, s)) g = some (.ret, e, s) := (id rfl)
theorem regR_some : regR (some (e, s)) = some (.nrm, e, s) := (id rfl)
theorem condR_bool (c : Bool) : condR (.bool c) x y = boolR c x y := by cases c <;> rfl
theorem blockR_nrm (i : Nat) : blockR i (some (.nrm, e, s)) = some (.nrm, e, s) := (id rfl)
theorem blockR_ret (i : Nat) : blockR i (some (.ret, e, s)) = some (.ret, e, s) := (id rfl)
theorem blockR_exit (i j : Nat) : blockR i (some (.exit j, e, s)) = if j = i then some (.nrm, e, s) else some (.exit j, e, s) := (id rfl)
end

section
variable (gl : Nat → AV) (call : Calls') (k : Nat) (e : Env) (s : St)
theorem evC_skip : evC gl call k .skip e s = some (.nrm, e, s) := (id rfl)
theorem evC_reg (ops : List MIns) : evC gl call k (.reg ops) e s = regR (evOps gl call ops e s) := (id rfl)
theorem evC_draw (ops : List MIns) (bf : List Nat) : evC gl call k (.draw ops bf) e s = drawR bf (evLoud gl call (allocZ gl e ops) ops s.next e (reserve (allocZ gl e ops) ops s) []) := (id rfl)
theorem evC_seq (a b : MC) : evC gl call k (.seq a b) e s = seqR (evC gl call k a e s) (evC gl call k b) := (id rfl)
theorem evC_cond (c : Opd) (a b : MC) : evC gl call k (.cond c a b) e s = condR (opd gl e c) (evC gl call k a e s) (evC gl call k b e s) := (id rfl)
theorem evC_block (i : Nat) (a : MC) : evC gl call k (.block i a) e s = blockR i (evC gl call k a e s) := (id rfl)
theorem evC_loop (l : List Bool) (a : MC) : evC gl call k (.loop l a) e s = iter (evC gl call k a) l k e s := (id rfl)
theorem evC_exit (i : Nat) : evC gl call k (.exit i) e s = some (.exit i, e, s) := (id rfl)
theorem evC_ret : evC gl call k .ret e s = some (.ret, e, s) := (id rfl)
theorem evOps_nil : evOps gl call [] e s = some (e, s) := (id rfl)
theorem evOps_cons (i : MIns) (is : List MIns) : evOps gl call (i :: is) e s = guardR e i.guard
      (opR (ev1 gl call e s i.op) fun v s' _ => evOps gl call is (e.put i.dst v) s')
      (evOps gl call is (e.put i.dst (.tup [])) s) := rfl
theorem evLoud_nil (az : AZ) (n : Nat) (l : List Rec) : evLoud gl call az [] n e s l = some (e, s, l.reverse) := (id rfl)
theorem evLoud_cons (az : AZ) (i : MIns) (is : List MIns) (n : Nat) (l : List Rec) (h : az i = none) : evLoud gl call az (i :: is) n e s l = guardR e i.guard
      (opR (ev1 gl call e s i.op) fun v s' k => evLoud gl call az is n (e.put i.dst v) s' (⟨k, blockOf gl e i.op, s, s'⟩ :: l))
      (evLoud gl call az is n (e.put i.dst (.tup [])) s (⟨0, 0, s, s⟩ :: l)) := by simp only [evLoud, h]
theorem evLoud_alloc (e0 : Env) (is0 : List MIns) (d : Option Nat) (zs : List AV) (is : List MIns) (n : Nat) (l : List Rec) : evLoud gl call (allocZ gl e0 is0) (⟨d, .alloc zs, none⟩ :: is) n e s l =
      placeR s n (0, zs) (evLoud gl call (allocZ gl e0 is0) is (n + 1) (e.put d (.ptr n 0)) s (⟨1, n, s, s⟩ :: l)) := rfl

/-- What hangs on the operands alone. -/
def pR (s : St) : Option AV → Option (AV × St × Nat)
  | some v => some (v, s, 0)
  | none => none
theorem pR_some (v : AV) : pR s (some v) = some (v, s, 0) := (id rfl)
theorem ev1_mv (x : Opd) : ev1 gl call e s (.mv x) = some (opd gl e x, s, 0) := (id rfl)
theorem ev1_pick (c a b : Opd) : ev1 gl call e s (.pick c a b) = match opd gl e c with
    | .bool true => some (opd gl e a, s, 0)
    | .bool false => some (opd gl e b, s, 0)
    | _ => none := by
  simp only [ev1, evP, evR, evW]
  generalize opd gl e c = v
  cases v with
  | bool b => cases b <;> rfl
  | _ => rfl
theorem ev1_bin (op : BinOp) (x y : Opd) : ev1 gl call e s (.bin op x y) = pR s (binV op (opd gl e x) (opd gl e y)) := by
  simp only [ev1, evP, evR, evW]; generalize binV op (opd gl e x) (opd gl e y) = v; cases v <;> rfl
theorem ev1_eqv (neg : Bool) (oks : EqK) (x y : Opd) : ev1 gl call e s (.eqv neg oks x y) = match eqAV oks (opd gl e x) (opd gl e y) with
    | some b => some (.bool (if neg then !b else b), s, 0)
    | none => none := by
  simp only [ev1, evP, evR, evW]; generalize eqAV oks (opd gl e x) (opd gl e y) = v; cases v <;> rfl
theorem ev1_un (op : UnOp) (x : Opd) : ev1 gl call e s (.un op x) = pR s (unV op (opd gl e x)) := by
  simp only [ev1, evP, evR, evW]; generalize unV op (opd gl e x) = v; cases v <;> rfl
theorem ev1_mki (t : Nat) (x : Opd) : ev1 gl call e s (.mki t x) = some (.iface t (opd gl e x), s, 0) := (id rfl)
theorem ev1_slc (n : Nat) (x : Opd) (l h : Option Opd) : ev1 gl call e s (.slc n x l h) = pR s (slcV n (opd gl e x) (l.map (opd gl e)) (h.map (opd gl e))) := by
  simp only [ev1, evP, evR, evW]; generalize slcV n (opd gl e x) (l.map (opd gl e)) (h.map (opd gl e)) = v; cases v <;> rfl
theorem ev1_len (x : Opd) : ev1 gl call e s (.len x) = pR s (evP gl e (.len x)) := by
  unfold ev1; cases evP gl e (.len x) <;> rfl
theorem ev1_fa (o : Nat) (x : Opd) : ev1 gl call e s (.fa o x) = pR s (evP gl e (.fa o x)) := by
  unfold ev1; cases evP gl e (.fa o x) <;> rfl
theorem ev1_ixa (n : Nat) (x i : Opd) : ev1 gl call e s (.ixa n x i) = pR s (evP gl e (.ixa n x i)) := by
  unfold ev1; cases evP gl e (.ixa n x i) <;> rfl
theorem ev1_nchk (x : Opd) : ev1 gl call e s (.nchk x) = pR s (evP gl e (.nchk x)) := by
  unfold ev1; cases evP gl e (.nchk x) <;> rfl
theorem ev1_ext (i : Nat) (x : Opd) : ev1 gl call e s (.ext i x) = pR s (evP gl e (.ext i x)) := by
  unfold ev1; cases evP gl e (.ext i x) <;> rfl
theorem ev1_mn (l : List Opd) : ev1 gl call e s (.mn l) = pR s (evP gl e (.mn l)) := by
  unfold ev1; cases evP gl e (.mn l) <;> rfl
theorem ev1_mx (l : List Opd) : ev1 gl call e s (.mx l) = pR s (evP gl e (.mx l)) := by
  unfold ev1; cases evP gl e (.mx l) <;> rfl
theorem ev1_build (z : List AV) (ps : List (Nat × Nat × Opd)) : ev1 gl call e s (.build z ps) = pR s ((fill gl e z ps).map .agg) := by
  simp only [ev1, evP, evR, evW]; generalize fill gl e z ps = v; cases v <;> rfl
/-- A load: out of what never turns, or out of the small heap. -/
def loadR (s : St) (n : Option Nat) : AV → Option (AV × St × Nat)
  | .rp cs => pR s (cut cs 0 n)
  | .ptr b o => match s.get b with
    | some (.cells _ cs) => match cut cs o n with
      | some v => some (v, s, 1)
      | none => none
    | _ => none
  | _ => none
theorem ev1_load (n : Option Nat) (x : Opd) : ev1 gl call e s (.load n x) = loadR s n (opd gl e x) := by
  simp only [ev1, evP, evR, evW, loadR]
  generalize opd gl e x = v
  cases v with
  | rp cs => dsimp only; cases cut cs 0 n <;> rfl
  | ptr b o =>
    dsimp only
    generalize s.get b = q
    cases q with
    | none => rfl
    | some o' => cases o' with
      | cells z cs => dsimp only; cases cut cs o n <;> rfl
      | _ => rfl
  | _ => rfl
def wR : Option (AV × St) → Option (AV × St × Nat)
  | some (v, s) => some (v, s, 2)
  | none => none
theorem wR_some (v : AV) : wR (some (v, s)) = some (v, s, 2) := (id rfl)
def callR (r : Option (List AV × St)) (f : List AV → St → Option (AV × St)) : Option (AV × St × Nat) :=
  match r with
  | some (vs, s) => wR (f vs s)
  | none => none
@[congr] theorem callR_congr {r r' : Option (List AV × St)} (f : List AV → St → Option (AV × St)) (h : r = r') : callR r f = callR r' f := by rw [h]
theorem callR_some (vs : List AV) (f : List AV → St → Option (AV × St)) : callR (some (vs, s)) f = wR (f vs s) := (id rfl)
theorem ev1_call (f : Nat) (args : List (Nat × Opd)) : ev1 gl call e s (.call f args) = callR (freezeL gl e s args) (call f) := by
  simp only [ev1, evP, evR, callR]
  generalize freezeL gl e s args = q
  cases q with
  | none => rfl
  | some r => obtain ⟨vs, s1⟩ := r; dsimp only; generalize call f vs s1 = z; cases z <;> rfl
def callvR (v : AV) (r : Option (List AV × St)) (call : Calls') : Option (AV × St × Nat) :=
  match v with
  | .clo f cs => callR r fun vs s => call f (vs ++ cs) s
  | _ => none
@[congr] theorem callvR_congr {v v' : AV} {r r' : Option (List AV × St)} (call : Calls') (hv : v = v') (h : r = r') : callvR v r call = callvR v' r' call := by rw [h, hv]
theorem callvR_clo (f : Nat) (cs : List AV) (r : Option (List AV × St)) (call : Calls') : callvR (.clo f cs) r call = callR r fun vs s => call f (vs ++ cs) s := (id rfl)
theorem ev1_store (n : Nat) (x v : Opd) : ev1 gl call e s (.store n x v) = wR (evW gl e s (.store n x v)) := by
  simp only [ev1, evP, evR]; generalize evW gl e s (.store n x v) = v; cases v <;> rfl
theorem ev1_app (h : Bool) (n b : Nat) (x y : Opd) : ev1 gl call e s (.app h n b x y) = wR (evW gl e s (.app h n b x y)) := by
  simp only [ev1, evP, evR]; generalize evW gl e s (.app h n b x y) = v; cases v <;> rfl
theorem ev1_bsl (h : Bool) (m n : Nat) (z : List AV) (ps : List (Nat × Nat × Opd)) : ev1 gl call e s (.bsl h m n z ps) = wR (evW gl e s (.bsl h m n z ps)) := by
  simp only [ev1, evP, evR]; generalize evW gl e s (.bsl h m n z ps) = v; cases v <;> rfl
theorem ev1_alloc (z : List AV) : ev1 gl call e s (.alloc z) = some (.ptr s.next 0, s.new (.cells 0 z), 2) := (id rfl)
theorem ev1_box (x : Opd) : ev1 gl call e s (.box x) = wR (evW gl e s (.box x)) := by
  simp only [ev1, evP, evR]; generalize evW gl e s (.box x) = v; cases v <;> rfl
theorem ev1_mks (m b : Nat) (z : List AV) (l c : Opd) : ev1 gl call e s (.mks m b z l c) = wR (evW gl e s (.mks m b z l c)) := by
  simp only [ev1, evP, evR]; generalize evW gl e s (.mks m b z l c) = v; cases v <;> rfl
theorem ev1_cpy (n : Nat) (x y : Opd) : ev1 gl call e s (.cpy n x y) = wR (evW gl e s (.cpy n x y)) := by
  simp only [ev1, evP, evR]; generalize evW gl e s (.cpy n x y) = v; cases v <;> rfl
theorem ev1_conv (c : Cv) (x : Opd) : ev1 gl call e s (.conv c x) = match convP c (opd gl e x) with
    | some v => some (v, s, 0)
    | none => match evR gl e s (.conv c x) with
      | some v => some (v, s, 1)
      | none => wR (evW gl e s (.conv c x)) := by
  simp only [ev1, evP]
  generalize convP c (opd gl e x) = p
  generalize evR gl e s (.conv c x) = q
  generalize evW gl e s (.conv c x) = r
  cases p <;> cases q <;> cases r <;> rfl
end
theorem iter_succ (f : Env → St → Out) (l : List Bool) (k : Nat) (e : Env) (s : St) : iter f l (k + 1) e s = seqR (f (maskE l e) s) (iter f l k) := (id rfl)

/-- A loop, round by round: what holds at the heads of its rounds; a round either goes on or leaves. -/
theorem iter_rounds (f : Env → St → Out) (l : List Bool) (I : Nat → Env → St → Prop) (R : Out) (n : Nat)
    (on : ∀ i e s, i < n → I i e s → ∃ e' s', f (maskE l e) s = some (.nrm, e', s') ∧ I (i + 1) e' s')
    (off : ∀ e s, I n e s → f (maskE l e) s = R ∧ ∀ e' s', R ≠ some (.nrm, e', s')) :
    ∀ (d i : Nat) (e : Env) (s : St) (k : Nat), i + d = n → I i e s → d < k → iter f l k e s = R := by
  intro d
  induction d with
  | zero =>
    intro i e s k hi hI hk
    obtain ⟨k, rfl⟩ : ∃ m, k = m + 1 := ⟨k - 1, by omega⟩
    have : i = n := by omega
    subst this
    obtain ⟨h1, h2⟩ := off e s hI
    rw [iter_succ, h1]
    cases R with
    | none => rfl
    | some r =>
      obtain ⟨x, e', s'⟩ := r
      cases x with
      | nrm => exact absurd rfl (h2 e' s')
      | exit i => rfl
      | ret => rfl
  | succ d ih =>
    intro i e s k hi hI hk
    obtain ⟨k, rfl⟩ : ∃ m, k = m + 1 := ⟨k - 1, by omega⟩
    obtain ⟨e', s', h1, h2⟩ := on i e s (by omega) hI
    rw [iter_succ, h1, seqR_nrm]
    exact ih (i + 1) e' s' k (by omega) h2 (by omega)

end Go.Ab
