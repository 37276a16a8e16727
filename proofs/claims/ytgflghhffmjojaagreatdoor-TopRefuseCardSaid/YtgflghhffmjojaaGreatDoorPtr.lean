/- Objects of one's own behind a pointer, in the evaluator. No conditions. -/
import Derived.Test.YtgflghhffmjojaaGreatDoorHs
set_option linter.unusedSimpArgs false
set_option linter.unusedVariables false
namespace Go.Ab
open Go
def cellAt (o : Option Obj) (i : Nat) : Option AV :=
  match o with
  | some (.cells _ cs) => cs[i]?
  | _ => none
def ldV (s : St) : Option AV → Option (AV × St × Nat)
  | some v => some (v, s, 1)
  | none => none
theorem load_ptr (s : St) (b o : Nat) : loadR s none (.ptr b o) = ldV s (cellAt (s.get b) o) := by
  simp only [loadR, Ab.cut]
  generalize s.get b = q
  cases q with
  | none => rfl
  | some x => cases x with
    | cells z cs => simp only [cellAt]; cases cs[o]? <;> rfl
    | _ => rfl
theorem ldV_some (s : St) (v : AV) : ldV s (some v) = some (v, s, 1) := (id rfl)
def setAt (q : Option Obj) (i : Nat) (v : Option (List AV)) : Option Obj :=
  match q, v with
  | some (.cells z cs), some [u] => if i + 1 ≤ cs.length then some (.cells z (cs.set i u)) else none
  | _, _ => none
def stO (s : St) (b : Nat) : Option Obj → Option (AV × St)
  | some q => some (.undef, s.upd b q)
  | none => none
theorem store_ptr (s : St) (b o : Nat) (v : AV) : storeV 1 s (.ptr b o) v = stO s b (setAt (s.get b) o (cellsOf v)) := by
  simp only [storeV]
  generalize s.get b = q
  cases q with
  | none => rfl
  | some x => cases x with
    | cells z cs =>
      cases cellsOf v with
      | none => rfl
      | some vs =>
        match vs with
        | [] => rfl
        | [u] =>
          simp only [setAt, storeL, List.length_cons, List.length_nil, Nat.zero_add, if_true]
          by_cases hb : o + 1 ≤ cs.length
          · simp only [hb, if_true]; rfl
          · simp only [hb, if_false]; rfl
        | u :: w :: vs => simp [setAt, stO]
    | _ => rfl
theorem stO_some (s : St) (b : Nat) (q : Obj) : stO s b (some q) = some (.undef, s.upd b q) := (id rfl)
theorem cellAt_cells (z : Nat) (cs : List AV) (i : Nat) : cellAt (some (.cells z cs)) i = cs[i]? := (id rfl)
theorem setAt_0 (z : Nat) (a0 u : AV) (cs : List AV) : setAt (some (.cells z (a0 :: cs))) 0 (some [u]) = some (.cells z (u :: cs)) := by simp [setAt]
theorem setAt_1 (z : Nat) (a0 a1 u : AV) (cs : List AV) : setAt (some (.cells z (a0 :: a1 :: cs))) 1 (some [u]) = some (.cells z (a0 :: u :: cs)) := by simp [setAt]
theorem setAt_2 (z : Nat) (a0 a1 a2 u : AV) (cs : List AV) : setAt (some (.cells z (a0 :: a1 :: a2 :: cs))) 2 (some [u]) = some (.cells z (a0 :: a1 :: u :: cs)) := by simp [setAt]
theorem setAt_3 (z : Nat) (a0 a1 a2 a3 u : AV) (cs : List AV) : setAt (some (.cells z (a0 :: a1 :: a2 :: a3 :: cs))) 3 (some [u]) = some (.cells z (a0 :: a1 :: a2 :: u :: cs)) := by simp [setAt]
theorem setAt_4 (z : Nat) (a0 a1 a2 a3 a4 u : AV) (cs : List AV) : setAt (some (.cells z (a0 :: a1 :: a2 :: a3 :: a4 :: cs))) 4 (some [u]) = some (.cells z (a0 :: a1 :: a2 :: a3 :: u :: cs)) := by simp [setAt]
theorem setAt_5 (z : Nat) (a0 a1 a2 a3 a4 a5 u : AV) (cs : List AV) : setAt (some (.cells z (a0 :: a1 :: a2 :: a3 :: a4 :: a5 :: cs))) 5 (some [u]) = some (.cells z (a0 :: a1 :: a2 :: a3 :: a4 :: u :: cs)) := by simp [setAt]
theorem setAt_6 (z : Nat) (a0 a1 a2 a3 a4 a5 a6 u : AV) (cs : List AV) : setAt (some (.cells z (a0 :: a1 :: a2 :: a3 :: a4 :: a5 :: a6 :: cs))) 6 (some [u]) = some (.cells z (a0 :: a1 :: a2 :: a3 :: a4 :: a5 :: u :: cs)) := by simp [setAt]
theorem setAt_7 (z : Nat) (a0 a1 a2 a3 a4 a5 a6 a7 u : AV) (cs : List AV) : setAt (some (.cells z (a0 :: a1 :: a2 :: a3 :: a4 :: a5 :: a6 :: a7 :: cs))) 7 (some [u]) = some (.cells z (a0 :: a1 :: a2 :: a3 :: a4 :: a5 :: a6 :: u :: cs)) := by simp [setAt]
theorem setAt_8 (z : Nat) (a0 a1 a2 a3 a4 a5 a6 a7 a8 u : AV) (cs : List AV) : setAt (some (.cells z (a0 :: a1 :: a2 :: a3 :: a4 :: a5 :: a6 :: a7 :: a8 :: cs))) 8 (some [u]) = some (.cells z (a0 :: a1 :: a2 :: a3 :: a4 :: a5 :: a6 :: a7 :: u :: cs)) := by simp [setAt]
theorem setAt_9 (z : Nat) (a0 a1 a2 a3 a4 a5 a6 a7 a8 a9 u : AV) (cs : List AV) : setAt (some (.cells z (a0 :: a1 :: a2 :: a3 :: a4 :: a5 :: a6 :: a7 :: a8 :: a9 :: cs))) 9 (some [u]) = some (.cells z (a0 :: a1 :: a2 :: a3 :: a4 :: a5 :: a6 :: a7 :: a8 :: u :: cs)) := by simp [setAt]
theorem setAt_10 (z : Nat) (a0 a1 a2 a3 a4 a5 a6 a7 a8 a9 a10 u : AV) (cs : List AV) : setAt (some (.cells z (a0 :: a1 :: a2 :: a3 :: a4 :: a5 :: a6 :: a7 :: a8 :: a9 :: a10 :: cs))) 10 (some [u]) = some (.cells z (a0 :: a1 :: a2 :: a3 :: a4 :: a5 :: a6 :: a7 :: a8 :: a9 :: u :: cs)) := by simp [setAt]
theorem setAt_11 (z : Nat) (a0 a1 a2 a3 a4 a5 a6 a7 a8 a9 a10 a11 u : AV) (cs : List AV) : setAt (some (.cells z (a0 :: a1 :: a2 :: a3 :: a4 :: a5 :: a6 :: a7 :: a8 :: a9 :: a10 :: a11 :: cs))) 11 (some [u]) = some (.cells z (a0 :: a1 :: a2 :: a3 :: a4 :: a5 :: a6 :: a7 :: a8 :: a9 :: a10 :: u :: cs)) := by simp [setAt]
theorem setAt_12 (z : Nat) (a0 a1 a2 a3 a4 a5 a6 a7 a8 a9 a10 a11 a12 u : AV) (cs : List AV) : setAt (some (.cells z (a0 :: a1 :: a2 :: a3 :: a4 :: a5 :: a6 :: a7 :: a8 :: a9 :: a10 :: a11 :: a12 :: cs))) 12 (some [u]) = some (.cells z (a0 :: a1 :: a2 :: a3 :: a4 :: a5 :: a6 :: a7 :: a8 :: a9 :: a10 :: a11 :: u :: cs)) := by simp [setAt]
theorem cells_int (k : IntKind) (n : Int) : cellsOf (.int k n) = some [.int k n] := (id rfl)
theorem cells_bool (b : Bool) : cellsOf (.bool b) = some [.bool b] := (id rfl)
theorem cells_str (b : List UInt8) : cellsOf (.str b) = some [.str b] := (id rfl)
theorem cells_nils : cellsOf .nils = some [.nils] := (id rfl)
theorem cells_nilp : cellsOf .nilp = some [.nilp] := (id rfl)
theorem cells_ptr (b o : Nat) : cellsOf (.ptr b o) = some [.ptr b o] := (id rfl)
theorem cells_sl (cs : List AV) (n : Nat) (tk) : cellsOf (.sl cs n tk) = some [.sl cs n tk] := (id rfl)
theorem cells_u8 (b : UInt8) : cellsOf (u8v b) = some [u8v b] := (id rfl)
theorem cells_u16 (b : BitVec 16) : cellsOf (u16 b) = some [u16 b] := (id rfl)
theorem cells_agg (cs : List AV) : cellsOf (.agg cs) = some cs := (id rfl)
theorem Bys.cells {x : AV} {xs : List UInt8} (h : Bys x xs) : cellsOf x = some [x] := by rcases h with ⟨rfl, _⟩ | ⟨tk, rfl⟩ <;> rfl
theorem get_upd_is (s : St) (b : Nat) (o : Obj) (h : (s.get b).isSome = true) : (s.upd b o).get b = some o := by
  obtain ⟨q, hq⟩ := Option.isSome_iff_exists.1 h
  exact get_upd_eq s o hq
theorem updH_updH (h : List (Nat × Obj)) (b : Nat) (o o' : Obj) : updH (updH h b o) b o' = updH h b o' := by
  induction h with
  | nil => rfl
  | cons p h ih =>
    obtain ⟨i, q⟩ := p
    by_cases e : i = b
    · simp [updH, e]
    · simp [updH, e, ih]
theorem upd_upd (s : St) (b : Nat) (o o' : Obj) : (s.upd b o).upd b o' = s.upd b o' := by
  simp [St.upd, updH_updH]
def nchkV : AV → Option AV
  | .ptr b o => some (.ptr b o)
  | .rp cs => some (.rp cs)
  | .clo f cs => some (.clo f cs)
  | _ => none
def faV (off : Nat) : AV → Option AV
  | .ptr b o => some (.ptr b (o + off))
  | .rp cs => if off ≤ cs.length then some (.rp (cs.drop off)) else none
  | _ => none
theorem ev1_nchkV (gl : Nat → AV) (call : Calls') (e : Env) (s : St) (x : Opd) : ev1 gl call e s (.nchk x) = pR s (nchkV (opd gl e x)) := by
  rw [ev1_nchk]; simp only [evP]; generalize opd gl e x = v; cases v <;> rfl
theorem ev1_faV (gl : Nat → AV) (call : Calls') (e : Env) (s : St) (o : Nat) (x : Opd) : ev1 gl call e s (.fa o x) = pR s (faV o (opd gl e x)) := by
  rw [ev1_fa]; simp only [evP]; generalize opd gl e x = v; cases v <;> rfl
theorem nchkV_ptr (b o : Nat) : nchkV (.ptr b o) = some (.ptr b o) := (id rfl)
theorem faV_ptr (b o i : Nat) : faV i (.ptr b o) = some (.ptr b (o + i)) := (id rfl)
def extV (i : Nat) : AV → Option AV
  | .tup vs => vs[i]?
  | _ => none
theorem ev1_extV (gl : Nat → AV) (call : Calls') (e : Env) (s : St) (i : Nat) (x : Opd) : ev1 gl call e s (.ext i x) = pR s (extV i (opd gl e x)) := by
  rw [ev1_ext]; simp only [evP]; generalize opd gl e x = v; cases v <;> rfl
theorem extV_tup (i : Nat) (vs : List AV) : extV i (.tup vs) = vs[i]? := (id rfl)
theorem eqptr_nil : eqAV .ptr .nilp .nilp = some true := (id rfl)
theorem eqptr_ptr (b o : Nat) : eqAV .ptr (.ptr b o) .nilp = some false := (id rfl)
/-- Bytes of one's own, whose ticket is t. -/
def OwnT (s : St) (x : AV) (xs : List UInt8) (t : Nat) : Prop := (x = .nils ∧ xs = []) ∨ ∃ v, x = .sl (bytesAV xs) xs.length (some (t, v, 1)) ∧ t < s.next ∧ s.get t = some (.tick 1 v)
theorem OwnT.bys {s : St} {x : AV} {xs : List UInt8} {t : Nat} (h : OwnT s x xs t) : Bys x xs := by
  rcases h with h | ⟨v, h, _⟩
  · exact .inl h
  · exact .inr ⟨_, h⟩
theorem OwnT.nil (s : St) (t : Nat) : OwnT s .nils [] t := .inl ⟨rfl, rfl⟩
theorem OwnT.keep {s s' : St} {x : AV} {xs : List UInt8} {t : Nat} (h : OwnT s x xs t) (hl : s.next ≤ s'.next) (hg : ∀ v, s.get t = some (.tick 1 v) → s'.get t = some (.tick 1 v)) : OwnT s' x xs t := by
  rcases h with h | ⟨v, h, h1, h2⟩
  · exact .inl h
  · exact .inr ⟨v, h, by omega, hg v h2⟩
theorem OwnT.ext {s s' : St} {x : AV} {xs : List UInt8} {t : Nat} (h : OwnT s x xs t) (e : Ext s s') : OwnT s' x xs t := by
  rcases h with h | ⟨v, h, h1, h2⟩
  · exact .inl h
  · exact .inr ⟨v, h, Nat.lt_of_lt_of_le h1 e.le, (e.get t h1).trans h2⟩
theorem OwnT.updc {s : St} {x : AV} {xs : List UInt8} {t : Nat} (h : OwnT s x xs t) {p z : Nat} {cs : List AV} (hp : s.get p = some (.cells z cs)) (o : Obj) : OwnT (s.upd p o) x xs t :=
  h.keep (Nat.le_refl _) fun v hv => by
    have : t ≠ p := fun e => by subst e; rw [hv] at hp; cases hp
    exact (get_upd_ne _ _ this).trans hv
/-- All but p and t is as it was. -/
structure Still (p t : Nat) (s s' : St) : Prop where
  le : s.next ≤ s'.next
  get : ∀ q, q < s.next → q ≠ p → q ≠ t → s'.get q = s.get q
theorem Still.refl (p t : Nat) (s : St) : Still p t s s := ⟨Nat.le_refl _, fun _ _ _ _ => rfl⟩
theorem Still.trans {p t : Nat} {a b c : St} (h : Still p t a b) (g : Still p t b c) : Still p t a c :=
  ⟨Nat.le_trans h.le g.le, fun q h1 h2 h3 => (g.get q (Nat.lt_of_lt_of_le h1 h.le) h2 h3).trans (h.get q h1 h2 h3)⟩
theorem Ext.frame {a b : St} (h : Ext a b) (p t : Nat) : Still p t a b := ⟨h.le, fun q h1 _ _ => h.get q h1⟩
theorem Still.updp {p t : Nat} {a b : St} (h : Still p t a b) (o : Obj) : Still p t a (b.upd p o) :=
  ⟨h.le, fun q h1 h2 h3 => (get_upd_ne _ _ h2).trans (h.get q h1 h2 h3)⟩
/-- An append, of which only the ticket turns. -/
theorem OwnT.app {s : St} {x y : AV} {xs ys : List UInt8} {t : Nat} (h : OwnT s x xs t) (g : Bys y ys) (hl : xs.length + ys.length ≤ 1000000000) :
    ∃ z s' t', appV false 1 1 s x y = some (z, s') ∧ OwnT s' z (xs ++ ys) t' ∧ (t' = t ∨ (s.next ≤ t' ∧ t' < s'.next)) ∧ s.next ≤ s'.next ∧ ∀ q, q < s.next → (∀ v, s.get q ≠ some (.tick 1 v)) ∨ q ≠ t → s'.get q = s.get q := by
  rcases h with ⟨rfl, rfl⟩ | ⟨v, rfl, q1, q2⟩
  · by_cases hm : ys.length = 0
    · have : ys = [] := List.length_eq_zero_iff.1 hm
      subst this
      exact ⟨.nils, s, t, by simp [appV, g.news, appS], .inl ⟨rfl, rfl⟩, .inl rfl, Nat.le_refl _, fun _ _ _ => rfl⟩
    · refine ⟨_, _, s.next, by simp only [appV, g.news, appS, hm, Bool.false_and, if_false, Bool.false_eq_true]; rw [if_pos (fits_small (by omega))], .inr ⟨0, by simp, by simp [St.new], get_new_eq _ _⟩, .inr ⟨Nat.le_refl _, by simp [St.new]⟩, by simp [St.new], fun q hq _ => get_new_ne _ _ (by omega)⟩
  · refine ⟨.sl (bytesAV (xs ++ ys)) (xs ++ ys).length (some (t, v + 1, 1)), s.upd t (.tick 1 (v + 1)), t, ?_, .inr ⟨v + 1, rfl, q1, get_upd_eq _ _ q2⟩, .inl rfl, Nat.le_refl _, fun q hq hne => get_upd_ne _ _ ?_⟩
    · simp only [appV, g.news, appS, q2, Bool.false_and, if_false, Bool.false_eq_true]
      rw [if_pos ⟨trivial, trivial, by simp [bytesAV_length], fits_small (by omega)⟩, bytesAV_append, List.length_append]
    · rintro rfl
      rcases hne with h | h
      · exact h v q2
      · exact h rfl
end Go.Ab
