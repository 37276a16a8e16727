/- Parameters: lists of them in values; what may be of them, their bytes; appends to bytes of one's own that leave cells alone. No conditions. -/
import Derived.Test.YthcblggiojpmcaaDoorSet
set_option linter.unusedSimpArgs false
set_option linter.unusedVariables false
set_option maxRecDepth 100000
namespace Go.Ab
open Go
/-- Cells stay; new blocks may come. -/
def KeepC (s s' : St) : Prop := s.next ≤ s'.next ∧ ∀ b n cs, b < s.next → s.get b = some (.cells n cs) → s'.get b = some (.cells n cs)
theorem KeepC.refl (s : St) : KeepC s s := ⟨Nat.le_refl _, fun _ _ _ _ h => h⟩
theorem KeepC.trans {a b c : St} (h : KeepC a b) (g : KeepC b c) : KeepC a c := ⟨Nat.le_trans h.1 g.1, fun i n cs hi hg => g.2 i n cs (Nat.lt_of_lt_of_le hi h.1) (h.2 i n cs hi hg)⟩
theorem KeepC.new (s : St) (o : Obj) : KeepC s (s.new o) := ⟨Nat.le_succ _, fun b n cs hb hg => by rw [get_new_ne _ _ (by omega)]; exact hg⟩
theorem KeepC.tick {s : St} {t u v : Nat} (o : Obj) (h : s.get t = some (.tick u v)) : KeepC s (s.upd t o) := ⟨Nat.le_refl _, fun b n cs hb hg => by
  rw [get_upd_ne _ _ (fun hh => by rw [hh, h] at hg; cases hg)]; exact hg⟩
/-- An append of bytes (or of a text) to what is one's own. -/
theorem Own.appK {s0 s : St} {x y : AV} {xs ys : List UInt8} (h : Own s0 s x xs) (g : newsOf 1 s y = some (bytesAV ys, ys.length)) (e : Ext s0 s) (hl : xs.length + ys.length ≤ 1000000000) :
    ∃ z s', appV false 1 1 s x y = some (z, s') ∧ Own s0 s' z (xs ++ ys) ∧ Ext s0 s' ∧ KeepC s s' := by
  rcases h with ⟨rfl, rfl⟩ | ⟨t, v, rfl, h0, h1, h2⟩
  · by_cases hm : ys.length = 0
    · have : ys = [] := List.length_eq_zero_iff.1 hm
      subst this
      exact ⟨.nils, s, by simp [appV, g, appS], .inl ⟨rfl, rfl⟩, e, KeepC.refl s⟩
    · refine ⟨_, _, by simp only [appV, g, appS, hm, Bool.false_and, if_false, Bool.false_eq_true]; rw [if_pos (fits_small (by omega))], .inr ⟨s.next, 0, by simp, e.le, by simp [St.new], get_new_eq _ _⟩, e.new _, KeepC.new _ _⟩
  · refine ⟨.sl (bytesAV (xs ++ ys)) (xs ++ ys).length (some (t, v + 1, 1)), s.upd t (.tick 1 (v + 1)), ?_, .inr ⟨t, v + 1, rfl, h0, h1, get_upd_eq _ _ h2⟩, e.upd h0 _, KeepC.tick _ h2⟩
    simp only [appV, g, appS, h2, Bool.false_and, if_false, Bool.false_eq_true]
    rw [if_pos ⟨trivial, trivial, by simp [bytesAV_length], fits_small (by omega)⟩, bytesAV_append, List.length_append]
theorem news_str (s : St) (l : List UInt8) : newsOf 1 s (.str l) = some (bytesAV l, l.length) := rfl
theorem ev1_slsV (gl : Nat → AV) (call : Calls') (e : Env) (s : St) (x : Opd) (l h : Option Opd) : ev1 gl call e s (.sls x l h) = pR s (slcS (opd gl e x) (l.map (opd gl e)) (h.map (opd gl e))) := ev1_sls gl call e s x l h
theorem ev1_ixsV (gl : Nat → AV) (call : Calls') (e : Env) (s : St) (x i : Opd) : ev1 gl call e s (.ixs x i) = pR s (ixsV (opd gl e x) (opd gl e i)) := by
  rw [ev1_ixs, evP_ixs]
/-- A loop looks at what is live alone. -/
theorem iter_to {f : Env → St → Out} {l : List Bool} {k : Nat} {E : Env} {s : St} {out : Out} (hE : maskE l E = E) (h : iter f l (k + 1) E s = out) : ∀ e, maskE l e = E → iter f l (k + 1) e s = out := by
  intro e he
  rw [← h, iter_succ, iter_succ, he, hE]
end Go.Ab
namespace Go.Proofs.YthcblggiojpmcaaDoor
open Go Go.Ab
abbrev Tp := Int × List UInt8
def tpC (l : List Tp) : List AV := l.flatMap fun t => [.int .i64 t.1, .str t.2]
def IsTp (v : AV) (l : List Tp) : Prop := (v = .nils ∧ l = []) ∨ ∃ tk, v = .sl (tpC l) l.length tk
def okT (t : Tp) : Prop := 0 ≤ t.1 ∧ t.1 ≤ 255 ∧ t.2.length ≤ 40
instance (t : Tp) : Decidable (okT t) := inferInstanceAs (Decidable (_ ∧ _))
def encT (t : Tp) : List UInt8 := UInt8.ofNat t.1.toNat :: UInt8.ofNat t.2.length :: t.2
def encL (l : List Tp) : List UInt8 := l.flatMap encT
def putOk (l : List Tp) : Prop := (∀ t ∈ l, okT t) ∧ (encL l).length ≤ 64
instance (l : List Tp) : Decidable (putOk l) := inferInstanceAs (Decidable (_ ∧ _))
theorem encL_succ (l : List Tp) (i : Nat) (h : i < l.length) : encL (l.take (i + 1)) = encL (l.take i) ++ encT l[i] := by
  rw [List.take_succ_eq_append_getElem h, encL, List.flatMap_append]; simp [encL]
theorem tpC_length (l : List Tp) : (tpC l).length = l.length * 2 := by
  induction l with
  | nil => rfl
  | cons t l ih => simp [tpC] at ih ⊢; omega
theorem tpC_drop (l : List Tp) (i : Nat) : (tpC l).drop (i * 2) = tpC (l.drop i) := by
  induction l generalizing i with
  | nil => simp [tpC]
  | cons t l ih =>
    cases i with
    | zero => simp
    | succ i => rw [show (i + 1) * 2 = i * 2 + 2 by omega]; exact ih i
theorem tpC_append (l m : List Tp) : tpC (l ++ m) = tpC l ++ tpC m := by simp [tpC]
section
variable {v : AV} {l : List Tp} (h : IsTp v l)
include h
theorem IsTp.len : lenV v = some (.int .i64 (l.length : Nat)) := by
  rcases h with ⟨rfl, rfl⟩ | ⟨tk, rfl⟩ <;> rfl
theorem IsTp.ixa (i : Nat) (hi : i < l.length) : ∃ r, ixaV 2 v (.int .i64 (i : Int)) = some (.rp (.int .i64 l[i].1 :: .str l[i].2 :: r)) := by
  rcases h with ⟨rfl, rfl⟩ | ⟨tk, rfl⟩
  · simp at hi
  · have h1 : idx l.length (.int .i64 (i : Int)) = some i := by simp [idx]; omega
    refine ⟨tpC (l.drop (i + 1)), ?_⟩
    simp only [ixaV, h1, tpC_drop]
    rw [List.drop_eq_getElem_cons hi]
    rfl
theorem IsTp.freeze (s : St) (n : Nat) : Ab.freeze n s v = some (v, s) := by
  rcases h with ⟨rfl, _⟩ | ⟨tk, rfl⟩ <;> rfl
end
theorem u8of (n : Int) (h0 : 0 ≤ n) (h1 : n ≤ 255) : AV.int .u8 (IntKind.u8.wrap n) = u8v (UInt8.ofNat n.toNat) := by
  have : IntKind.u8.wrap n = n := by simp only [IntKind.wrap, IntKind.bits, IntKind.signed]; simp; omega
  rw [this]
  show AV.int .u8 n = AV.int .u8 ((UInt8.ofNat n.toNat).toNat : Int)
  congr 1
  simp; omega
end Go.Proofs.YthcblggiojpmcaaDoor
