/- Sixteen-bit numbers in the evaluator. No conditions. -/
import Derived.Test.YtgflghhffmjojaaGreatDoorAb2
set_option linter.unusedSimpArgs false
set_option linter.unusedVariables false
namespace Go.Ab
open Go
def u16 (c : BitVec 16) : AV := .int .u16 c.toNat
def u8v (b : UInt8) : AV := .int .u8 b.toNat
theorem wrap16 (n : Nat) (h : n < 65536) : IntKind.u16.wrap (n : Int) = n := by
  simp only [IntKind.wrap, IntKind.bits, IntKind.signed]
  simp
  omega
theorem ofInt16 (c : BitVec 16) : BitVec.ofInt 16 (c.toNat : Int) = c := by
  rw [BitVec.ofInt_natCast]; simp
theorem b16_xor (c d : BitVec 16) : binV .xor (u16 c) (u16 d) = some (u16 (c ^^^ d)) := by
  show some (AV.int .u16 (IntKind.u16.wrap ((BitVec.ofInt 16 (c.toNat : Int) ^^^ BitVec.ofInt 16 (d.toNat : Int)).toNat : Int))) = _
  rw [ofInt16, ofInt16, wrap16 _ (c ^^^ d).isLt]; rfl
theorem b16_and (c d : BitVec 16) : binV .and (u16 c) (u16 d) = some (u16 (c &&& d)) := by
  show some (AV.int .u16 (IntKind.u16.wrap ((BitVec.ofInt 16 (c.toNat : Int) &&& BitVec.ofInt 16 (d.toNat : Int)).toNat : Int))) = _
  rw [ofInt16, ofInt16, wrap16 _ (c &&& d).isLt]; rfl
theorem b16_eql (c d : BitVec 16) : binV .eql (u16 c) (u16 d) = some (.bool (c == d)) := by
  show some (AV.bool ((c.toNat : Int) == (d.toNat : Int))) = _
  congr 2
  rw [Bool.eq_iff_iff, beq_iff_eq, beq_iff_eq]
  exact ⟨fun h => BitVec.eq_of_toNat_eq (Int.ofNat.inj h), fun h => by rw [h]⟩
theorem b16_shr1 (c : BitVec 16) : binV .shr (u16 c) (.int .u64 1) = some (u16 (c >>> 1)) := by
  show some (AV.int .u16 ((c.toNat : Int).fdiv 2)) = _
  rw [Int.fdiv_eq_ediv_of_nonneg _ (by omega)]
  simp only [u16]
  rw [BitVec.toNat_ushiftRight, Nat.shiftRight_eq_div_pow]
  rfl
theorem b16_of_u8 (b : UInt8) : convP (.toInt .u16) (u8v b) = some (u16 (b.toBitVec.setWidth 16)) := by
  simp only [convP, u8v, u16]
  rw [wrap16 _ (by have := b.toNat_lt; omega)]
  simp
end Go.Ab
set_option linter.unusedSimpArgs false
set_option linter.unusedVariables false
namespace Go.Ab
open Go
def lenV : AV → Option AV
  | .nils => some (.int .i64 0)
  | .sl _ n _ => some (.int .i64 n)
  | .hs _ _ _ n => some (.int .i64 n)
  | _ => none
def ixaV (size : Nat) (x i : AV) : Option AV :=
  match x with
  | .sl cs n _ => match idx n i with
    | some j => some (.rp (cs.drop (j * size)))
    | none => none
  | .hs _ b o n => match idx n i with
    | some j => some (.ptr b (o + j * size))
    | none => none
  | _ => none
def appV (h : Bool) (size bytes : Nat) (s : St) (x y : AV) : Option (AV × St) :=
  match newsOf size s y with
  | some (news, m) => if (h && notSl x) = true then appH size bytes s x news m else appS size bytes s x news m
  | none => none
section
variable (gl : Nat → AV) (call : Calls') (k : Nat) (e : Env) (s : St)
theorem ev1_lenV (x : Opd) : ev1 gl call e s (.len x) = pR s (lenV (opd gl e x)) := by
  rw [ev1_len]; simp only [evP, lenV]; generalize opd gl e x = v; cases v <;> rfl
theorem ev1_ixaV (n : Nat) (x i : Opd) : ev1 gl call e s (.ixa n x i) = pR s (ixaV n (opd gl e x) (opd gl e i)) := by
  rw [ev1_ixa]; rfl
theorem ev1_appV (h : Bool) (n b : Nat) (x y : Opd) : ev1 gl call e s (.app h n b x y) = wR (appV h n b s (opd gl e x) (opd gl e y)) := by
  rw [ev1_app]; rfl
end
/-! ### The small heap -/
theorem getH_updH (h : List (Nat × Obj)) (b c : Nat) (o : Obj) : getH (updH h b o) c = if c = b then (getH h b).map (fun _ => o) else getH h c := by
  induction h with
  | nil => simp [updH, getH]
  | cons p h ih =>
    obtain ⟨i, q⟩ := p
    by_cases hb : i = b
    · subst hb
      by_cases hc : c = i
      · subst hc; simp [updH, getH]
      · simp [updH, getH, hc, show ¬ i = c from fun hh => hc hh.symm]
    · by_cases hc : c = b
      · subst hc; simp [updH, getH, hb, ih]
      · by_cases hi : i = c
        · simp [updH, getH, hb, hi, hc]
        · simp [updH, getH, hb, hi, hc, ih]
theorem get_upd_ne (s : St) {b c : Nat} (o : Obj) (h : c ≠ b) : (s.upd b o).get c = s.get c := by
  simp [St.get, St.upd, getH_updH, h]
theorem get_upd_eq (s : St) {b : Nat} (o : Obj) {q : Obj} (h : s.get b = some q) : (s.upd b o).get b = some o := by
  simp only [St.get] at h
  simp [St.get, St.upd, getH_updH, h]
theorem get_new_eq (s : St) (o : Obj) : (s.new o).get s.next = some o := by simp [St.get, St.new, getH]
theorem get_new_ne (s : St) (o : Obj) {b : Nat} (h : b ≠ s.next) : (s.new o).get b = s.get b := by simp [St.get, St.new, getH, show ¬ s.next = b from fun hh => h hh.symm]
structure Ext (s s' : St) : Prop where
  le : s.next ≤ s'.next
  get : ∀ b, b < s.next → s'.get b = s.get b
theorem Ext.refl (s : St) : Ext s s := ⟨Nat.le_refl _, fun _ _ => rfl⟩
theorem Ext.trans {a b c : St} (h : Ext a b) (g : Ext b c) : Ext a c :=
  ⟨Nat.le_trans h.le g.le, fun i hi => (g.get i (Nat.lt_of_lt_of_le hi h.le)).trans (h.get i hi)⟩
theorem Ext.new {a b : St} (h : Ext a b) (o : Obj) : Ext a (b.new o) :=
  ⟨Nat.le_succ_of_le h.le, fun i hi => by rw [get_new_ne _ _ (by have := h.le; omega)]; exact h.get i hi⟩
theorem Ext.upd {a b : St} (h : Ext a b) {i : Nat} (hi : a.next ≤ i) (o : Obj) : Ext a (b.upd i o) :=
  ⟨h.le, fun j hj => by rw [get_upd_ne _ _ (by omega)]; exact h.get j hj⟩
/-! ### Bytes -/
theorem bytesAV_length (xs : List UInt8) : (bytesAV xs).length = xs.length := by simp [bytesAV]
theorem bytesAV_append (xs ys : List UInt8) : bytesAV xs ++ bytesAV ys = bytesAV (xs ++ ys) := by simp [bytesAV]
theorem bytesAV_get (xs : List UInt8) (i : Nat) : (bytesAV xs)[i]? = (xs[i]?).map u8v := by simp [bytesAV, u8v]; rfl
theorem toBytes_bytesAV (xs : List UInt8) : toBytes (bytesAV xs) = some xs := by
  induction xs with
  | nil => rfl
  | cons b xs ih =>
    have : bytesAV (b :: xs) = .int .u8 b.toNat :: bytesAV xs := rfl
    rw [this]
    simp [toBytes, toByte, ih]
/-- Bytes that can be read: nil, or a list. -/
def Bys (x : AV) (xs : List UInt8) : Prop := (x = .nils ∧ xs = []) ∨ ∃ tk, x = .sl (bytesAV xs) xs.length tk
/-- Bytes that one has made since s0, with their ticket. -/
def Own (s0 s : St) (x : AV) (xs : List UInt8) : Prop := (x = .nils ∧ xs = []) ∨ ∃ t v, x = .sl (bytesAV xs) xs.length (some (t, v, 1)) ∧ s0.next ≤ t ∧ t < s.next ∧ s.get t = some (.tick 1 v)
theorem Own.bys {s0 s : St} {x : AV} {xs : List UInt8} (h : Own s0 s x xs) : Bys x xs := by
  rcases h with h | ⟨t, v, h, _⟩
  · exact .inl h
  · exact .inr ⟨_, h⟩
theorem Own.ext {s0 s s' : St} {x : AV} {xs : List UInt8} (h : Own s0 s x xs) (e : Ext s s') : Own s0 s' x xs := by
  rcases h with h | ⟨t, v, h, h0, h1, h2⟩
  · exact .inl h
  · exact .inr ⟨t, v, h, h0, Nat.lt_of_lt_of_le h1 e.le, (e.get t h1).trans h2⟩
theorem Own.low {s0 s1 s : St} {x : AV} {xs : List UInt8} (h : Own s1 s x xs) (e : s0.next ≤ s1.next) : Own s0 s x xs := by
  rcases h with h | ⟨t, v, h, h0, h1, h2⟩
  · exact .inl h
  · exact .inr ⟨t, v, h, Nat.le_trans e h0, h1, h2⟩
theorem Own.nil (s0 s : St) : Own s0 s .nils [] := .inl ⟨rfl, rfl⟩
theorem Bys.nil : Bys .nils [] := .inl ⟨rfl, rfl⟩
theorem Bys.mk (xs : List UInt8) (tk) : Bys (.sl (bytesAV xs) xs.length tk) xs := .inr ⟨tk, rfl⟩
section
variable {x : AV} {xs : List UInt8} (h : Bys x xs)
include h
theorem Bys.freeze (s : St) (n : Nat) : Ab.freeze n s x = some (x, s) := by
  rcases h with ⟨rfl, _⟩ | ⟨tk, rfl⟩ <;> rfl
theorem Bys.len : lenV x = some (.int .i64 xs.length) := by
  rcases h with ⟨rfl, rfl⟩ | ⟨tk, rfl⟩ <;> rfl
theorem Bys.str : convP .b2s x = some (.str xs) := by
  rcases h with ⟨rfl, rfl⟩ | ⟨tk, rfl⟩
  · rfl
  · simp [convP, bytesAV_length, toBytes_bytesAV]
theorem Bys.news (s : St) : newsOf 1 s x = some (bytesAV xs, xs.length) := by
  rcases h with ⟨rfl, rfl⟩ | ⟨tk, rfl⟩
  · rfl
  · simp [newsOf, bytesAV_length]
theorem Bys.ixa (i : Nat) (hi : i < xs.length) : ixaV 1 x (.int .i64 i) = some (.rp (bytesAV (xs.drop i))) := by
  rcases h with ⟨rfl, rfl⟩ | ⟨tk, rfl⟩
  · simp at hi
  · have : idx xs.length (.int .i64 i) = some i := by simp [idx]; omega
    simp [ixaV, this, bytesAV, List.map_drop]
theorem Bys.cut (i n : Nat) (h0 : i ≤ n) (hn : n ≤ xs.length) : ∃ y, slcV 1 x (some (.int .i64 i)) (some (.int .i64 n)) = some y ∧ Bys y ((xs.take n).drop i) := by
  rcases h with ⟨rfl, rfl⟩ | ⟨tk, rfl⟩
  · simp at hn; subst hn; simp at h0; subst h0
    exact ⟨.nils, rfl, .inl ⟨rfl, rfl⟩⟩
  · have h1 : bnd xs.length (.int .i64 n) = some n := by simp [bnd]; omega
    have h2 : bnd n (.int .i64 i) = some i := by simp [bnd]; omega
    refine ⟨_, by simp only [slcV, bndO, h1, h2]; rfl, .inr ⟨tkCut 1 n xs.length tk, ?_⟩⟩
    congr 1
    · simp [bytesAV, List.map_drop, List.map_take]
    · simp; omega
theorem Bys.till (n : Nat) (hn : n ≤ xs.length) : ∃ y, slcV 1 x none (some (.int .i64 n)) = some y ∧ Bys y (xs.take n) := by
  obtain ⟨y, h1, h2⟩ := h.cut 0 n (by omega) hn
  refine ⟨y, ?_, by simpa using h2⟩
  rw [← h1]
  rcases h with ⟨rfl, rfl⟩ | ⟨tk, rfl⟩
  · simp at hn; subst hn; rfl
  · have q1 : bnd xs.length (.int .i64 n) = some n := by simp [bnd]; omega
    have q2 : bnd n (.int .i64 0) = some 0 := by simp [bnd]
    simp [slcV, bndO, q1, q2]
theorem Bys.behind (i : Nat) (hn : i ≤ xs.length) : ∃ y, slcV 1 x (some (.int .i64 i)) none = some y ∧ Bys y (xs.drop i) := by
  obtain ⟨y, h1, h2⟩ := h.cut i xs.length hn (Nat.le_refl _)
  refine ⟨y, ?_, by simpa using h2⟩
  rw [← h1]
  rcases h with ⟨rfl, rfl⟩ | ⟨tk, rfl⟩
  · simp at hn; subst hn; rfl
  · have q1 : bnd xs.length (.int .i64 xs.length) = some xs.length := by simp [bnd]
    simp [slcV, bndO, q1]
end
theorem cut_bytes (xs : List UInt8) (i : Nat) (hi : i < xs.length) : Ab.cut (bytesAV (xs.drop i)) 0 none = some (u8v xs[i]) := by
  simp [Ab.cut, bytesAV_get, hi]
theorem fits_small {n : Nat} (h : n ≤ 1000000000) : fits n 1 = true := by simp [fits]; omega
/-- An append to what is one's own. -/
theorem Own.app {s0 s : St} {x y : AV} {xs ys : List UInt8} (h : Own s0 s x xs) (g : Bys y ys) (e : Ext s0 s) (hl : xs.length + ys.length ≤ 1000000000) :
    ∃ z s', appV false 1 1 s x y = some (z, s') ∧ Own s0 s' z (xs ++ ys) ∧ Ext s0 s' := by
  rcases h with ⟨rfl, rfl⟩ | ⟨t, v, rfl, h0, h1, h2⟩
  · by_cases hm : ys.length = 0
    · have : ys = [] := List.length_eq_zero_iff.1 hm
      subst this
      exact ⟨.nils, s, by simp [appV, g.news, appS], .inl ⟨rfl, rfl⟩, e⟩
    · refine ⟨_, _, by simp only [appV, g.news, appS, hm, Bool.false_and, if_false, Bool.false_eq_true]; rw [if_pos (fits_small (by omega))], .inr ⟨s.next, 0, by simp, e.le, by simp [St.new], get_new_eq _ _⟩, e.new _⟩
  · refine ⟨.sl (bytesAV (xs ++ ys)) (xs ++ ys).length (some (t, v + 1, 1)), s.upd t (.tick 1 (v + 1)), ?_, .inr ⟨t, v + 1, rfl, h0, h1, get_upd_eq _ _ h2⟩, e.upd h0 _⟩
    simp only [appV, g.news, appS, h2, Bool.false_and, if_false, Bool.false_eq_true]
    rw [if_pos ⟨trivial, trivial, by simp [bytesAV_length], fits_small (by omega)⟩, bytesAV_append, List.length_append]
/-- A new slice of some bytes. -/
theorem Own.mk (s0 s : St) (e : Ext s0 s) (xs : List UInt8) (cs : List AV) (h : cs = bytesAV xs) (n : Nat) (hn : n = xs.length) : Own s0 (s.new (.tick 1 0)) (.sl cs n (some (s.next, 0, 1))) xs := by
  subst h hn
  exact .inr ⟨s.next, 0, rfl, e.le, by simp [St.new], get_new_eq _ _⟩
end Go.Ab
