/- The rune at the front of a text, as the document reads it, is the model's. No conditions. -/
import Derived.Lib.DecodeN
import Derived.Test.YthcblggiojpmcaaDoorAbS
set_option linter.unusedVariables false
set_option linter.unusedSimpArgs false
set_option maxHeartbeats 4000000
namespace Go.Ab
open Go
/-- the bytes behind the first one -/
def scanR : Nat → Int → List UInt8 → Option Int
  | 0, r, _ => some r
  | _ + 1, _, [] => none
  | k + 1, r, b :: t => if (b.toNat : Int) < 128 ∨ (b.toNat : Int) ≥ 192 then none else scanR k (r * 64 + (b.toNat : Int) - 128) t
def finR (n : Nat) (least : Int) : Option Int → Int × Nat × Bool
  | none => (0, 1, false)
  | some r => if r < least ∨ (55296 ≤ r ∧ r < 57344) ∨ 1114111 < r then (0, 1, false) else (r, n, true)
def rune1 (b : UInt8) (t : List UInt8) : Int × Nat × Bool :=
  if b.toNat < 128 then ((b.toNat : Int), 1, true)
  else if 194 ≤ b.toNat ∧ b.toNat < 224 then finR 2 128 (scanR 1 ((b.toNat : Int) - 192) t)
  else if 224 ≤ b.toNat ∧ b.toNat < 240 then finR 3 2048 (scanR 2 ((b.toNat : Int) - 224) t)
  else if 240 ≤ b.toNat ∧ b.toNat < 245 then finR 4 65536 (scanR 3 ((b.toNat : Int) - 240) t)
  else (0, 1, false)
def decV (d : Nat × Nat) : Int × Nat × Bool := if d.1 = 65533 ∧ d.2 = 1 then (0, 1, false) else ((d.1 : Int), d.2, true)
def decT (b : UInt8) (t : List UInt8) : Nat × Nat := Lib.decodeN (t.length + 1) b.toNat (t.getD 0 0).toNat (t.getD 1 0).toNat (t.getD 2 0).toNat
theorem scan1 (r : Int) : scanR 1 r [] = none := rfl
theorem scan2 (r : Int) : scanR 2 r [] = none := rfl
theorem scan3 (r : Int) : scanR 3 r [] = none := rfl
theorem scan1c (r : Int) (b : UInt8) (t : List UInt8) : scanR 1 r (b :: t) = if (b.toNat : Int) < 128 ∨ (b.toNat : Int) ≥ 192 then none else some (r * 64 + (b.toNat : Int) - 128) := rfl
theorem scan2c (r : Int) (b : UInt8) (t : List UInt8) : scanR 2 r (b :: t) = if (b.toNat : Int) < 128 ∨ (b.toNat : Int) ≥ 192 then none else scanR 1 (r * 64 + (b.toNat : Int) - 128) t := rfl
theorem scan3c (r : Int) (b : UInt8) (t : List UInt8) : scanR 3 r (b :: t) = if (b.toNat : Int) < 128 ∨ (b.toNat : Int) ≥ 192 then none else scanR 2 (r * 64 + (b.toNat : Int) - 128) t := rfl
theorem fin_none (n : Nat) (l : Int) : finR n l none = (0, 1, false) := rfl
theorem fin_no (n : Nat) (l r : Int) (h : r < l ∨ (55296 ≤ r ∧ r < 57344) ∨ 1114111 < r) : finR n l (some r) = (0, 1, false) := if_pos h
theorem fin_ok (n r : Nat) (l r' : Int) (hr : r' = (r : Int)) (h : ¬ (r' < l ∨ (55296 ≤ r' ∧ r' < 57344) ∨ 1114111 < r')) (hn : 1 < n) : finR n l (some r') = decV (r, n) := by
  subst hr
  unfold finR decV
  simp only
  rw [if_neg h, if_neg (by omega)]
theorem dec_bad : decV (65533, 1) = (0, 1, false) := if_pos ⟨rfl, rfl⟩
theorem dec_asc (n : Nat) (h : n < 128) : decV (n, 1) = ((n : Int), 1, true) := if_neg (by simp only; omega)
set_option maxRecDepth 100000 in
theorem rune1_dec (b : UInt8) (t : List UInt8) : rune1 b t = decV (decT b t) := by
  unfold decT
  have hb := b.toNat_lt
  rcases t with _ | ⟨x, _ | ⟨y, _ | ⟨z, u⟩⟩⟩
  · unfold rune1
    simp only [scan1, scan2, scan3, fin_none, List.length_nil, List.getD_nil]
    generalize (0 : UInt8).toNat = z
    generalize b.toNat = n at *
    unfold Lib.decodeN
    rcases (show n < 128 ∨ 128 ≤ n by omega) with h | h
    · rw [if_pos h, if_pos h, dec_asc _ h]
    · rw [if_neg (show ¬ n < 128 by omega), if_neg (show ¬ n < 128 by omega), if_neg (show ¬ (n / 32 = 6 ∧ 1 < 0 + 1 ∧ z / 64 = 2) by omega), if_neg (show ¬ (n / 16 = 14 ∧ (1 < 0 + 1 ∧ z / 64 = 2) ∧ 2 < 0 + 1 ∧ z / 64 = 2) by omega), if_neg (show ¬ (n / 8 = 30 ∧ (1 < 0 + 1 ∧ z / 64 = 2) ∧ (2 < 0 + 1 ∧ z / 64 = 2) ∧ 3 < 0 + 1 ∧ z / 64 = 2) by omega), dec_bad]
      repeat' split
      all_goals rfl
  · unfold rune1
    have hx := x.toNat_lt
    simp only [scan1, scan2, scan3, scan1c, scan2c, scan3c, List.length_nil, List.length_cons, List.getD_cons_zero, List.getD_cons_succ, List.getD_nil]
    generalize b.toNat = n at *
    generalize x.toNat = x at *
    unfold Lib.decodeN
    repeat' split
    all_goals first | (exfalso; omega) | (rw [dec_bad]; done) | (rw [dec_bad, fin_none]; done) | (rw [dec_asc _ (by omega)]; done) | (rw [dec_bad, fin_no _ _ _ (by omega)]; done) | exact fin_ok _ _ _ _ (by omega) (by omega) (by omega)
  · unfold rune1
    have hx := x.toNat_lt
    have hy := y.toNat_lt
    simp only [scan1, scan2, scan3, scan1c, scan2c, scan3c, List.length_nil, List.length_cons, List.getD_cons_zero, List.getD_cons_succ, List.getD_nil]
    generalize b.toNat = n at *
    generalize x.toNat = x at *
    generalize y.toNat = y at *
    unfold Lib.decodeN
    repeat' split
    all_goals first | (exfalso; omega) | (rw [dec_bad]; done) | (rw [dec_bad, fin_none]; done) | (rw [dec_asc _ (by omega)]; done) | (rw [dec_bad, fin_no _ _ _ (by omega)]; done) | exact fin_ok _ _ _ _ (by omega) (by omega) (by omega)
  · unfold rune1
    have hx := x.toNat_lt
    have hy := y.toNat_lt
    have hz := z.toNat_lt
    simp only [scan1, scan2, scan3, scan1c, scan2c, scan3c, List.length_nil, List.length_cons, List.getD_cons_zero, List.getD_cons_succ, List.getD_nil]
    generalize b.toNat = n at *
    generalize x.toNat = x at *
    generalize y.toNat = y at *
    generalize z.toNat = z at *
    generalize u.length = m at *
    unfold Lib.decodeN
    repeat' split
    all_goals first | (exfalso; omega) | (rw [dec_bad]; done) | (rw [dec_bad, fin_none]; done) | (rw [dec_asc _ (by omega)]; done) | (rw [dec_bad, fin_no _ _ _ (by omega)]; done) | exact fin_ok _ _ _ _ (by omega) (by omega) (by omega)
theorem get_drop (l : List UInt8) (p : Nat) : (⟨l.toArray⟩ : ByteArray).get! p = l.getD p 0 := by
  show l.toArray[p]! = _
  rw [List.getElem!_toArray, List.getD_eq_getElem?_getD]
  rcases h : l[p]? with _ | x
  · rw [List.getElem!_eq_getElem?_getD, h]; rfl
  · rw [List.getElem!_eq_getElem?_getD, h]; rfl
theorem dec_drop (l : List UInt8) (p : Nat) (b : UInt8) (t : List UInt8) (h : l.drop p = b :: t) : Utf8.decode ⟨l.toArray⟩ p = decT b t := by
  have hl : p < l.length := by
    refine Nat.lt_of_not_le fun hh => ?_
    rw [List.drop_eq_nil_of_le hh] at h
    cases h
  have hlen : l.length - p = t.length + 1 := by have := congrArg List.length h; simpa using this
  have hg : ∀ k, l.getD (p + k) 0 = (b :: t).getD k 0 := fun k => by
    rw [← h, List.getD_eq_getElem?_getD, List.getD_eq_getElem?_getD, List.getElem?_drop]
  rw [Lib.decode_at, get_drop, get_drop, get_drop, get_drop]
  rw [show (⟨l.toArray⟩ : ByteArray).size = l.length from by simp [ByteArray.size], hlen]
  have h0 := hg 0
  have h1 := hg 1
  have h2 := hg 2
  have h3 := hg 3
  rw [Nat.add_zero] at h0
  rw [h0, h1, h2, h3]
  rfl
end Go.Ab
/- A text as its runes. No conditions. -/
set_option linter.unusedVariables false
set_option linter.unusedSimpArgs false
set_option maxHeartbeats 4000000
namespace Go.Ab
open Go
theorem decN_w (n b0 b1 b2 b3 : Nat) (hn : 1 ≤ n) : 1 ≤ (Lib.decodeN n b0 b1 b2 b3).2 ∧ (Lib.decodeN n b0 b1 b2 b3).2 ≤ n := by
  unfold Lib.decodeN
  repeat' split
  all_goals (simp only; omega)
theorem decN_pre {n b0 b1 b2 b3 : Nat} (r w : Nat) (n' c1 c2 c3 : Nat) (h : Lib.decodeN n b0 b1 b2 b3 = (r, w)) (hg : ¬ (r = 65533 ∧ w = 1)) (hn : w ≤ n') (h1 : 1 < w → c1 = b1) (h2 : 2 < w → c2 = b2) (h3 : 3 < w → c3 = b3) :
    Lib.decodeN n' b0 c1 c2 c3 = (r, w) := by
  unfold Lib.decodeN at h
  repeat' split at h
  all_goals (simp only [Prod.mk.injEq] at h; obtain ⟨rfl, rfl⟩ := h)
  all_goals first | (exfalso; omega) | skip
  all_goals
    unfold Lib.decodeN
    first | (have e1 := h1 (by omega); subst e1) | skip
    first | (have e2 := h2 (by omega); subst e2) | skip
    first | (have e3 := h3 (by omega); subst e3) | skip
    repeat' split
  all_goals first | (exfalso; omega) | rfl
theorem decN_cut {n b0 b1 b2 b3 : Nat} (r w : Nat) (n' c1 c2 c3 : Nat) (h : Lib.decodeN n b0 b1 b2 b3 = (r, w)) (hg : ¬ (r = 65533 ∧ w = 1)) (h0 : 1 ≤ n') (hn : n' < w) :
    Lib.decodeN n' b0 c1 c2 c3 = (65533, 1) := by
  unfold Lib.decodeN at h
  repeat' split at h
  all_goals (simp only [Prod.mk.injEq] at h; obtain ⟨rfl, rfl⟩ := h)
  all_goals first | (exfalso; omega) | skip
  all_goals
    unfold Lib.decodeN
    repeat' split
  all_goals first | (exfalso; omega) | rfl
def bad (d : Nat × Nat) : Prop := d.1 = 65533 ∧ d.2 = 1
instance decBad (d : Nat × Nat) : Decidable (bad d) := inferInstanceAs (Decidable (_ ∧ _))
theorem dec_w (b : UInt8) (t : List UInt8) : 1 ≤ (decT b t).2 ∧ (decT b t).2 ≤ t.length + 1 := decN_w _ _ _ _ _ (by omega)
theorem getD_take (l u : List UInt8) (k i : Nat) (hi : i < k) (h : u.take k = l.take k) : u.getD i 0 = l.getD i 0 := by
  have := congrArg (·[i]?) h
  simp only [List.getElem?_take, hi, if_true] at this
  rw [List.getD_eq_getElem?_getD, List.getD_eq_getElem?_getD, this]
theorem dec_pre (b : UInt8) (t u : List UInt8) (hg : ¬ bad (decT b t)) (hl : (decT b t).2 ≤ u.length + 1) (h : u.take ((decT b t).2 - 1) = t.take ((decT b t).2 - 1)) : decT b u = decT b t := by
  have e : Lib.decodeN (t.length + 1) b.toNat (t.getD 0 0).toNat (t.getD 1 0).toNat (t.getD 2 0).toNat = ((decT b t).1, (decT b t).2) := rfl
  exact decN_pre (decT b t).1 (decT b t).2 (u.length + 1) (u.getD 0 0).toNat (u.getD 1 0).toNat (u.getD 2 0).toNat e hg hl
    (fun hw => by rw [getD_take t u ((decT b t).2 - 1) 0 (by omega) h]) (fun hw => by rw [getD_take t u ((decT b t).2 - 1) 1 (by omega) h]) (fun hw => by rw [getD_take t u ((decT b t).2 - 1) 2 (by omega) h])
theorem dec_cut (b : UInt8) (t u : List UInt8) (hg : ¬ bad (decT b t)) (hl : u.length + 1 < (decT b t).2) : decT b u = (65533, 1) := by
  have e : Lib.decodeN (t.length + 1) b.toNat (t.getD 0 0).toNat (t.getD 1 0).toNat (t.getD 2 0).toNat = ((decT b t).1, (decT b t).2) := rfl
  exact decN_cut (decT b t).1 (decT b t).2 (u.length + 1) (u.getD 0 0).toNat (u.getD 1 0).toNat (u.getD 2 0).toNat e hg (by omega) hl
def R1 : Nat → List UInt8 → List (Nat × Nat)
  | 0, _ => []
  | _ + 1, [] => []
  | f + 1, b :: t => decT b t :: R1 f ((b :: t).drop (decT b t).2)
theorem R1_fuel : ∀ (f g : Nat) (l : List UInt8), l.length ≤ f → l.length ≤ g → R1 f l = R1 g l := by
  intro f
  induction f with
  | zero =>
    intro g l hf hg
    obtain rfl : l = [] := by cases l with
      | nil => rfl
      | cons b t => simp at hf
    cases g <;> rfl
  | succ f ih =>
    intro g l hf hg
    cases l with
    | nil => cases g <;> rfl
    | cons b t =>
      cases g with
      | zero => simp at hg
      | succ g =>
        have hw := dec_w b t
        show _ :: R1 f _ = _ :: R1 g _
        rw [ih g ((b :: t).drop (decT b t).2) (by simp at hf ⊢; omega) (by simp at hg ⊢; omega)]
def rns (l : List UInt8) : List (Nat × Nat) := R1 l.length l
theorem rns_nil : rns [] = [] := rfl
theorem rns_cons (b : UInt8) (t : List UInt8) : rns (b :: t) = decT b t :: rns ((b :: t).drop (decT b t).2) := by
  show _ :: R1 t.length _ = _ :: R1 _ _
  have hw := dec_w b t
  rw [R1_fuel t.length ((b :: t).drop (decT b t).2).length _ (by simp; omega) (Nat.le_refl _)]
theorem rns_len (l : List UInt8) : (rns l).length ≤ l.length := by
  suffices h : ∀ f (l : List UInt8), (R1 f l).length ≤ f from h _ _
  intro f
  induction f with
  | zero => intro l; simp [R1]
  | succ f ih => intro l; cases l with
    | nil => simp [R1]
    | cons b t => simp only [R1, List.length_cons]; have := ih ((b :: t).drop (decT b t).2); omega
theorem dec_ascii (b : UInt8) (t : List UInt8) (h : b.toNat < 128) : decT b t = (b.toNat, 1) := by
  unfold decT Lib.decodeN
  rw [if_pos h]
end Go.Ab
