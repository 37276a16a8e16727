/- A frame as long as may be, and one byte more: plain laws. No conditions. -/
import Derived.Test.YtghfinbdgnggjaaPRx
set_option linter.unusedSimpArgs false
namespace Go.Proofs.Ytghfinbdgnggjaa
open Go Go.Ab
theorem tmodP (n d : Int) (hd : 0 < d) : -d < n.tmod d := by
  rcases Int.le_total 0 n with h | h
  · have := Int.tmod_nonneg d h; omega
  · have := Int.tmod_lt_of_pos (-n) hd
    rw [Int.neg_tmod] at this
    omega
/-- What is counted: frames that ended, the last error. -/
abbrev CntSt := RxS × Nat × Nat
def cntStep (st : CntSt) (x : UInt8) : CntSt :=
  ((rxPut st.1 x).1, if (rxPut st.1 x).2.2.2 then st.2.1 + 1 else st.2.1, if (rxPut st.1 x).2.2.2 && (rxPut st.1 x).2.2.1 != 0 then (rxPut st.1 x).2.2.1 else st.2.2)
theorem cnt_begin (st : CntSt) : cntStep st 192 = (⟨st.1.most, [], true, false⟩, st.2.1, st.2.2) := by
  unfold cntStep rxPut
  rfl
theorem cnt_escB (m : Nat) (b : List UInt8) (g w : Nat) (x : UInt8) (h : b.length + 1 ≤ m + 2) :
    (escB x).foldl cntStep (⟨m, b, true, false⟩, g, w) = (⟨m, b ++ [x], true, false⟩, g, w) := by
  have ho : ¬ b.length + 1 > m + 2 := by omega
  unfold escB
  split
  · rename_i hc
    have hx : x ^^^ 32 ≠ 192 ∧ x ^^^ 32 ≠ 193 ∧ x ^^^ 32 ^^^ 32 = x := by
      simp only [Bool.or_eq_true, beq_iff_eq] at hc
      rcases hc with (rfl | rfl) | rfl <;> decide
    have h1 : (x ^^^ 32 == 192) = false := beq_eq_false_iff_ne.2 hx.1
    have h2 : (x ^^^ 32 == 193) = false := beq_eq_false_iff_ne.2 hx.2.1
    have e1 : cntStep (⟨m, b, true, false⟩, g, w) 125 = (⟨m, b, true, true⟩, g, w) := rfl
    rw [List.foldl_cons, List.foldl_cons, List.foldl_nil, e1]
    unfold cntStep rxPut
    simp [h1, h2, rxMore, ho, hx.2.2]
  · rename_i hc
    simp only [Bool.or_eq_true, beq_iff_eq, not_or] at hc
    have h1 : (x == 192) = false := beq_eq_false_iff_ne.2 hc.1.1
    have h2 : (x == 193) = false := beq_eq_false_iff_ne.2 hc.1.2
    have h3 : (x == 125) = false := beq_eq_false_iff_ne.2 hc.2
    rw [List.foldl_cons, List.foldl_nil]
    unfold cntStep rxPut
    simp [h1, h2, h3, rxMore, ho]
theorem cnt_over (m : Nat) (b : List UInt8) (g w : Nat) (x : UInt8) (h : b.length = m + 2) :
    (escB x).foldl cntStep (⟨m, b, true, false⟩, g, w) = (⟨m, [], false, false⟩, g + 1, 7) := by
  have ho : b.length + 1 > m + 2 := by omega
  unfold escB
  split
  · rename_i hc
    have hx : x ^^^ 32 ≠ 192 ∧ x ^^^ 32 ≠ 193 := by
      simp only [Bool.or_eq_true, beq_iff_eq] at hc
      rcases hc with (rfl | rfl) | rfl <;> decide
    have h1 : (x ^^^ 32 == 192) = false := beq_eq_false_iff_ne.2 hx.1
    have h2 : (x ^^^ 32 == 193) = false := beq_eq_false_iff_ne.2 hx.2
    have e1 : cntStep (⟨m, b, true, false⟩, g, w) 125 = (⟨m, b, true, true⟩, g, w) := rfl
    rw [List.foldl_cons, List.foldl_cons, List.foldl_nil, e1]
    unfold cntStep rxPut
    simp [h1, h2, rxMore, ho]
  · rename_i hc
    simp only [Bool.or_eq_true, beq_iff_eq, not_or] at hc
    have h1 : (x == 192) = false := beq_eq_false_iff_ne.2 hc.1.1
    have h2 : (x == 193) = false := beq_eq_false_iff_ne.2 hc.1.2
    have h3 : (x == 125) = false := beq_eq_false_iff_ne.2 hc.2
    rw [List.foldl_cons, List.foldl_nil]
    unfold cntStep rxPut
    simp [h1, h2, h3, rxMore, ho]
theorem cnt_esc (m : Nat) (p : List UInt8) (b : List UInt8) (g w : Nat) (h : b.length + p.length ≤ m + 2) :
    (esc p).foldl cntStep (⟨m, b, true, false⟩, g, w) = (⟨m, b ++ p, true, false⟩, g, w) := by
  induction p generalizing b with
  | nil => simp [esc]
  | cons x p ih =>
    have : esc (x :: p) = escB x ++ esc p := by simp [esc]
    rw [this, List.foldl_append, cnt_escB m b g w x (by simp at h; omega), ih _ (by simp at h ⊢; omega)]
    simp
theorem cnt_idle (xs : List UInt8) (m : Nat) (g w : Nat) (h : ∀ x ∈ xs, x ≠ 192) : xs.foldl cntStep (⟨m, [], false, false⟩, g, w) = (⟨m, [], false, false⟩, g, w) := by
  induction xs with
  | nil => rfl
  | cons x xs ih =>
    have h1 : (x == 192) = false := beq_eq_false_iff_ne.2 (h x (by simp))
    have : cntStep (⟨m, [], false, false⟩, g, w) x = (⟨m, [], false, false⟩, g, w) := by
      unfold cntStep rxPut
      simp [h1]
    rw [List.foldl_cons, this, ih (fun y hy => h y (by simp [hy]))]
theorem cnt_end (m : Nat) (p : List UInt8) (g w : Nat) (h1 : 2 < p.length) (h2 : crcFine p = true) :
    cntStep (⟨m, p, true, false⟩, g, w) 193 = (⟨m, [], false, false⟩, g + 1, w) := by
  have h3 : ¬ p.length ≤ 2 := by omega
  unfold cntStep rxPut rxShut rxEnds
  simp [h2, h3]
theorem cnt_good (m : Nat) (b : List UInt8) (e : Int) (g w : Nat) (h0 : 0 < b.length) (h : b.length ≤ m) :
    (wrapB b e).foldl cntStep (⟨m, [], false, false⟩, g, w) = (⟨m, [], false, false⟩, g + 1, w) := by
  unfold wrapB
  simp only [List.foldl_append, List.foldl_cons, List.foldl_nil]
  rw [cnt_idle _ _ _ _ (fun x hx => by have := List.eq_of_mem_replicate hx; subst this; decide), cnt_begin, cnt_esc _ _ _ _ _ (by rw [crcPut_length]; simp; omega), List.nil_append, cnt_end _ _ _ _ (by rw [crcPut_length]; omega) (crcFine_put b)]
theorem cnt_long (m : Nat) (b : List UInt8) (g w : Nat) (h : m < b.length) :
    (wrapB b 0).foldl cntStep (⟨m, [], false, false⟩, g, w) = (⟨m, [], false, false⟩, g + 1, 7) := by
  have hl := crcPut_length b
  have hsp : crcPut b = (crcPut b).take (m + 2) ++ ((crcPut b)[m + 2]'(by omega) :: (crcPut b).drop (m + 3)) := by
    rw [← List.drop_eq_getElem_cons, List.take_append_drop]
  have he : esc (crcPut b) = esc ((crcPut b).take (m + 2)) ++ (escB ((crcPut b)[m + 2]'(by omega)) ++ esc ((crcPut b).drop (m + 3))) :=
    (congrArg esc hsp).trans (by simp only [esc, List.flatMap_append, List.flatMap_cons])
  unfold wrapB
  have ha : ahead 0 = 0 := rfl
  rw [ha, he]
  simp only [List.replicate_zero, List.foldl_append, List.foldl_cons, List.foldl_nil]
  rw [cnt_begin, cnt_esc _ _ _ _ _ (by simp; omega), List.nil_append, cnt_over _ _ _ _ _ (by simp; omega), cnt_idle _ _ _ _ (fun x hx => (esc_mem _ _ hx).1)]
  rfl
/-- Both frames are told; the first one's length says how. -/
theorem cnt_both (m : Nat) (b : List UInt8) (h0 : 0 < b.length) (hm : 1 ≤ m) :
    (wrapB b 0 ++ wrapB [1] 2).foldl cntStep (⟨m, [], false, false⟩, 0, 0) = (⟨m, [], false, false⟩, 2, if b.length ≤ m then 0 else 7) := by
  rw [List.foldl_append]
  by_cases h : b.length ≤ m
  · rw [cnt_good _ _ _ _ _ h0 h, cnt_good _ _ _ _ _ (by simp) (by simpa using hm), if_pos h]
  · rw [cnt_long _ _ _ _ (by omega), cnt_good _ _ _ _ _ (by simp) (by simpa using hm), if_neg h]
theorem cntStep_inv (st : CntSt) (x : UInt8) (h : st.1.b.length ≤ st.1.most + 2) : (cntStep st x).1.b.length ≤ (cntStep st x).1.most + 2 ∧ (cntStep st x).1.most = st.1.most := rxPut_inv st.1 x h
theorem cntFold_inv (xs : List UInt8) (st : CntSt) (h : st.1.b.length ≤ st.1.most + 2) : (xs.foldl cntStep st).1.b.length ≤ (xs.foldl cntStep st).1.most + 2 ∧ (xs.foldl cntStep st).1.most = st.1.most := by
  induction xs generalizing st with
  | nil => exact ⟨h, rfl⟩
  | cons x xs ih =>
    obtain ⟨q1, q2⟩ := cntStep_inv st x h
    obtain ⟨w1, w2⟩ := ih (cntStep st x) q1
    exact ⟨w1, w2.trans q2⟩
theorem cntFold_le (xs : List UInt8) (st : CntSt) : (xs.foldl cntStep st).2.1 ≤ st.2.1 + xs.length := by
  induction xs generalizing st with
  | nil => simp
  | cons x xs ih =>
    have h1 := ih (cntStep st x)
    have h2 : (cntStep st x).2.1 ≤ st.2.1 + 1 := by unfold cntStep; dsimp only; split <;> omega
    rw [List.foldl_cons, List.length_cons]
    omega
end Go.Proofs.Ytghfinbdgnggjaa
