/- A frame of which one byte was turned on the air: plain laws. No conditions. -/
import Derived.Test.YtghfinbdgnggjaaPRx
import Derived.Test.YtghfinbdgnggjaaPCrc
set_option linter.unusedSimpArgs false
namespace Go.Proofs.Ytghfinbdgnggjaa
open Go Go.Ab
theorem crcFold_set (c : BitVec 16) (xs : List UInt8) (j : Nat) (u x : UInt8) (hu : xs[j]? = some u) : crcFold c (xs.set j (u ^^^ x)) = crcFold c xs ^^^ rnI (8 * (xs.length - j)) (x.toBitVec.setWidth 16) := by
  induction xs generalizing c j with
  | nil => simp at hu
  | cons y xs ih =>
    cases j with
    | zero =>
      simp at hu
      subst hu
      show crcFold (crcAdd c (y ^^^ x)) xs = crcFold (crcAdd c y) xs ^^^ _
      have : crcAdd c (y ^^^ x) = crcAdd c y ^^^ rnI 8 (x.toBitVec.setWidth 16) := by
        unfold crcAdd
        rw [UInt8.toBitVec_xor, BitVec.setWidth_xor, ← BitVec.xor_assoc, rnI_xor]
      rw [this, crcFold_xor, ← rnI_add, List.length_cons]
      congr 2
    | succ j =>
      show crcFold (crcAdd c y) (xs.set j (u ^^^ x)) = crcFold (crcAdd c y) xs ^^^ _
      rw [ih _ _ (by simpa using hu), List.length_cons]
      congr 2; omega
theorem fine_set (p : List UInt8) (hp : crcFine p = true) (j : Nat) (u x : UInt8) (hu : p[j]? = some u) (hx : x ≠ 0) : crcFine (p.set j (u ^^^ x)) = false := by
  cases hf : crcFine (p.set j (u ^^^ x)) with
  | false => rfl
  | true =>
    exfalso
    have h1 := crcFold_fine _ hf
    rw [crcFold_set _ _ _ _ _ hu, crcFold_fine _ hp] at h1
    have h2 := rnI_inj0 _ _ (xor_keep h1)
    apply hx
    apply UInt8.toNat_inj.1
    have := congrArg BitVec.toNat h2
    simp at this
    have h3 := x.toNat_lt
    simp
    omega
theorem xor_back (c x : UInt8) : c ^^^ 32 ^^^ x ^^^ 32 = c ^^^ x := by
  rw [UInt8.xor_assoc c, UInt8.xor_comm 32 x, ← UInt8.xor_assoc c, UInt8.xor_assoc, UInt8.xor_self, UInt8.xor_zero]
/-- One byte of what was escaped is turned. -/
theorem rx_turned (m : Nat) (p : List UInt8) (b : List UInt8) (fs : List (List UInt8)) (k : Nat) (v x : UInt8) (hv : (esc p)[k]? = some v) (n1 : v ≠ 125)
    (n2 : v ^^^ x ≠ 192) (n3 : v ^^^ x ≠ 193) (n4 : v ^^^ x ≠ 125) (h : b.length + p.length ≤ m + 2) :
    ∃ j u, p[j]? = some u ∧ ((esc p).set k (v ^^^ x)).foldl rxStep (⟨m, b, true, false⟩, fs) = (⟨m, b ++ p.set j (u ^^^ x), true, false⟩, fs) := by
  have q1 : (v ^^^ x == 192) = false := beq_eq_false_iff_ne.2 n2
  have q2 : (v ^^^ x == 193) = false := beq_eq_false_iff_ne.2 n3
  have q3 : (v ^^^ x == 125) = false := beq_eq_false_iff_ne.2 n4
  induction p generalizing b k with
  | nil => simp [esc] at hv
  | cons c p ih =>
    have he : esc (c :: p) = escB c ++ esc p := by simp [esc]
    simp only [List.length_cons] at h
    have ho : ¬ b.length + 1 > m + 2 := by omega
    rw [he] at hv ⊢
    by_cases hk : k < (escB c).length
    · rw [List.getElem?_append_left hk] at hv
      rw [List.set_append_left _ _ hk, List.foldl_append]
      have fin : ∀ l : List UInt8, l.foldl rxStep (⟨m, b, true, false⟩, fs) = (⟨m, b ++ [c ^^^ x], true, false⟩, fs) →
          ∃ j u, (c :: p)[j]? = some u ∧ (esc p).foldl rxStep (l.foldl rxStep (⟨m, b, true, false⟩, fs)) = (⟨m, b ++ (c :: p).set j (u ^^^ x), true, false⟩, fs) := by
        intro l hl
        refine ⟨0, c, rfl, ?_⟩
        rw [hl, rx_esc _ _ _ _ (by simp; omega)]
        simp
      unfold escB at hv hk ⊢
      split at hv
      · rename_i hc
        rw [if_pos hc] at hk ⊢
        match k, hk with
        | 0, _ => simp at hv; exact absurd hv.symm n1
        | 1, _ =>
          simp at hv
          subst hv
          apply fin
          have e1 : rxStep (⟨m, b, true, false⟩, fs) 125 = (⟨m, b, true, true⟩, fs) := rfl
          simp only [List.set_cons_succ, List.set_cons_zero, List.foldl_cons, List.foldl_nil]
          rw [e1]
          unfold rxStep rxPut
          simp [q1, q2, rxMore, ho, xor_back]
      · rename_i hc
        rw [if_neg hc] at hk ⊢
        match k, hk with
        | 0, _ =>
          simp at hv
          subst hv
          apply fin
          simp only [List.set_cons_zero, List.foldl_cons, List.foldl_nil]
          unfold rxStep rxPut
          simp [q1, q2, q3, rxMore, ho]
    · have hk' : (escB c).length ≤ k := by omega
      rw [List.getElem?_append_right hk'] at hv
      rw [List.set_append_right _ _ hk', List.foldl_append, rx_escB _ _ _ _ (by omega)]
      obtain ⟨j, u, g1, g2⟩ := ih (b ++ [c]) (k - (escB c).length) hv (by simp; omega)
      refine ⟨j + 1, u, by simpa using g1, ?_⟩
      rw [g2]
      simp
theorem wrap0 (b : List UInt8) : wrapB b 0 = 192 :: (esc (crcPut b) ++ [193]) := by
  have : ahead 0 = 0 := rfl
  simp [wrapB, this]
/-- It is not found. -/
theorem rx_turn_none (b : List UInt8) (hb : b.length ≤ 60) (k : Nat) (v x : UInt8) (hx : x ≠ 0) (hv : (wrapB b 0)[k]? = some v) (n5 : v ≠ 192) (n6 : v ≠ 193) (n1 : v ≠ 125)
    (n2 : v ^^^ x ≠ 192) (n3 : v ^^^ x ≠ 193) (n4 : v ^^^ x ≠ 125) : rxAll 100 ((wrapB b 0).set k (v ^^^ x)) = [] := by
  rw [wrap0] at hv ⊢
  cases k with
  | zero => simp at hv; exact absurd hv.symm n5
  | succ k =>
    simp only [List.getElem?_cons_succ] at hv
    by_cases hk : k < (esc (crcPut b)).length
    · rw [List.getElem?_append_left hk] at hv
      rw [List.set_cons_succ, List.set_append_left _ _ hk]
      obtain ⟨j, u, g1, g2⟩ := rx_turned 100 (crcPut b) [] [] k v x hv n1 n2 n3 n4 (by rw [crcPut_length]; simp; omega)
      unfold rxAll rxRun
      rw [List.foldl_cons, rx_begin, List.foldl_append]
      have : (rxNew 100).most = 100 := rfl
      rw [this, g2, List.foldl_cons, List.foldl_nil, List.nil_append, rx_end, fine_set _ (crcFine_put b) _ _ _ g1 hx]
      simp
    · have : k = (esc (crcPut b)).length := by
        have := (List.getElem?_eq_some_iff.1 hv).1
        simp at this
        omega
      subst this
      simp at hv
      exact absurd hv.symm n6
theorem rx_wrap_len (b : List UInt8) (hb : b.length ≤ 60) : (rxAll 100 (wrapB b 0)).length = if 0 < b.length then 1 else 0 := by
  unfold rxAll rxRun
  obtain ⟨r, h1, _, _⟩ := rx_wrapB (rxNew 100, []) b 0 (by show b.length ≤ 100; omega)
  rw [h1]
  by_cases h : b = []
  · subst h; rfl
  · rw [if_neg h, if_pos (List.length_pos_iff.2 h)]; rfl
end Go.Proofs.Ytghfinbdgnggjaa
