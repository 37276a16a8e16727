/- The highest and the lowest bit: what they say of a number. No conditions. -/
import Derived.Test.YtbeimfhodgmjhaaDoorP8a
namespace Go.Proofs.YtbeimfhodgmjhaaDoor
theorem hiW_spec (m : Nat) : ∀ k, m < 2 ^ k → (m = 0 ∧ hiW m k = -1) ∨ ∃ h : Nat, h < k ∧ hiW m k = (h : Int) ∧ 2 ^ h ≤ m ∧ m < 2 ^ (h + 1) := by
  intro k
  induction k with
  | zero => intro h; left; exact ⟨by simpa using h, rfl⟩
  | succ k ih =>
    intro h
    unfold hiW
    by_cases g : m < 2 ^ k
    · rw [Nat.testBit_lt_two_pow g, if_neg (by decide)]
      rcases ih g with h1 | ⟨j, h1, h2⟩
      · exact .inl h1
      · exact .inr ⟨j, by omega, h2⟩
    · have : m.testBit k = true := Nat.testBit_of_two_pow_le_and_two_pow_add_one_gt (by omega) h
      rw [this, if_pos rfl]
      exact .inr ⟨k, by omega, rfl, by omega, h⟩
theorem loW_spec (m : Nat) (hm : m < 65536) (h0 : 0 < m) : ∃ l : Nat, l < 16 ∧ loW m 16 0 = (l : Int) ∧ m % 2 ^ (l + 1) = 2 ^ l := by
  have h := all16_of tz_chk m hm
  rw [Bool.or_eq_true, Bool.and_eq_true] at h
  rcases h with h | ⟨h1, h2⟩
  · have := Nat.eq_of_beq_eq_true h; omega
  · have h3 := Nat.eq_of_beq_eq_true h1
    have h4 := Nat.le_of_ble_eq_true h2
    exact ⟨tzK m, by omega, loW_of m _ h3 16 0 (by omega) (by omega), h3⟩
theorem bits_law (m : Nat) (hm : m < 65536) (h0 : 0 < m) : ∃ h l : Nat, h < 16 ∧ l ≤ h ∧ hiW m 16 = (h : Int) ∧ loW m 16 0 = (l : Int) ∧ m / 2 ^ h = 1 ∧ m / 2 ^ l % 2 = 1 ∧ m % 2 ^ l = 0 := by
  rcases hiW_spec m 16 (by omega) with ⟨h1, _⟩ | ⟨h, h1, h2, h3, h4⟩
  · omega
  · obtain ⟨l, g1, g2, g3⟩ := loW_spec m hm h0
    have e := Nat.div_add_mod m (2 ^ (l + 1))
    have p : 2 ^ (l + 1) = 2 ^ l * 2 := Nat.pow_succ ..
    have pl : 0 < 2 ^ l := Nat.pow_pos (by omega)
    have ph : 0 < 2 ^ h := Nat.pow_pos (by omega)
    have hle : 2 ^ l ≤ m := by have := Nat.mod_le m (2 ^ (l + 1)); omega
    refine ⟨h, l, h1, ?_, h2, g2, ?_, ?_, ?_⟩
    · have : 2 ^ l < 2 ^ (h + 1) := Nat.lt_of_le_of_lt hle h4
      have := (Nat.pow_lt_pow_iff_right (by omega : 1 < 2)).1 this
      omega
    · exact Nat.div_eq_of_lt_le (by omega) (by rw [Nat.pow_succ] at h4; omega)
    · have : m = 2 ^ l * (2 * (m / 2 ^ (l + 1)) + 1) := by
        rw [Nat.mul_add, ← Nat.mul_assoc, ← p]; omega
      have hd : m / 2 ^ l = 2 * (m / 2 ^ (l + 1)) + 1 := by
        conv => lhs; rw [this]
        exact Nat.mul_div_cancel_left _ pl
      omega
    · have : m = 2 ^ l * (2 * (m / 2 ^ (l + 1)) + 1) := by
        rw [Nat.mul_add, ← Nat.mul_assoc, ← p]; omega
      rw [this]
      exact Nat.mul_mod_right ..
end Go.Proofs.YtbeimfhodgmjhaaDoor
