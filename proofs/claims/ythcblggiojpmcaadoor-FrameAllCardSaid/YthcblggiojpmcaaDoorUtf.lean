/- What is written as UTF-8 is read again. No conditions. -/
import Derived.Test.YthcblggiojpmcaaDoorAb0
set_option linter.unusedSimpArgs false
namespace Go.Ab
open Go
/-- The rune that a rune is written as. -/
def runeOf (r : Int) : Nat := if Utf8.valid r = true then r.toNat else 65533
theorem runeOf_valid (r : Int) : runeOf r < 55296 ∨ (57344 ≤ runeOf r ∧ runeOf r ≤ 1114111) := by
  unfold runeOf
  split
  · rename_i h
    simp only [Utf8.valid, Bool.or_eq_true, Bool.and_eq_true, decide_eq_true_eq] at h
    omega
  · omega
theorem valid_rune (c : Nat) (h : c < 55296 ∨ (57344 ≤ c ∧ c ≤ 1114111)) : Utf8.valid (c : Int) = true := by
  simp only [Utf8.valid, Bool.or_eq_true, Bool.and_eq_true, decide_eq_true_eq]
  omega
theorem dec_enc (r : Int) : Utf8.decode (Utf8.encode r) 0 = (runeOf r, (Utf8.encode r).size) := by
  have hv := runeOf_valid r
  have he : Utf8.encode r = (if runeOf r < 0x80 then ⟨#[UInt8.ofNat (runeOf r)]⟩
    else if runeOf r < 0x800 then ⟨#[UInt8.ofNat (0xC0 + runeOf r / 64), UInt8.ofNat (0x80 + runeOf r % 64)]⟩
    else if runeOf r < 0x10000 then ⟨#[UInt8.ofNat (0xE0 + runeOf r / 4096), UInt8.ofNat (0x80 + runeOf r / 64 % 64), UInt8.ofNat (0x80 + runeOf r % 64)]⟩
    else ⟨#[UInt8.ofNat (0xF0 + runeOf r / 262144), UInt8.ofNat (0x80 + runeOf r / 4096 % 64), UInt8.ofNat (0x80 + runeOf r / 64 % 64), UInt8.ofNat (0x80 + runeOf r % 64)]⟩) := rfl
  rw [he]
  generalize runeOf r = c at hv
  have un : ∀ n, n < 256 → (UInt8.ofNat n).toNat = n := fun n hn => by simp [UInt8.toNat_ofNat']; omega
  have g10 : ∀ a : UInt8, (⟨#[a]⟩ : ByteArray).get! (0 + 0) = a := fun a => rfl
  have g20 : ∀ a b : UInt8, (⟨#[a, b]⟩ : ByteArray).get! (0 + 0) = a := fun a b => rfl
  have g21 : ∀ a b : UInt8, (⟨#[a, b]⟩ : ByteArray).get! (0 + 1) = b := fun a b => rfl
  have g30 : ∀ a b d : UInt8, (⟨#[a, b, d]⟩ : ByteArray).get! (0 + 0) = a := fun a b d => rfl
  have g31 : ∀ a b d : UInt8, (⟨#[a, b, d]⟩ : ByteArray).get! (0 + 1) = b := fun a b d => rfl
  have g32 : ∀ a b d : UInt8, (⟨#[a, b, d]⟩ : ByteArray).get! (0 + 2) = d := fun a b d => rfl
  have g40 : ∀ a b d e : UInt8, (⟨#[a, b, d, e]⟩ : ByteArray).get! (0 + 0) = a := fun a b d e => rfl
  have g41 : ∀ a b d e : UInt8, (⟨#[a, b, d, e]⟩ : ByteArray).get! (0 + 1) = b := fun a b d e => rfl
  have g42 : ∀ a b d e : UInt8, (⟨#[a, b, d, e]⟩ : ByteArray).get! (0 + 2) = d := fun a b d e => rfl
  have g43 : ∀ a b d e : UInt8, (⟨#[a, b, d, e]⟩ : ByteArray).get! (0 + 3) = e := fun a b d e => rfl
  have s1 : ∀ a : UInt8, (⟨#[a]⟩ : ByteArray).size = 1 := fun a => rfl
  have s2 : ∀ a b : UInt8, (⟨#[a, b]⟩ : ByteArray).size = 2 := fun a b => rfl
  have s3 : ∀ a b d : UInt8, (⟨#[a, b, d]⟩ : ByteArray).size = 3 := fun a b d => rfl
  have s4 : ∀ a b d e : UInt8, (⟨#[a, b, d, e]⟩ : ByteArray).size = 4 := fun a b d e => rfl
  by_cases h1 : c < 0x80
  · rw [if_pos h1]
    unfold Utf8.decode
    simp only [g10, s1, un c (by omega), h1, if_true]
  by_cases h2 : c < 0x800
  · rw [if_neg h1, if_pos h2]
    have u0 := un (0xC0 + c / 64) (by omega)
    have u1 := un (0x80 + c % 64) (by omega)
    unfold Utf8.decode
    simp only [g20, g21, s2, u0, u1]
    have a1 : ¬ (0xC0 + c / 64 < 0x80) := by omega
    have a2 : ((0xC0 + c / 64) / 32 == 6) = true := by rw [beq_iff_eq]; omega
    have a3 : ((0x80 + c % 64) / 64 == 2) = true := by rw [beq_iff_eq]; omega
    have a4 : (0xC0 + c / 64) % 32 * 64 + (0x80 + c % 64) % 64 = c := by omega
    have d1 : decide (0 + 1 < 2) = true := rfl
    have a6 : (c ≥ 0x80) = True := eq_true (by omega)
    simp only [a1, a2, a3, a4, a6, d1, if_false, if_true, Bool.true_and, Bool.and_true, Bool.and_self]
  by_cases h3 : c < 0x10000
  · rw [if_neg h1, if_neg h2, if_pos h3]
    have u0 := un (0xE0 + c / 4096) (by omega)
    have u1 := un (0x80 + c / 64 % 64) (by omega)
    have u2 := un (0x80 + c % 64) (by omega)
    unfold Utf8.decode
    simp only [g30, g31, g32, s3, u0, u1, u2]
    have a1 : ¬ (0xE0 + c / 4096 < 0x80) := by omega
    have a2 : ((0xE0 + c / 4096) / 32 == 6) = false := by rw [beq_eq_false_iff_ne]; omega
    have a2' : ((0xE0 + c / 4096) / 16 == 14) = true := by rw [beq_iff_eq]; omega
    have a3 : ((0x80 + c / 64 % 64) / 64 == 2) = true := by rw [beq_iff_eq]; omega
    have a3' : ((0x80 + c % 64) / 64 == 2) = true := by rw [beq_iff_eq]; omega
    have a4 : (0xE0 + c / 4096) % 16 * 4096 + (0x80 + c / 64 % 64) % 64 * 64 + (0x80 + c % 64) % 64 = c := by omega
    have a5 := valid_rune c hv
    have d1 : decide (0 + 1 < 3) = true := rfl
    have d2 : decide (0 + 2 < 3) = true := rfl
    have a6 : decide (c ≥ 0x800) = true := decide_eq_true (by omega)
    simp only [a1, a2, a2', a3, a3', a4, a5, a6, d1, d2, if_false, if_true, Bool.true_and, Bool.and_true, Bool.and_self, Bool.false_and, Bool.false_eq_true]
  · rw [if_neg h1, if_neg h2, if_neg h3]
    have u0 := un (0xF0 + c / 262144) (by omega)
    have u1 := un (0x80 + c / 4096 % 64) (by omega)
    have u2 := un (0x80 + c / 64 % 64) (by omega)
    have u3 := un (0x80 + c % 64) (by omega)
    unfold Utf8.decode
    simp only [g40, g41, g42, g43, s4, u0, u1, u2, u3]
    have a1 : ¬ (0xF0 + c / 262144 < 0x80) := by omega
    have a2 : ((0xF0 + c / 262144) / 32 == 6) = false := by rw [beq_eq_false_iff_ne]; omega
    have a2' : ((0xF0 + c / 262144) / 16 == 14) = false := by rw [beq_eq_false_iff_ne]; omega
    have a2'' : ((0xF0 + c / 262144) / 8 == 30) = true := by rw [beq_iff_eq]; omega
    have a3 : ((0x80 + c / 4096 % 64) / 64 == 2) = true := by rw [beq_iff_eq]; omega
    have a3' : ((0x80 + c / 64 % 64) / 64 == 2) = true := by rw [beq_iff_eq]; omega
    have a3'' : ((0x80 + c % 64) / 64 == 2) = true := by rw [beq_iff_eq]; omega
    have a4 : (0xF0 + c / 262144) % 8 * 262144 + (0x80 + c / 4096 % 64) % 64 * 4096 + (0x80 + c / 64 % 64) % 64 * 64 + (0x80 + c % 64) % 64 = c := by omega
    have a5 := valid_rune c hv
    have d1 : decide (0 + 1 < 4) = true := rfl
    have d2 : decide (0 + 2 < 4) = true := rfl
    have d3 : decide (0 + 3 < 4) = true := rfl
    have a6 : decide (c ≥ 0x10000) = true := decide_eq_true (by omega)
    simp only [a1, a2, a2', a2'', a3, a3', a3'', a4, a5, a6, d1, d2, d3, if_false, if_true, Bool.true_and, Bool.and_true, Bool.and_self, Bool.false_and, Bool.false_eq_true]
end Go.Ab
