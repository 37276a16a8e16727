/- Sixteen-bit numbers in the evaluator. No conditions. -/
import Derived.Test.YtgflghhffmjojaaGreatDoorAb2
set_option linter.unusedSimpArgs false
set_option linter.unusedVariables false
namespace Go.Ab
open Go
def u16 (c : BitVec 16) : AV := .int .u16 c.toNat
def u8v (b : UInt8) : AV := .int .u8 b.toNat
theorem wrap16 (n : Nat) (h : n < 65536) : IntKind.u16.wrap (n : Int) = n := by
  simp only [IntKind.wrap, IntKind.bits, IntKind.signed]
  simp
  omega
theorem ofInt16 (c : BitVec 16) : BitVec.ofInt 16 (c.toNat : Int) = c := by
  rw [BitVec.ofInt_natCast]; simp
theorem b16_xor (c d : BitVec 16) : binV .xor (u16 c) (u16 d) = some (u16 (c ^^^ d)) := by
  show some (AV.int .u16 (IntKind.u16.wrap ((BitVec.ofInt 16 (c.toNat : Int) ^^^ BitVec.ofInt 16 (d.toNat : Int)).toNat : Int))) = _
  rw [ofInt16, ofInt16, wrap16 _ (c ^^^ d).isLt]; rfl
theorem b16_and (c d : BitVec 16) : binV .and (u16 c) (u16 d) = some (u16 (c &&& d)) := by
  show some (AV.int .u16 (IntKind.u16.wrap ((BitVec.ofInt 16 (c.toNat : Int) &&& BitVec.ofInt 16 (d.toNat : Int)).toNat : Int))) = _
  rw [ofInt16, ofInt16, wrap16 _ (c &&& d).isLt]; rfl
theorem b16_eql (c d : BitVec 16) : binV .eql (u16 c) (u16 d) = some (.bool (c == d)) := by
  show some (AV.bool ((c.toNat : Int) == (d.toNat : Int))) = _
  congr 2
  rw [Bool.eq_iff_iff, beq_iff_eq, beq_iff_eq]
  exact ⟨fun h => BitVec.eq_of_toNat_eq (Int.ofNat.inj h), fun h => by rw [h]⟩
theorem b16_shr1 (c : BitVec 16) : binV .shr (u16 c) (.int .u64 1) = some (u16 (c >>> 1)) := by
  show some (AV.int .u16 ((c.toNat : Int).fdiv 2)) = _
  rw [Int.fdiv_eq_ediv_of_nonneg _ (by omega)]
  simp only [u16]
  rw [BitVec.toNat_ushiftRight, Nat.shiftRight_eq_div_pow]
  rfl
theorem b16_of_u8 (b : UInt8) : convP (.toInt .u16) (u8v b) = some (u16 (b.toBitVec.setWidth 16)) := by
  simp only [convP, u8v, u16]
  rw [wrap16 _ (by have := b.toNat_lt; omega)]
  simp
end Go.Ab
