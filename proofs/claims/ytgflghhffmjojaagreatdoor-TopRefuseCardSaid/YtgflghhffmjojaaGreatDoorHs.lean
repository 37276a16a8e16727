/- Slices of one's own make into which one stores, in the evaluator; more arithmetic. No conditions. -/
import Derived.Test.YtgflghhffmjojaaGreatDoorEv
set_option linter.unusedSimpArgs false
set_option linter.unusedVariables false
namespace Go.Ab
open Go
theorem b8_xor (a b : UInt8) : binV .xor (u8v a) (u8v b) = some (u8v (a ^^^ b)) := by
  show some (AV.int .u8 (IntKind.u8.wrap ((BitVec.ofInt 8 (a.toNat : Int) ^^^ BitVec.ofInt 8 (b.toNat : Int)).toNat : Int))) = _
  have h : ∀ c : UInt8, BitVec.ofInt 8 (c.toNat : Int) = c.toBitVec := by
    intro c; rw [BitVec.ofInt_natCast]; simp
  rw [h, h]
  have hw : ∀ n : Nat, n < 256 → IntKind.u8.wrap (n : Int) = n := by
    intro n hn
    simp only [IntKind.wrap, IntKind.bits, IntKind.signed]; simp; omega
  rw [hw _ (by have := (a.toBitVec ^^^ b.toBitVec).isLt; omega)]
  rfl
theorem take_all (xs : List UInt8) : ((bytesAV xs).drop 0).take (xs.length * 1) = bytesAV xs := by
  rw [List.drop_zero, show xs.length * 1 = (bytesAV xs).length from by rw [bytesAV_length, Nat.mul_one], List.take_length]
theorem iter_mask (f : Env → St → Out) (l : List Bool) (k : Nat) (e e' : Env) (s : St) (h : maskE l e = maskE l e') : iter f l k e s = iter f l k e' s := by
  cases k with
  | zero => rfl
  | succ k => rw [iter_succ, iter_succ, h]
/-- Bytes in a block of one's own. -/
def Has (s : St) (b : Nat) (xs : List UInt8) : Prop := s.get b = some (.cells 1 (bytesAV xs))
theorem Has.new (s : St) (xs : List UInt8) : Has (s.new (.cells 1 (bytesAV xs))) s.next xs := get_new_eq _ _
theorem Has.freeze {s : St} {b : Nat} {xs : List UInt8} (h : Has s b xs) : Ab.freeze 1 s (.hs 1 b 0 xs.length) = some (.sl (bytesAV xs) xs.length none, s.upd b (.froz 1 (bytesAV xs))) := by
  unfold Has at h
  simp only [Ab.freeze, h]
  rw [if_pos ⟨trivial, by simp [bytesAV_length]⟩, take_all]
def Froz (s : St) (b : Nat) (xs : List UInt8) : Prop := s.get b = some (.froz 1 (bytesAV xs))
theorem Has.froz {s : St} {b : Nat} {xs : List UInt8} (h : Has s b xs) : Froz (s.upd b (.froz 1 (bytesAV xs))) b xs := get_upd_eq _ _ h
theorem Froz.freeze {s : St} {b : Nat} {xs : List UInt8} (h : Froz s b xs) : Ab.freeze 1 s (.hs 1 b 0 xs.length) = some (.sl (bytesAV xs) xs.length none, s) := by
  unfold Froz at h
  simp only [Ab.freeze, h]
  rw [if_pos ⟨trivial, by simp [bytesAV_length]⟩, take_all]
theorem Has.load {s : St} {b : Nat} {xs : List UInt8} (h : Has s b xs) (i : Nat) (hi : i < xs.length) : loadR s none (.ptr b i) = some (u8v xs[i], s, 1) := by
  unfold Has at h
  simp only [loadR, h, Ab.cut, bytesAV_get, List.getElem?_eq_getElem hi, Option.map_some]
theorem bytesAV_set (xs : List UInt8) (i : Nat) (v : UInt8) : (bytesAV xs).set i (u8v v) = bytesAV (xs.set i v) := by
  simp [bytesAV, u8v, List.map_set]
theorem Has.store {s : St} {b : Nat} {xs : List UInt8} (h : Has s b xs) (i : Nat) (hi : i < xs.length) (v : UInt8) :
    storeV 1 s (.ptr b i) (u8v v) = some (.undef, s.upd b (.cells 1 (bytesAV (xs.set i v)))) := by
  unfold Has at h
  have hc : cellsOf (u8v v) = some [u8v v] := rfl
  simp only [storeV, h, hc, List.length_cons, List.length_nil, Nat.reduceAdd, if_true, storeL, fillL, bytesAV_length]
  rw [if_pos (by omega), bytesAV_set]
theorem Has.upd {s : St} {b : Nat} {xs : List UInt8} (h : Has s b xs) (ys : List UInt8) : Has (s.upd b (.cells 1 (bytesAV ys))) b ys := get_upd_eq _ _ h
theorem Has.ext {s s' : St} {b : Nat} {xs : List UInt8} (h : Has s b xs) (e : Ext s s') (hb : b < s.next) : Has s' b xs := (e.get b hb).trans h
theorem Froz.ext {s s' : St} {b : Nat} {xs : List UInt8} (h : Froz s b xs) (e : Ext s s') (hb : b < s.next) : Froz s' b xs := (e.get b hb).trans h
end Go.Ab
