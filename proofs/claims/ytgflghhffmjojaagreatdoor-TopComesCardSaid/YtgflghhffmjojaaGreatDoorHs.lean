/- Slices of one's own make into which one stores, in the evaluator; more arithmetic. No conditions. -/
import Derived.Test.YtgflghhffmjojaaGreatDoorEv
set_option linter.unusedSimpArgs false
set_option linter.unusedVariables false
namespace Go.Ab
open Go
theorem i64_mul (a b : Int) : binV .mul (.int .i64 a) (.int .i64 b) = some (.int .i64 (IntKind.i64.wrap (a * b))) := rfl
theorem i64_rem (a b : Int) (h : b ≠ 0) : binV .rem (.int .i64 a) (.int .i64 b) = some (.int .i64 (a.tmod b)) := by
  show (if b = 0 then none else some (AV.int .i64 (a.tmod b))) = _
  rw [if_neg h]
theorem i64_quo (a b : Int) (h : b ≠ 0) : binV .quo (.int .i64 a) (.int .i64 b) = some (.int .i64 (IntKind.i64.wrap (a.tdiv b))) := by
  show (if b = 0 then none else some (AV.int .i64 (IntKind.i64.wrap (a.tdiv b)))) = _
  rw [if_neg h]
theorem i64_remN (n m : Nat) (h : 0 < m) : binV .rem (.int .i64 (n : Int)) (.int .i64 (m : Int)) = some (.int .i64 ((n % m : Nat) : Int)) := by
  rw [i64_rem _ _ (by omega)]
  rfl
theorem i64_quoN (n m : Nat) (h : 0 < m) (hn : n ≤ 1000000000) : binV .quo (.int .i64 (n : Int)) (.int .i64 (m : Int)) = some (.int .i64 ((n / m : Nat) : Int)) := by
  rw [i64_quo _ _ (by omega)]
  have : (n : Int).tdiv (m : Int) = ((n / m : Nat) : Int) := rfl
  have h1 := Nat.div_le_self n m
  rw [this]
  generalize n / m = q at h1
  rw [wrapI _ (by omega) (by omega)]
theorem b8_xor (a b : UInt8) : binV .xor (u8v a) (u8v b) = some (u8v (a ^^^ b)) := by
  show some (AV.int .u8 (IntKind.u8.wrap ((BitVec.ofInt 8 (a.toNat : Int) ^^^ BitVec.ofInt 8 (b.toNat : Int)).toNat : Int))) = _
  have h : ∀ c : UInt8, BitVec.ofInt 8 (c.toNat : Int) = c.toBitVec := by
    intro c; rw [BitVec.ofInt_natCast]; simp
  rw [h, h]
  have hw : ∀ n : Nat, n < 256 → IntKind.u8.wrap (n : Int) = n := by
    intro n hn
    simp only [IntKind.wrap, IntKind.bits, IntKind.signed]; simp; omega
  rw [hw _ (by have := (a.toBitVec ^^^ b.toBitVec).isLt; omega)]
  rfl
theorem u8_shl1 (r : Nat) (h : r < 8) : binV .shl (.int .u8 1) (.int .i64 (r : Int)) = some (u8v (1 <<< UInt8.ofNat r)) := by
  rcases r with _ | _ | _ | _ | _ | _ | _ | _ | r
  all_goals first | omega | rfl
theorem b16_shr (c : BitVec 16) (n : Nat) (h : n ≤ 16) : binV .shr (u16 c) (.int .i64 (n : Int)) = some (u16 (c >>> n)) := by
  show (if (n : Int) < 0 then none else some (AV.int .u16 ((c.toNat : Int).fdiv (2 ^ (min (n : Int).toNat 16))))) = _
  rw [if_neg (by omega)]
  have : min (n : Int).toNat 16 = n := by omega
  rw [this, Int.fdiv_eq_ediv_of_nonneg _ (by have : (0:Int) ≤ ((2 ^ n : Nat) : Int) := Int.natCast_nonneg _; simpa using this)]
  simp only [u16]
  rw [BitVec.toNat_ushiftRight, Nat.shiftRight_eq_div_pow]
  simp
theorem b16_neq (c d : BitVec 16) : binV .neq (u16 c) (u16 d) = some (.bool (!(c == d))) := by
  have h : ((c.toNat : Int) == (d.toNat : Int)) = (c == d) := by
    rw [Bool.eq_iff_iff, beq_iff_eq, beq_iff_eq]
    exact ⟨fun h => BitVec.eq_of_toNat_eq (Int.ofNat.inj h), fun h => by rw [h]⟩
  show some (AV.bool (!((c.toNat : Int) == (d.toNat : Int)))) = _
  rw [h]
theorem bit_of (c : BitVec 16) (n : Nat) : ((c >>> n) &&& 1#16 == 1#16) = c.getLsbD n := by
  rw [Bool.eq_iff_iff, beq_iff_eq]
  constructor
  · intro h
    have := congrArg (fun d => BitVec.getLsbD d 0) h
    simpa using this
  · intro h
    apply BitVec.eq_of_getLsbD_eq
    intro i hi
    cases i with
    | zero => simp [h]
    | succ i => simp [BitVec.getLsbD_one]
theorem take_all (xs : List UInt8) : ((bytesAV xs).drop 0).take (xs.length * 1) = bytesAV xs := by
  rw [List.drop_zero, show xs.length * 1 = (bytesAV xs).length from by rw [bytesAV_length, Nat.mul_one], List.take_length]
theorem iter_mask (f : Env → St → Out) (l : List Bool) (k : Nat) (e e' : Env) (s : St) (h : maskE l e = maskE l e') : iter f l k e s = iter f l k e' s := by
  cases k with
  | zero => rfl
  | succ k => rw [iter_succ, iter_succ, h]
/-- Bytes in a block of one's own. -/
def Has (s : St) (b : Nat) (xs : List UInt8) : Prop := s.get b = some (.cells 1 (bytesAV xs))
theorem app_own (s : St) {y : AV} {xs : List UInt8} (h : Bys y xs) (h0 : xs ≠ []) (hl : xs.length ≤ 1000000000) :
    appV true 1 1 s .nils y = some (.hs 1 s.next 0 xs.length, s.new (.cells 1 (bytesAV xs))) := by
  have hm : xs.length ≠ 0 := fun e => h0 (List.length_eq_zero_iff.1 e)
  simp only [appV, h.news, appH, hm, notSl, Bool.and_self, if_false, if_true]
  rw [if_pos (fits_small hl)]
theorem Has.new (s : St) (xs : List UInt8) : Has (s.new (.cells 1 (bytesAV xs))) s.next xs := get_new_eq _ _
theorem Has.freeze {s : St} {b : Nat} {xs : List UInt8} (h : Has s b xs) : Ab.freeze 1 s (.hs 1 b 0 xs.length) = some (.sl (bytesAV xs) xs.length none, s.upd b (.froz 1 (bytesAV xs))) := by
  unfold Has at h
  simp only [Ab.freeze, h]
  rw [if_pos ⟨trivial, by simp [bytesAV_length]⟩, take_all]
def Froz (s : St) (b : Nat) (xs : List UInt8) : Prop := s.get b = some (.froz 1 (bytesAV xs))
theorem Has.froz {s : St} {b : Nat} {xs : List UInt8} (h : Has s b xs) : Froz (s.upd b (.froz 1 (bytesAV xs))) b xs := get_upd_eq _ _ h
theorem Froz.freeze {s : St} {b : Nat} {xs : List UInt8} (h : Froz s b xs) : Ab.freeze 1 s (.hs 1 b 0 xs.length) = some (.sl (bytesAV xs) xs.length none, s) := by
  unfold Froz at h
  simp only [Ab.freeze, h]
  rw [if_pos ⟨trivial, by simp [bytesAV_length]⟩, take_all]
theorem hs_ixa (b n i : Nat) (h : i < n) : ixaV 1 (.hs 1 b 0 n) (.int .i64 (i : Int)) = some (.ptr b i) := by
  have : idx n (.int .i64 (i : Int)) = some i := by simp [idx]; omega
  simp [ixaV, this]
theorem Has.load {s : St} {b : Nat} {xs : List UInt8} (h : Has s b xs) (i : Nat) (hi : i < xs.length) : loadR s none (.ptr b i) = some (u8v xs[i], s, 1) := by
  unfold Has at h
  simp only [loadR, h, Ab.cut, bytesAV_get, List.getElem?_eq_getElem hi, Option.map_some]
theorem bytesAV_set (xs : List UInt8) (i : Nat) (v : UInt8) : (bytesAV xs).set i (u8v v) = bytesAV (xs.set i v) := by
  simp [bytesAV, u8v, List.map_set]
theorem Has.store {s : St} {b : Nat} {xs : List UInt8} (h : Has s b xs) (i : Nat) (hi : i < xs.length) (v : UInt8) :
    storeV 1 s (.ptr b i) (u8v v) = some (.undef, s.upd b (.cells 1 (bytesAV (xs.set i v)))) := by
  unfold Has at h
  have hc : cellsOf (u8v v) = some [u8v v] := rfl
  simp only [storeV, h, hc, List.length_cons, List.length_nil, Nat.reduceAdd, if_true, storeL, fillL, bytesAV_length]
  rw [if_pos (by omega), bytesAV_set]
theorem Has.upd {s : St} {b : Nat} {xs : List UInt8} (h : Has s b xs) (ys : List UInt8) : Has (s.upd b (.cells 1 (bytesAV ys))) b ys := get_upd_eq _ _ h
theorem Has.ext {s s' : St} {b : Nat} {xs : List UInt8} (h : Has s b xs) (e : Ext s s') (hb : b < s.next) : Has s' b xs := (e.get b hb).trans h
theorem Froz.ext {s s' : St} {b : Nat} {xs : List UInt8} (h : Froz s b xs) (e : Ext s s') (hb : b < s.next) : Froz s' b xs := (e.get b hb).trans h
end Go.Ab
