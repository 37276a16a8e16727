/- Sums are linear: bits that are turned are seen. No conditions. -/
import Derived.Test.YtghfinbdgnggjaaF3
set_option linter.unusedSimpArgs false
namespace Go.Proofs.Ytghfinbdgnggjaa
theorem rnd_eq (c : BitVec 16) : rnd c = (c >>> 1) ^^^ (if c.getLsbD 0 then 33800#16 else 0#16) := by
  have h : ((c &&& 1#16) == 1#16) = c.getLsbD 0 := by
    rw [Bool.eq_iff_iff, beq_iff_eq]
    constructor
    · intro h
      have := congrArg (fun d => BitVec.getLsbD d 0) h
      simpa using this
    · intro h
      apply BitVec.eq_of_getLsbD_eq
      intro i hi
      cases i with
      | zero => simp [h]
      | succ i => simp [BitVec.getLsbD_one]
  unfold rnd
  rw [h]
  split <;> simp
theorem rnd_xor (a b : BitVec 16) : rnd (a ^^^ b) = rnd a ^^^ rnd b := by
  rw [rnd_eq, rnd_eq, rnd_eq, BitVec.ushiftRight_xor_distrib, BitVec.getLsbD_xor]
  cases a.getLsbD 0 <;> cases b.getLsbD 0 <;> simp
  · rw [BitVec.xor_assoc]
  · rw [BitVec.xor_assoc, BitVec.xor_assoc, BitVec.xor_comm (b >>> 1)]
  · rw [BitVec.xor_assoc, ← BitVec.xor_assoc 33800#16, BitVec.xor_comm 33800#16, BitVec.xor_assoc, BitVec.xor_self, BitVec.xor_zero]
theorem rnd_zero : rnd 0#16 = 0#16 := by decide
theorem rnd_inj0 (a : BitVec 16) (h : rnd a = 0#16) : a = 0#16 := by
  rw [rnd_eq] at h
  have h15 := congrArg (fun d => BitVec.getLsbD d 15) h
  have h0 : a.getLsbD 0 = false := by
    cases hb : a.getLsbD 0 with
    | false => rfl
    | true => rw [hb] at h15; simp [BitVec.getLsbD_xor] at h15
  rw [h0] at h
  simp at h
  apply BitVec.eq_of_getLsbD_eq
  intro i hi
  cases i with
  | zero => simpa using h0
  | succ i =>
    have := congrArg (fun d => BitVec.getLsbD d i) h
    simp at this
    rw [Nat.add_comm] at this
    simpa using this
theorem rnI_xor (n : Nat) (a b : BitVec 16) : rnI n (a ^^^ b) = rnI n a ^^^ rnI n b := by
  induction n with
  | zero => rfl
  | succ n ih => simp only [rnI, ih, rnd_xor]
theorem rnI_zero (n : Nat) : rnI n 0#16 = 0#16 := by
  induction n with
  | zero => rfl
  | succ n ih => simp only [rnI, ih, rnd_zero]
theorem rnI_inj0 (n : Nat) (a : BitVec 16) (h : rnI n a = 0#16) : a = 0#16 := by
  induction n with
  | zero => exact h
  | succ n ih => exact ih (rnd_inj0 _ h)
theorem rnI_add (n m : Nat) (a : BitVec 16) : rnI (n + m) a = rnI n (rnI m a) := by
  induction n with
  | zero => simp [rnI]
  | succ n ih => rw [Nat.succ_add]; simp only [rnI, ih]
theorem xor_eq0 {a b : BitVec 16} (h : a ^^^ b = 0#16) : a = b := by
  have := congrArg (· ^^^ b) h
  simpa [BitVec.xor_assoc] using this
theorem crcAdd_xor (c d : BitVec 16) (x : UInt8) : crcAdd (c ^^^ d) x = crcAdd c x ^^^ rnI 8 d := by
  unfold crcAdd
  rw [← rnI_xor]
  congr 1
  rw [BitVec.xor_assoc, BitVec.xor_comm d, ← BitVec.xor_assoc]
theorem crcFold_xor (c d : BitVec 16) (xs : List UInt8) : crcFold (c ^^^ d) xs = crcFold c xs ^^^ rnI (8 * xs.length) d := by
  induction xs generalizing c d with
  | nil => rfl
  | cons x xs ih =>
    show crcFold (crcAdd (c ^^^ d) x) xs = crcFold (crcAdd c x) xs ^^^ _
    rw [crcAdd_xor, ih, List.length_cons, show 8 * (xs.length + 1) = 8 * xs.length + 8 from by omega, rnI_add]
/-- A list of which one bit is turned. -/
def turnBit (xs : List UInt8) (j : Nat) : List UInt8 := xs.set (j / 8) (xs.getD (j / 8) 0 ^^^ (1 <<< (UInt8.ofNat (j % 8))))
theorem turnBit_length (xs : List UInt8) (j : Nat) : (turnBit xs j).length = xs.length := by simp [turnBit]
theorem one_shift (j : Nat) (h : j < 8) : rnI 8 ((1 <<< (UInt8.ofNat j) : UInt8).toBitVec.setWidth 16) = rnI (8 - j) 1#16 := by
  rcases j with _ | _ | _ | _ | _ | _ | _ | _ | j
  all_goals first | omega | decide
theorem crcFold_turn (c : BitVec 16) (xs : List UInt8) (j : Nat) (h : j < 8 * xs.length) : crcFold c (turnBit xs j) = crcFold c xs ^^^ rnI (8 * xs.length - j) 1#16 := by
  induction xs generalizing c j with
  | nil => simp at h
  | cons x xs ih =>
    by_cases hj : j < 8
    · have h0 : j / 8 = 0 := by omega
      have h1 : j % 8 = j := by omega
      have : turnBit (x :: xs) j = (x ^^^ (1 <<< (UInt8.ofNat j))) :: xs := by simp [turnBit, h0, h1]
      rw [this]
      show crcFold (crcAdd c (x ^^^ (1 <<< (UInt8.ofNat j)))) xs = crcFold (crcAdd c x) xs ^^^ _
      have : crcAdd c (x ^^^ (1 <<< (UInt8.ofNat j))) = crcAdd c x ^^^ rnI (8 - j) 1#16 := by
        unfold crcAdd
        rw [UInt8.toBitVec_xor, BitVec.setWidth_xor, ← BitVec.xor_assoc, rnI_xor, one_shift j hj]
      rw [this, crcFold_xor, ← rnI_add, List.length_cons]
      congr 2; omega
    · have h0 : j / 8 = (j - 8) / 8 + 1 := by omega
      have h1 : j % 8 = (j - 8) % 8 := by omega
      have : turnBit (x :: xs) j = x :: turnBit xs (j - 8) := by simp [turnBit, h0, h1]
      rw [this]
      show crcFold (crcAdd c x) (turnBit xs (j - 8)) = crcFold (crcAdd c x) xs ^^^ _
      rw [ih _ _ (by simp at h; omega), List.length_cons]
      congr 2; omega
/-- Bits that are turned one behind the other. -/
def turnBits (w : BitVec 16) (k : Nat) : Nat → List UInt8 → List UInt8
  | 0, xs => xs
  | n + 1, xs => if w.getLsbD n then turnBit (turnBits w k n xs) (k + n) else turnBits w k n xs
theorem turnBits_length (w : BitVec 16) (k n : Nat) (xs : List UInt8) : (turnBits w k n xs).length = xs.length := by
  induction n with
  | zero => rfl
  | succ n ih => simp only [turnBits]; split <;> simp [turnBit_length, ih]
def lowBits (w : BitVec 16) : Nat → BitVec 16
  | 0 => 0#16
  | n + 1 => if w.getLsbD n then lowBits w n ^^^ (1#16 <<< n) else lowBits w n
theorem one_shl (n : Nat) (h : n < 16) : rnI 16 (1#16 <<< n) = rnI (16 - n) 1#16 := by
  rcases n with _ | _ | _ | _ | _ | _ | _ | _ | _ | _ | _ | _ | _ | _ | _ | _ | n
  all_goals first | omega | decide +kernel
theorem crcFold_turns (c : BitVec 16) (w : BitVec 16) (k : Nat) (xs : List UInt8) (h : k + 16 ≤ 8 * xs.length) (n : Nat) (hn : n ≤ 16) :
    crcFold c (turnBits w k n xs) = crcFold c xs ^^^ rnI (8 * xs.length - k) (lowBits w n) := by
  induction n with
  | zero => simp [turnBits, lowBits, rnI_zero]
  | succ n ih =>
    simp only [turnBits, lowBits]
    split
    · rw [crcFold_turn _ _ _ (by rw [turnBits_length]; omega), ih (by omega), turnBits_length, rnI_xor, BitVec.xor_assoc]
      congr 2
      rw [show 8 * xs.length - k = (8 * xs.length - k - 16) + 16 from by omega, rnI_add _ 16, one_shl n (by omega), ← rnI_add]
      congr 1; omega
    · exact ih (by omega)
theorem lowBits_get (w : BitVec 16) (n : Nat) (hn : n ≤ 16) (i : Nat) : (lowBits w n).getLsbD i = (decide (i < n) && w.getLsbD i) := by
  induction n with
  | zero => simp [lowBits]
  | succ n ih =>
    have ih := ih (by omega)
    simp only [lowBits]
    split
    · rename_i hw
      rw [BitVec.getLsbD_xor, ih]
      simp only [BitVec.getLsbD_shiftLeft, BitVec.getLsbD_one]
      by_cases h1 : i < n
      · have : i < n + 1 := by omega
        simp [h1, this]
      · by_cases h2 : i = n
        · subst h2; simp [hw]; omega
        · have : ¬ i < n + 1 := by omega
          simp [h1, this]
          omega
    · rename_i hw
      rw [ih]
      by_cases h1 : i < n
      · have : i < n + 1 := by omega
        simp [h1, this]
      · by_cases h2 : i = n
        · subst h2; simpa using hw
        · have : ¬ i < n + 1 := by omega
          simp [h1, this]
theorem lowBits_all (w : BitVec 16) : lowBits w 16 = w := by
  apply BitVec.eq_of_getLsbD_eq
  intro i hi
  rw [lowBits_get w 16 (by omega)]
  simp [hi]
theorem rnI_shift (n : Nat) (a : BitVec 16) (h : ∀ i, i < n → a.getLsbD i = false) : rnI n a = a >>> n := by
  induction n with
  | zero => simp [rnI]
  | succ n ih =>
    simp only [rnI]
    rw [ih (fun i hi => h i (by omega)), rnd_eq]
    have : (a >>> n).getLsbD 0 = false := by simpa using h n (by omega)
    rw [this, BitVec.shiftRight_add]
    simp
/-- Bytes with their sum behind leave one and the same sum. -/
theorem crcFold_put (xs : List UInt8) : crcFold 65535#16 (crcPut xs) = rnI 8 (rnI 8 255#16 ^^^ 255#16) := by
  have h1 : crcFold 65535#16 (crcPut xs) = crcAdd (crcAdd (crcFold 65535#16 xs) (UInt8.ofBitVec ((crcOf xs).setWidth 8))) (UInt8.ofBitVec (((crcOf xs) >>> 8).setWidth 8)) := by
    simp [crcPut, crcFold, List.foldl_append]
  rw [h1]
  unfold crcOf
  generalize crcFold 65535#16 xs = f
  unfold crcAdd
  have e1 : f ^^^ ((UInt8.ofBitVec ((~~~f).setWidth 8)).toBitVec.setWidth 16) = ((f >>> 8) <<< 8) ^^^ 255#16 := by
    apply BitVec.eq_of_getLsbD_eq
    intro i hi
    simp only [BitVec.getLsbD_xor, BitVec.getLsbD_setWidth, BitVec.getLsbD_not, BitVec.getLsbD_shiftLeft, BitVec.getLsbD_ushiftRight]
    rcases i with _ | _ | _ | _ | _ | _ | _ | _ | _ | _ | _ | _ | _ | _ | _ | _ | i
    all_goals first | omega | simp
  have e2 : rnI 8 ((f >>> 8) <<< 8) = f >>> 8 := by
    rw [rnI_shift 8 _ (fun i hi => by simp [BitVec.getLsbD_shiftLeft]; omega)]
    apply BitVec.eq_of_getLsbD_eq
    intro i hi
    simp only [BitVec.getLsbD_ushiftRight, BitVec.getLsbD_shiftLeft]
    by_cases h : 8 + i < 16
    · simp [h]
    · simp [h, BitVec.getLsbD_of_ge f (8 + i) (by omega)]
  rw [e1, show rnI 8 (((f >>> 8) <<< 8) ^^^ 255#16) = (f >>> 8) ^^^ rnI 8 255#16 from by rw [rnI_xor, e2]]
  have e3 : (f >>> 8) ^^^ rnI 8 255#16 ^^^ ((UInt8.ofBitVec (((~~~f) >>> 8).setWidth 8)).toBitVec.setWidth 16) = rnI 8 255#16 ^^^ 255#16 := by
    rw [BitVec.xor_comm (f >>> 8), BitVec.xor_assoc]
    congr 1
    apply BitVec.eq_of_getLsbD_eq
    intro i hi
    simp only [BitVec.getLsbD_xor, BitVec.getLsbD_setWidth, BitVec.getLsbD_not, BitVec.getLsbD_ushiftRight]
    rcases i with _ | _ | _ | _ | _ | _ | _ | _ | _ | _ | _ | _ | _ | _ | _ | _ | i
    all_goals first | omega | simp
  rw [e3]
theorem crcFold_fine (xs : List UInt8) (h : crcFine xs = true) : crcFold 65535#16 xs = rnI 8 (rnI 8 255#16 ^^^ 255#16) := by
  simp only [crcFine, Bool.and_eq_true, beq_iff_eq] at h
  rw [← h.2]
  exact crcFold_put _
theorem xor_keep {a b : BitVec 16} (h : a ^^^ b = a) : b = 0#16 := by
  have := congrArg (a ^^^ ·) h
  simpa [← BitVec.xor_assoc] using this
/-- Up to sixteen bits side by side that are turned are seen. -/
theorem turned_not_fine (p : List UInt8) (hp : crcFine p = true) (w : BitVec 16) (hw : w ≠ 0#16) (k : Nat) (h : k + 16 ≤ 8 * p.length) : crcFine (turnBits w k 16 p) = false := by
  cases hf : crcFine (turnBits w k 16 p) with
  | false => rfl
  | true =>
    exfalso
    have h1 := crcFold_fine _ hf
    rw [crcFold_turns _ _ _ _ h 16 (by omega), lowBits_all, crcFold_fine _ hp] at h1
    exact hw (rnI_inj0 _ _ (xor_keep h1))
theorem not_inj {a b : BitVec 16} (h : ~~~a = ~~~b) : a = b := by
  have := congrArg (~~~ ·) h
  simpa using this
/-- One bit that is turned turns the sum. -/
theorem turn_of (b : List UInt8) (i : Nat) (h : i < 8 * b.length) : crcOf (turnBit b i) ≠ crcOf b := by
  intro e
  have := not_inj e
  rw [crcFold_turn _ _ _ h] at this
  exact absurd (rnI_inj0 _ _ (xor_keep this)) (by decide)
def noOne : Nat → BitVec 16 → Bool
  | 0, _ => true
  | n + 1, c => rnd c != 1#16 && noOne n (rnd c)
theorem noOne_spec (n : Nat) (c : BitVec 16) (h : noOne n c = true) : ∀ d, d < n → rnI (d + 1) c ≠ 1#16 := by
  induction n generalizing c with
  | zero => intro d hd; omega
  | succ n ih =>
    simp only [noOne, Bool.and_eq_true, bne_iff_ne] at h
    intro d hd
    cases d with
    | zero => exact h.1
    | succ d =>
      have := ih _ h.2 d (by omega)
      rw [show d + 1 + 1 = (d + 1) + 1 from rfl, rnI_add]
      exact this
theorem noOne480 : noOne 480 1#16 = true := by decide +kernel
/-- No two bits that are turned turn the sum alike. -/
theorem turn_apart (b : List UInt8) (hb : b.length ≤ 60) (i k : Nat) (h : i < 8 * b.length) (g : k < 8 * b.length) : (crcOf (turnBit b i) == crcOf (turnBit b k)) = (i == k) := by
  have key : ∀ i k : Nat, i < k → k < 8 * b.length → crcOf (turnBit b i) ≠ crcOf (turnBit b k) := by
    intro i k hik hk e
    have := not_inj e
    rw [crcFold_turn _ _ _ (by omega), crcFold_turn _ _ _ hk] at this
    have : rnI (8 * b.length - i) 1#16 = rnI (8 * b.length - k) 1#16 := by
      have := congrArg (crcFold 65535#16 b ^^^ ·) this
      simpa [← BitVec.xor_assoc] using this
    rw [show 8 * b.length - i = (8 * b.length - k) + (k - i) from by omega, rnI_add] at this
    have : rnI (k - i) 1#16 = 1#16 := by
      apply xor_eq0
      apply rnI_inj0 (8 * b.length - k)
      rw [rnI_xor, this]
      simp
    exact noOne_spec 480 1#16 noOne480 (k - i - 1) (by omega) (by rw [show k - i - 1 + 1 = k - i from by omega]; exact this)
  by_cases e : i = k
  · subst e; simp
  · have : crcOf (turnBit b i) ≠ crcOf (turnBit b k) := by
      rcases Nat.lt_or_gt_of_ne e with h1 | h1
      · exact key i k h1 g
      · exact fun q => key k i h1 h q.symm
    rw [beq_eq_false_iff_ne.2 this, beq_eq_false_iff_ne.2 e]
end Go.Proofs.Ytghfinbdgnggjaa
