/- Sets of bits below 65536: the highest and the lowest, as the program and as the document find them. No conditions. -/
import Derived.KernelRfl
namespace Go.Proofs.YtbeimfhodgmjhaaDoor
/-- The highest of so many bits; -1: none is set. -/
def hiW (m : Nat) : Nat → Int
  | 0 => -1
  | k + 1 => if m.testBit k then (k : Int) else hiW m k
/-- The lowest bit from i on, of so many; -1: none is set. -/
def loW (m : Nat) : Nat → Nat → Int
  | 0, _ => -1
  | d + 1, i => if m.testBit i then (i : Int) else loW m d (i + 1)
def highZ (n : Int) : Int := hiW (n % 65536).toNat 16
def lowZ (n : Int) : Int := loW (n % 65536).toNat 16 0
/-- How many bits, by a table of 256. -/
def len8 (j : Nat) : Nat := if j = 0 then 0 else Nat.log2 j + 1
def len16 (m : Nat) : Nat := if m ≥ 256 then len8 (m / 256) + 8 else len8 m
theorem hiW_ge (m : Nat) (k : Nat) : -1 ≤ hiW m k ∧ hiW m k < k := by
  induction k with
  | zero => exact ⟨Int.le_refl _, by show (-1 : Int) < 0; omega⟩
  | succ k ih => unfold hiW; split <;> omega
theorem hi8 : ((List.range 256).all fun j => decide ((len8 j : Int) - 1 = hiW j 8)) = true := by kernel_rfl
theorem hi8_at (j : Nat) (hj : j < 256) : (len8 j : Int) - 1 = hiW j 8 := of_decide_eq_true (List.all_eq_true.1 hi8 j (List.mem_range.2 hj))
theorem tb8 (m k : Nat) : m.testBit (8 + k) = (m / 256).testBit k := by
  rw [Nat.add_comm 8 k, Nat.testBit_add]
theorem hiW_up (m k : Nat) : hiW m (8 + k) = if hiW (m / 256) k = -1 then hiW m 8 else hiW (m / 256) k + 8 := by
  induction k with
  | zero => rfl
  | succ k ih =>
    show (if m.testBit (8 + k) then ((8 + k : Nat) : Int) else hiW m (8 + k)) = if (if (m / 256).testBit k then (k : Int) else hiW (m / 256) k) = -1 then hiW m 8 else (if (m / 256).testBit k then (k : Int) else hiW (m / 256) k) + 8
    rw [tb8, ih]
    by_cases h : (m / 256).testBit k = true
    · rw [if_pos h, if_pos h, if_neg (by omega)]; omega
    · rw [if_neg h, if_neg h]
theorem hi_len (m : Nat) (hm : m < 65536) : (len16 m : Int) - 1 = hiW m 16 := by
  rw [show 16 = 8 + 8 from rfl, hiW_up, ← hi8_at (m / 256) (by omega)]
  unfold len16
  by_cases h : m ≥ 256
  · have h1 : len8 (m / 256) ≠ 0 := by unfold len8; rw [if_neg (by omega)]; omega
    rw [if_pos h, if_neg (by omega)]; omega
  · have h1 : len8 (m / 256) = 0 := by unfold len8; rw [if_pos (by omega)]
    rw [if_neg h, if_pos (by omega), ← hi8_at m (by omega)]
/-! The lowest one. -/
theorem loW_of (m k : Nat) (h : m % 2 ^ (k + 1) = 2 ^ k) : ∀ d i, i ≤ k → k < i + d → loW m d i = (k : Int) := by
  have hb : ∀ j, j ≤ k → m.testBit j = decide (k = j) := by
    intro j hj
    have h1 := congrArg (fun x => x.testBit j) h
    simp only [Nat.testBit_mod_two_pow, Nat.testBit_two_pow] at h1
    rw [decide_eq_true (by omega : j < k + 1), Bool.true_and] at h1
    exact h1
  intro d
  induction d with
  | zero => intro i h1 h2; omega
  | succ d ih =>
    intro i h1 h2
    unfold loW
    rw [hb i h1]
    by_cases hk : k = i
    · rw [decide_eq_true hk, if_pos rfl, hk]
    · rw [decide_eq_false hk, if_neg (by decide)]
      exact ih (i + 1) (by omega) (by omega)
theorem loW_none : ∀ d i, loW 0 d i = -1 := by
  intro d
  induction d with
  | zero => intro i; rfl
  | succ d ih => intro i; unfold loW; rw [Nat.zero_testBit, if_neg (by decide)]; exact ih _
def dbrT : List Int := [0, 1, 28, 2, 29, 14, 24, 3, 30, 22, 20, 15, 25, 17, 4, 8, 31, 27, 13, 23, 21, 19, 16, 7, 26, 12, 18, 6, 11, 5, 10, 9]
/-- The same table in one number. -/
def dbrK (z : Nat) : Nat := 425558438023169368542358217867927387395308220448 / 32 ^ z % 32
theorem dbrK_ok : ((List.range 32).all fun z => decide (dbrT.getD z 0 = (dbrK z : Int))) = true := by kernel_rfl
def all16 (p : Nat → Bool) : Bool := (List.range 256).all fun a => (List.range 256).all fun b => p (256 * a + b)
theorem all16_of {p : Nat → Bool} (h : all16 p = true) (m : Nat) (hm : m < 65536) : p m = true := by
  have h1 := List.all_eq_true.1 h (m / 256) (List.mem_range.2 (by omega))
  have h2 := List.all_eq_true.1 h1 (m % 256) (List.mem_range.2 (by omega))
  rw [show 256 * (m / 256) + m % 256 = m by omega] at h2
  exact h2
/-- The place by the table. -/
def tzK (m : Nat) : Nat := dbrK (((m &&& (65536 - m)) * 125613361 % 4294967296) / 134217728)
theorem tz_chk : all16 (fun m => Nat.beq m 0 || (Nat.beq (m % 2 ^ (tzK m + 1)) (2 ^ tzK m) && Nat.ble (tzK m) 15)) = true := by kernel_rfl
theorem tz_at (m : Nat) (hm : m < 65536) (h0 : 0 < m) : (tzK m : Int) = loW m 16 0 ∧ tzK m ≤ 15 := by
  have h := all16_of tz_chk m hm
  rw [Bool.or_eq_true, Bool.and_eq_true] at h
  rcases h with h | ⟨h1, h2⟩
  · have := Nat.eq_of_beq_eq_true h; omega
  · have h3 := Nat.eq_of_beq_eq_true h1
    have h4 := Nat.le_of_ble_eq_true h2
    exact ⟨(loW_of m _ h3 16 0 (by omega) (by omega)).symm, h4⟩
end Go.Proofs.YtbeimfhodgmjhaaDoor
