/- meet.Deal of two that offer the same. No conditions. -/
import Derived.Test.YtgflghhffmjojaaGreatDoorHf
set_option linter.unusedSimpArgs false
set_option linter.unusedVariables false
set_option maxRecDepth 100000
set_option maxHeartbeats 4000000
namespace Go.Proofs.YtgflghhffmjojaaGreatDoor
open Go Go.Ab
def len8 : List UInt8 := [0, 1, 2, 2, 3, 3, 3, 3, 4, 4, 4, 4, 4, 4, 4, 4, 5, 5, 5, 5, 5, 5, 5, 5, 5, 5, 5, 5, 5, 5, 5, 5, 6, 6, 6, 6, 6, 6, 6, 6, 6, 6, 6, 6, 6, 6, 6, 6, 6, 6, 6, 6, 6, 6, 6, 6, 6, 6, 6, 6, 6, 6, 6, 6, 7, 7, 7, 7, 7, 7, 7, 7, 7, 7, 7, 7, 7, 7, 7, 7, 7, 7, 7, 7, 7, 7, 7, 7, 7, 7, 7, 7, 7, 7, 7, 7, 7, 7, 7, 7, 7, 7, 7, 7, 7, 7, 7, 7, 7, 7, 7, 7, 7, 7, 7, 7, 7, 7, 7, 7, 7, 7, 7, 7, 7, 7, 7, 7, 8, 8, 8, 8, 8, 8, 8, 8, 8, 8, 8, 8, 8, 8, 8, 8, 8, 8, 8, 8, 8, 8, 8, 8, 8, 8, 8, 8, 8, 8, 8, 8, 8, 8, 8, 8, 8, 8, 8, 8, 8, 8, 8, 8, 8, 8, 8, 8, 8, 8, 8, 8, 8, 8, 8, 8, 8, 8, 8, 8, 8, 8, 8, 8, 8, 8, 8, 8, 8, 8, 8, 8, 8, 8, 8, 8, 8, 8, 8, 8, 8, 8, 8, 8, 8, 8, 8, 8, 8, 8, 8, 8, 8, 8, 8, 8, 8, 8, 8, 8, 8, 8, 8, 8, 8, 8, 8, 8, 8, 8, 8, 8, 8, 8, 8, 8, 8, 8, 8, 8, 8, 8, 8, 8, 8, 8, 8, 8]
def VD (nb ns nw nz nt : Nat) : List AV := [.int .i64 (nb : Nat), .int .i64 (ns : Nat), .int .i64 (nw : Nat), .int .i64 (nz : Nat), .int .i64 (nt : Nat), .int .u16 (nb : Nat), .int .u8 (nb : Nat), .int .u16 (ns : Nat), .int .u16 ((65536 - ns : Nat) : Nat), .int .u16 (nz : Nat), .int .u8 (nz : Nat), .int .u16 (nw : Nat), .int .u8 (nw : Nat), .int .u16 (nt : Nat), .int .u16 ((65536 - nt : Nat) : Nat)]
def UD (hb hz hw lt : Nat) : List Nt := [.bin .and (lf 0) (.int .i64 1) (.int .i64 1),
 .bin .and (lf 1) (.int .i64 1) (.int .i64 1),
 .bin .geq (lf 0) (.int .i64 1) (.bool true),
 .bin .leq (lf 0) (.int .i64 15) (.bool true),
 .bin .geq (lf 1) (.int .i64 1) (.bool true),
 .bin .leq (lf 1) (.int .i64 7) (.bool true),
 .bin .geq (lf 2) (.int .i64 1) (.bool true),
 .bin .leq (lf 2) (.int .i64 127) (.bool true),
 .bin .geq (lf 3) (.int .i64 1) (.bool true),
 .bin .leq (lf 3) (.int .i64 15) (.bool true),
 .bin .geq (lf 4) (.int .i64 1) (.bool true),
 .bin .leq (lf 4) (.int .i64 7) (.bool true),
 .bin .and (lf 0) (lf 0) (lf 0),
 .bin .and (lf 0) (.int .i64 65535) (lf 0),
 .conv (.toInt .u16) (lf 0) (lf 5),
 .bin .geq (lf 5) (.int .u16 256) (.bool false),
 .conv (.toInt .u8) (lf 5) (lf 6),
 .ixs (.str len8) (lf 6) (.int .u8 (hb : Nat)),
 .bin .and (lf 1) (lf 1) (lf 1),
 .bin .and (lf 1) (.int .i64 65535) (lf 1),
 .bin .eql (lf 1) (.int .i64 0) (.bool false),
 .conv (.toInt .u16) (lf 1) (lf 7),
 .bin .eql (lf 7) (.int .u16 0) (.bool false),
 .un .neg (lf 7) (lf 8),
 .bin .and (lf 7) (lf 8) (.int .u16 1),
 .bin .and (lf 3) (.int .i64 65535) (lf 3),
 .conv (.toInt .u16) (lf 3) (lf 9),
 .bin .geq (lf 9) (.int .u16 256) (.bool false),
 .conv (.toInt .u8) (lf 9) (lf 10),
 .ixs (.str len8) (lf 10) (.int .u8 (hz : Nat)),
 .bin .and (lf 2) (.int .i64 65535) (lf 2),
 .conv (.toInt .u16) (lf 2) (lf 11),
 .bin .geq (lf 11) (.int .u16 256) (.bool false),
 .conv (.toInt .u8) (lf 11) (lf 12),
 .ixs (.str len8) (lf 12) (.int .u8 (hw : Nat)),
 .bin .and (lf 4) (.int .i64 65535) (lf 4),
 .bin .eql (lf 4) (.int .i64 0) (.bool false),
 .conv (.toInt .u16) (lf 4) (lf 13),
 .bin .eql (lf 13) (.int .u16 0) (.bool false),
 .un .neg (lf 13) (lf 14),
 .bin .and (lf 13) (lf 14) (.int .u16 (lt : Nat))]
def OD (hb hz hw lt : Nat) : List AV := [.int .i64 1, .int .i64 1, .bool true, .bool true, .bool true, .bool true, .bool true, .bool true, .bool true, .bool true, .bool true, .bool true, .int .i64 1, .int .i64 1, .bool true, .bool true, .bool true, .bool true, .bool true, .bool true, .bool true, .bool true, .bool true, .bool true, lf 0, lf 0, lf 5, .bool false, lf 6, .int .u8 (hb : Nat), lf 1, lf 1, .bool false, lf 1, lf 7, .bool false, lf 8, .int .u16 1, lf 3, lf 9, .bool false, lf 10, .int .u8 (hz : Nat), lf 2, lf 11, .bool false, lf 12, .int .u8 (hw : Nat), lf 4, .bool false, lf 4, lf 13, .bool false, lf 14, .int .u16 (lt : Nat)]
noncomputable def runD (hb hz hw lt : Nat) : Option AV := (fP 600 144 [.agg [lf 0, lf 1, lf 2, lf 3, lf 4], .agg [lf 0, lf 1, lf 2, lf 3, lf 4]] (FS.none' (OD hb hz hw lt))).said (UD hb hz hw lt)
/-- Baud, patience, window, size, pause: as may be. -/
def okD (wt : Nat) : Option AV → Bool
  | some (.tup [.agg [.int .i64 (.ofNat bd), .int .i64 (.ofNat si), .int .i64 (.ofNat wn), .int .i64 (.ofNat sz), .int .i64 (.ofNat w)], .bool b]) => b && (Nat.ble 32 bd && (Nat.ble bd 256 && (Nat.beq si 200 && (Nat.ble 1 wn && (Nat.ble wn 7 && (Nat.ble 8 sz && (Nat.ble sz 64 && Nat.beq w wt)))))))
  | _ => false
noncomputable def allD (hb : Nat) : Bool := [1, 2, 3, 4].all fun hz => [1, 2, 3, 4, 5, 6, 7].all fun hw => [0, 1, 2].all fun k => okD k (runD hb hz hw (2 ^ k))
theorem allD1 : allD 1 = true := by kernel_rfl
theorem allD2 : allD 2 = true := by kernel_rfl
theorem allD3 : allD 3 = true := by kernel_rfl
theorem allD4 : allD 4 = true := by kernel_rfl
theorem okD_some {wt : Nat} {r : Option AV} (h : okD wt r = true) : ∃ bd wn sz : Nat, r = some (.tup [.agg [.int .i64 bd, .int .i64 (200 : Nat), .int .i64 wn, .int .i64 sz, .int .i64 wt], .bool true]) ∧ 32 ≤ bd ∧ bd ≤ 256 ∧ 1 ≤ wn ∧ wn ≤ 7 ∧ 8 ≤ sz ∧ sz ≤ 64 := by
  unfold okD at h
  split at h
  · rename_i bd si wn sz w b
    simp only [Bool.and_eq_true] at h
    obtain ⟨hb, h1, h2, hs, h3, h4, h5, h6, hw⟩ := h
    have := Nat.eq_of_beq_eq_true hs
    have := Nat.eq_of_beq_eq_true hw
    subst_vars
    exact ⟨bd, wn, sz, rfl, Nat.le_of_ble_eq_true h1, Nat.le_of_ble_eq_true h2, Nat.le_of_ble_eq_true h3, Nat.le_of_ble_eq_true h4, Nat.le_of_ble_eq_true h5, Nat.le_of_ble_eq_true h6⟩
  · cases h
/-- The class of a number: how many bits it has; its lowest bit. -/
def bl (n : Nat) : Nat := if n < 2 then 1 else if n < 4 then 2 else if n < 8 then 3 else if n < 16 then 4 else if n < 32 then 5 else if n < 64 then 6 else 7
theorem len8_at : ∀ n, n < 128 → 1 ≤ n → len8[n]? = some (UInt8.ofNat (bl n)) := by decide
theorem bl_8 : ∀ n, n < 128 → ((UInt8.ofNat (bl n)).toNat : Nat) = bl n := by decide
theorem bl_16' : ∀ n, n < 16 → bl n = 1 ∨ bl n = 2 ∨ bl n = 3 ∨ bl n = 4 := by decide
theorem bl_16 {n : Nat} (h1 : n ≤ 15) : bl n = 1 ∨ bl n = 2 ∨ bl n = 3 ∨ bl n = 4 := bl_16' n (by omega)
theorem bl_128 (n : Nat) : bl n ∈ [1, 2, 3, 4, 5, 6, 7] := by
  unfold bl
  repeat' split
  all_goals simp
theorem ix_ok {p : Nat} (h : p < 128) (h1 : 1 ≤ p) {g : Sg} {i : Nat} (hi : sv g (lf i) = .int .u8 (p : Int)) : NtOk g cxM (.ixs (.str len8) (lf i) (.int .u8 (bl p : Nat))) := by
  refine ⟨len8, p, UInt8.ofNat (bl p), rfl, ?_, len8_at p h h1, ?_⟩
  · rw [hi]
    show (if 0 ≤ (p : Int) ∧ (p : Int) < (len8.length : Int) then some (p : Int).toNat else none) = some p
    rw [if_pos ⟨by omega, by show (p : Int) < 256; omega⟩]; rfl
  · show AV.int .u8 (bl p : Nat) = .int .u8 ((UInt8.ofNat (bl p)).toNat : Nat)
    rw [bl_8 p h]
theorem and_same : ∀ p : Nat, p < 128 → binV .and (.int .i64 (p : Int)) (.int .i64 (p : Int)) = some (.int .i64 (p : Int)) := by
  intro p hp
  have e : (BitVec.ofInt 64 (p : Int)).toNat = p := ofInt_nat 64 p (by omega)
  show some (AV.int .i64 (IntKind.i64.wrap (BitVec.ofInt 64 (p : Int) &&& BitVec.ofInt 64 (p : Int)).toNat)) = _
  rw [BitVec.toNat_and, e, Nat.and_self, wrap64 (by omega)]
theorem and_full : ∀ p : Nat, p < 128 → binV .and (.int .i64 (p : Int)) (.int .i64 (65535 : Nat)) = some (.int .i64 (p : Int)) := by
  intro p hp
  have e : (BitVec.ofInt 64 (p : Int)).toNat = p := ofInt_nat 64 p (by omega)
  have e2 : (BitVec.ofInt 64 ((65535 : Nat) : Int)).toNat = 65535 := rfl
  show some (AV.int .i64 (IntKind.i64.wrap (BitVec.ofInt 64 (p : Int) &&& BitVec.ofInt 64 ((65535 : Nat) : Int)).toNat)) = _
  rw [BitVec.toNat_and, e, e2, show p &&& 65535 = p by rw [show 65535 = 2 ^ 16 - 1 from rfl, Nat.and_two_pow_sub_one_eq_mod]; omega, wrap64 (by omega)]
theorem geq_no {k : IntKind} {p c : Nat} (h : p < c) : binV .geq (.int k (p : Int)) (.int k (c : Int)) = some (.bool false) := by
  cases k <;> (show some (AV.bool (decide ((p : Int) ≥ (c : Int)))) = _; rw [decide_eq_false (by omega)])
theorem eql_no {k : IntKind} {p c : Nat} (h : p ≠ c) : binV .eql (.int k (p : Int)) (.int k (c : Int)) = some (.bool false) := by
  have : ((p : Int) == (c : Int)) = false := by simp; omega
  cases k <;> (show some (AV.bool ((p : Int) == (c : Int))) = _; rw [this])
theorem neg_ok : ∀ p : Nat, p < 8 → 1 ≤ p → unV .neg (.int .u16 (p : Int)) = some (.int .u16 ((65536 - p : Nat) : Int)) := by
  intro p h1 h2
  have : p = 1 ∨ p = 2 ∨ p = 3 ∨ p = 4 ∨ p = 5 ∨ p = 6 ∨ p = 7 := by omega
  rcases this with rfl | rfl | rfl | rfl | rfl | rfl | rfl <;> rfl
def lowB (p : Nat) : Nat := if p % 2 = 1 then 0 else if p % 4 = 2 then 1 else 2
theorem low_ok : ∀ p : Nat, p < 8 → 1 ≤ p → binV .and (.int .u16 (p : Int)) (.int .u16 ((65536 - p : Nat) : Int)) = some (.int .u16 ((2 ^ lowB p : Nat) : Int)) := by
  intro p h1 h2
  have : p = 1 ∨ p = 2 ∨ p = 3 ∨ p = 4 ∨ p = 5 ∨ p = 6 ∨ p = 7 := by omega
  rcases this with rfl | rfl | rfl | rfl | rfl | rfl | rfl <;> rfl
theorem low_odd (p : Nat) (h : p % 2 = 1) : lowB p = 0 := by unfold lowB; rw [if_pos h]
theorem low_3 (p : Nat) : lowB p ∈ [0, 1, 2] := by
  unfold lowB
  repeat' split
  all_goals simp
theorem lD {nb ns nw nz nt : Nat} : (VD nb ns nw nz nt).all lfOk = true := rfl
theorem uD {nb ns nw nz nt : Nat} (h : Off nb ns nw nz nt) : ∀ a ∈ UD (bl nb) (bl nz) (bl nw) (2 ^ lowB nt), NtOk (Sg.of (Lo (VD nb ns nw nz nt)) (Lo_ok lD)) cxM a :=
  all_cons (show NtOk _ _ (.bin .and (lf 0) (.int .i64 1) (.int .i64 1)) from and1_ok (Nat.lt_of_le_of_lt h.b2 (by decide)) h.bo) <|
  all_cons (show NtOk _ _ (.bin .and (lf 1) (.int .i64 1) (.int .i64 1)) from and1_ok (Nat.lt_of_le_of_lt h.s2 (by decide)) h.so) <|
  all_cons (show NtOk _ _ (.bin .geq (lf 0) (.int .i64 1) (.bool true)) from geq_ok h.b1) <|
  all_cons (show NtOk _ _ (.bin .leq (lf 0) (.int .i64 15) (.bool true)) from leq_ok h.b2) <|
  all_cons (show NtOk _ _ (.bin .geq (lf 1) (.int .i64 1) (.bool true)) from geq_ok h.s1) <|
  all_cons (show NtOk _ _ (.bin .leq (lf 1) (.int .i64 7) (.bool true)) from leq_ok h.s2) <|
  all_cons (show NtOk _ _ (.bin .geq (lf 2) (.int .i64 1) (.bool true)) from geq_ok h.w1) <|
  all_cons (show NtOk _ _ (.bin .leq (lf 2) (.int .i64 127) (.bool true)) from leq_ok h.w2) <|
  all_cons (show NtOk _ _ (.bin .geq (lf 3) (.int .i64 1) (.bool true)) from geq_ok h.z1) <|
  all_cons (show NtOk _ _ (.bin .leq (lf 3) (.int .i64 15) (.bool true)) from leq_ok h.z2) <|
  all_cons (show NtOk _ _ (.bin .geq (lf 4) (.int .i64 1) (.bool true)) from geq_ok h.t1) <|
  all_cons (show NtOk _ _ (.bin .leq (lf 4) (.int .i64 7) (.bool true)) from leq_ok h.t2) <|
  all_cons (show NtOk _ _ (.bin .and (lf 0) (lf 0) (lf 0)) from and_same _ (Nat.lt_of_le_of_lt h.b2 (by decide))) <|
  all_cons (show NtOk _ _ (.bin .and (lf 0) (.int .i64 65535) (lf 0)) from and_full _ (Nat.lt_of_le_of_lt h.b2 (by decide))) <|
  all_cons (show NtOk _ _ (.conv (.toInt .u16) (lf 0) (lf 5)) from cv (Nat.lt_of_le_of_lt h.b2 (by decide))) <|
  all_cons (show NtOk _ _ (.bin .geq (lf 5) (.int .u16 256) (.bool false)) from geq_no (Nat.lt_of_le_of_lt h.b2 (by decide))) <|
  all_cons (show NtOk _ _ (.conv (.toInt .u8) (lf 5) (lf 6)) from cv (Nat.lt_of_le_of_lt h.b2 (by decide))) <|
  all_cons (show NtOk _ _ (.ixs (.str len8) (lf 6) (.int .u8 (bl nb : Nat))) from ix_ok (Nat.lt_of_le_of_lt h.b2 (by decide)) h.b1 rfl) <|
  all_cons (show NtOk _ _ (.bin .and (lf 1) (lf 1) (lf 1)) from and_same _ (Nat.lt_of_le_of_lt h.s2 (by decide))) <|
  all_cons (show NtOk _ _ (.bin .and (lf 1) (.int .i64 65535) (lf 1)) from and_full _ (Nat.lt_of_le_of_lt h.s2 (by decide))) <|
  all_cons (show NtOk _ _ (.bin .eql (lf 1) (.int .i64 0) (.bool false)) from eql_no (Nat.ne_of_gt h.s1)) <|
  all_cons (show NtOk _ _ (.conv (.toInt .u16) (lf 1) (lf 7)) from cv (Nat.lt_of_le_of_lt h.s2 (by decide))) <|
  all_cons (show NtOk _ _ (.bin .eql (lf 7) (.int .u16 0) (.bool false)) from eql_no (Nat.ne_of_gt h.s1)) <|
  all_cons (show NtOk _ _ (.un .neg (lf 7) (lf 8)) from neg_ok _ (Nat.lt_of_le_of_lt h.s2 (by decide)) h.s1) <|
  all_cons (show NtOk _ _ (.bin .and (lf 7) (lf 8) (.int .u16 1)) from (by have := low_ok ns (Nat.lt_of_le_of_lt h.s2 (by decide)) h.s1; rw [low_odd ns h.so] at this; exact this)) <|
  all_cons (show NtOk _ _ (.bin .and (lf 3) (.int .i64 65535) (lf 3)) from and_full _ (Nat.lt_of_le_of_lt h.z2 (by decide))) <|
  all_cons (show NtOk _ _ (.conv (.toInt .u16) (lf 3) (lf 9)) from cv (Nat.lt_of_le_of_lt h.z2 (by decide))) <|
  all_cons (show NtOk _ _ (.bin .geq (lf 9) (.int .u16 256) (.bool false)) from geq_no (Nat.lt_of_le_of_lt h.z2 (by decide))) <|
  all_cons (show NtOk _ _ (.conv (.toInt .u8) (lf 9) (lf 10)) from cv (Nat.lt_of_le_of_lt h.z2 (by decide))) <|
  all_cons (show NtOk _ _ (.ixs (.str len8) (lf 10) (.int .u8 (bl nz : Nat))) from ix_ok (Nat.lt_of_le_of_lt h.z2 (by decide)) h.z1 rfl) <|
  all_cons (show NtOk _ _ (.bin .and (lf 2) (.int .i64 65535) (lf 2)) from and_full _ (Nat.lt_of_le_of_lt h.w2 (by decide))) <|
  all_cons (show NtOk _ _ (.conv (.toInt .u16) (lf 2) (lf 11)) from cv (Nat.lt_of_le_of_lt h.w2 (by decide))) <|
  all_cons (show NtOk _ _ (.bin .geq (lf 11) (.int .u16 256) (.bool false)) from geq_no (Nat.lt_of_le_of_lt h.w2 (by decide))) <|
  all_cons (show NtOk _ _ (.conv (.toInt .u8) (lf 11) (lf 12)) from cv (Nat.lt_of_le_of_lt h.w2 (by decide))) <|
  all_cons (show NtOk _ _ (.ixs (.str len8) (lf 12) (.int .u8 (bl nw : Nat))) from ix_ok (Nat.lt_of_le_of_lt h.w2 (by decide)) h.w1 rfl) <|
  all_cons (show NtOk _ _ (.bin .and (lf 4) (.int .i64 65535) (lf 4)) from and_full _ (Nat.lt_of_le_of_lt h.t2 (by decide))) <|
  all_cons (show NtOk _ _ (.bin .eql (lf 4) (.int .i64 0) (.bool false)) from eql_no (Nat.ne_of_gt h.t1)) <|
  all_cons (show NtOk _ _ (.conv (.toInt .u16) (lf 4) (lf 13)) from cv (Nat.lt_of_le_of_lt h.t2 (by decide))) <|
  all_cons (show NtOk _ _ (.bin .eql (lf 13) (.int .u16 0) (.bool false)) from eql_no (Nat.ne_of_gt h.t1)) <|
  all_cons (show NtOk _ _ (.un .neg (lf 13) (lf 14)) from neg_ok _ (Nat.lt_of_le_of_lt h.t2 (by decide)) h.t1) <|
  all_cons (show NtOk _ _ (.bin .and (lf 13) (lf 14) (.int .u16 (2 ^ lowB nt : Nat))) from low_ok _ (Nat.lt_of_le_of_lt h.t2 (by decide)) h.t1) <|
  all_nil
theorem sem_deal {nb ns nw nz nt : Nat} (h : Off nb ns nw nz nt) : ∃ bd wn sz : Nat, (32 ≤ bd ∧ bd ≤ 256 ∧ 1 ≤ wn ∧ wn ≤ 7 ∧ 8 ≤ sz ∧ sz ≤ 64) ∧
    hSem 144 [.agg [.int .i64 nb, .int .i64 ns, .int .i64 nw, .int .i64 nz, .int .i64 nt], .agg [.int .i64 nb, .int .i64 ns, .int .i64 nw, .int .i64 nz, .int .i64 nt]] St.nil = some (.tup [.agg [.int .i64 bd, .int .i64 (200 : Nat), .int .i64 wn, .int .i64 sz, .int .i64 (lowB nt : Nat)], .bool true]) := by
  have ha : allD (bl nb) = true := by
    rcases bl_16 h.b2 with q | q | q | q <;> rw [q]
    · exact allD1
    · exact allD2
    · exact allD3
    · exact allD4
  have hz : bl nz ∈ [1, 2, 3, 4] := by rcases bl_16 h.z2 with q | q | q | q <;> rw [q] <;> simp
  have h1 := List.all_eq_true.1 (List.all_eq_true.1 (List.all_eq_true.1 ha _ hz) _ (bl_128 nw)) _ (low_3 nt)
  obtain ⟨bd, wn, sz, h2, q1, q2, q3, q4, q5, q6⟩ := okD_some h1
  exact ⟨bd, wn, sz, ⟨q1, q2, q3, q4, q5, q6⟩, sem_to lD h2 (uD h) rfl rfl rfl rfl⟩
end Go.Proofs.YtgflghhffmjojaaGreatDoor
