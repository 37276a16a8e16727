/- TopRefuse: what its runs share. No conditions. -/
import Derived.Test.YtgflghhffmjojaaGreatDoorHd
import Derived.Test.YtgflghhffmjojaaGreatDoorHb
import Derived.Test.YtgflghhffmjojaaGreatDoorHrD
import Derived.Test.YtgflghhffmjojaaGreatDoorHu
set_option linter.unusedSimpArgs false
set_option linter.unusedVariables false
set_option maxRecDepth 100000
set_option maxHeartbeats 4000000
namespace Go.Proofs.YtgflghhffmjojaaGreatDoor
open Go Go.Ab
open wr
def U135 : List Nt := [.bin .and (lf 0) (.int .i64 1) (.int .i64 1), .bin .and (lf 1) (.int .i64 1) (.int .i64 1), .bin .geq (lf 0) (.int .i64 1) (.bool true), .bin .leq (lf 0) (.int .i64 15) (.bool true), .bin .geq (lf 1) (.int .i64 1) (.bool true), .bin .leq (lf 1) (.int .i64 7) (.bool true), .bin .geq (lf 2) (.int .i64 1) (.bool true), .bin .leq (lf 2) (.int .i64 127) (.bool true), .bin .geq (lf 3) (.int .i64 1) (.bool true), .bin .leq (lf 3) (.int .i64 15) (.bool true), .bin .geq (lf 4) (.int .i64 1) (.bool true), .bin .leq (lf 4) (.int .i64 7) (.bool true)]
theorem r135 : (fP 600 135 [.agg [lf 0, lf 1, lf 2, lf 3, lf 4]] (FS.none' [.int .i64 1, .int .i64 1, .bool true, .bool true, .bool true, .bool true, .bool true, .bool true, .bool true, .bool true, .bool true, .bool true])).said U135 = some (.bool true) := by kernel_rfl
theorem s135 {nb ns nw nz nt : Nat} (h : Off nb ns nw nz nt) : hSem 135 [.agg [.int .i64 nb, .int .i64 ns, .int .i64 nw, .int .i64 nz, .int .i64 nt]] St.nil = some (.bool true) := by
  have hv : [AV.int .i64 nb, .int .i64 ns, .int .i64 nw, .int .i64 nz, .int .i64 nt].all lfOk = true := rfl
  have lb : nb < 16 := Nat.lt_of_le_of_lt h.b2 (by decide)
  have ls : ns < 16 := Nat.lt_of_le_of_lt h.s2 (by decide)
  exact sem_to hv r135 (all_cons (show NtOk _ _ (.bin .and (lf 0) (.int .i64 1) (.int .i64 1)) from and1_ok lb h.bo) <| all_cons (show NtOk _ _ (.bin .and (lf 1) (.int .i64 1) (.int .i64 1)) from and1_ok ls h.so) <|
    all_cons (geq_ok h.b1) <| all_cons (leq_ok h.b2) <| all_cons (geq_ok h.s1) <| all_cons (leq_ok h.s2) <| all_cons (geq_ok h.w1) <| all_cons (leq_ok h.w2) <| all_cons (geq_ok h.z1) <| all_cons (leq_ok h.z2) <| all_cons (geq_ok h.t1) <| all_cons (leq_ok h.t2) <| all_nil) rfl rfl rfl rfl
theorem wrapB_len (l : List UInt8) : l.length + 5 ≤ (wrapB l 1).length ∧ (wrapB l 1).length ≤ 2 * l.length + 7 := by
  have h1 := esc_length (crcPut l)
  have h2 := crcPut_length l
  have h4 : wr.ahead 1 = 1 := rfl
  have h5 : ∀ xs : List UInt8, xs.length ≤ (esc xs).length := by
    intro xs
    unfold esc
    induction xs with
    | nil => simp
    | cons x xs ih =>
      rw [List.flatMap_cons, List.length_append, List.length_cons]
      have : 1 ≤ (escB x).length := by unfold escB; split <;> simp
      omega
  have h6 := h5 (crcPut l)
  simp only [wrapB, List.length_append, List.length_replicate, List.length_cons, List.length_nil, h4]
  omega
theorem wrapB_pos (l : List UInt8) : (wrapB l 1).length ≠ 0 := by have := (wrapB_len l).1; omega
theorem wrapB_ne (l : List UInt8) : wrapB l 1 ≠ [] := fun h => wrapB_pos l (by rw [h]; rfl)
theorem clone28 (l : List UInt8) (h : l.length = 28) : hSem 98 [slB (wrapB l 1)] St.nil = some (slB (wrapB l 1)) := by
  have := wrapB_len l
  exact sem_clone _ (by omega) (wrapB_ne _)
theorem ticks33 (l : List UInt8) (h1 : 28 ≤ l.length) (h2 : l.length ≤ 28) : hSem 83 [.int .i64 ((wrapB l 1).length : Nat), .int .i64 32] St.nil = some (.int .i64 2) := by
  have := wrapB_len l
  exact sem_ticks _ 32 1 (by omega) (by omega) (by decide) (by omega) (by decide)
theorem fits_w (l : List UInt8) (h : l.length ≤ 1000) : fits (0 + (wrapB l 1).length) 1 = true := by
  have := wrapB_len l
  simp [fits]; omega
theorem mn_l {p c : Nat} (h : p ≤ c) : foldV mnV (.int .i64 (p : Int)) [.int .i64 (c : Int)] = some (.int .i64 (p : Int)) := by
  show (match mnV (.int .i64 (p : Int)) (.int .i64 (c : Int)) with | some z => some z | none => none) = _
  show some (AV.int .i64 (if (c : Int) < (p : Int) then (c : Int) else (p : Int))) = _
  rw [if_neg (by omega)]
theorem mx_l {p c : Nat} (h : c ≤ p) : foldV mxV (.int .i64 (p : Int)) [.int .i64 (c : Int)] = some (.int .i64 (p : Int)) := by
  show some (AV.int .i64 (if (c : Int) > (p : Int) then (c : Int) else (p : Int))) = _
  rw [if_neg (by omega)]
theorem mn_0 {p : Nat} (h : 1 ≤ p) : foldV mnV (.int .i64 (p : Int)) [.int .i64 0] = some (.int .i64 0) := by
  show some (AV.int .i64 (if (0 : Int) < (p : Int) then (0 : Int) else (p : Int))) = _
  rw [if_pos (by omega)]
end Go.Proofs.YtgflghhffmjojaaGreatDoor
