/- Bytes of a text that are stored into. No conditions. -/
import Derived.Test.YtbeimfhodgmjhaaDoorSet
import Derived.Test.YtbeimfhodgmjhaaDoorHs
set_option linter.unusedSimpArgs false
namespace Go.Ab
open Go
def s2hR (s : St) (v : AV) : Option (AV × St × Nat) :=
  match v with
  | .str b => if b.length ≤ 140737488355328 then some (.hs 1 s.next 0 b.length, s.new (.cells 1 (bytesAV b)), 2) else none
  | _ => none
theorem ev1_s2hR (gl : Nat → AV) (call : Calls') (e : Env) (s : St) (x : Opd) : ev1 gl call e s (.conv .s2h x) = s2hR s (opd gl e x) := by
  rw [ev1_conv]
  have h1 : convP .s2h (opd gl e x) = none := by cases opd gl e x <;> rfl
  have h2 : evR gl e s (.conv .s2h x) = none := by
    simp only [evR]
    generalize opd gl e x = v
    cases v with
    | hs z b o n =>
      simp only
      generalize s.get b = q
      cases q with
      | none => rfl
      | some y => cases y <;> simp
    | _ => rfl
  simp only [h1, h2, evW, s2hR]
  generalize opd gl e x = v
  cases v with
  | str b => simp only; split <;> rfl
  | _ => rfl
theorem s2hR_str (s : St) (b : List UInt8) (h : b.length ≤ 1000) : s2hR s (.str b) = some (.hs 1 s.next 0 b.length, s.new (.cells 1 (bytesAV b)), 2) := if_pos (by omega)
def b2sQ (s : St) (v : AV) : Option AV :=
  match v with
  | .hs _ b o n => match s.get b with
    | some (.cells z cs) => if z = 1 ∧ o + n ≤ cs.length then (toBytes ((cs.drop o).take n)).map .str else none
    | _ => none
  | _ => none
def b2sH (s : St) (v : AV) : Option (AV × St × Nat) :=
  match convP .b2s v with
  | some w => some (w, s, 0)
  | none => match b2sQ s v with
    | some w => some (w, s, 1)
    | none => none
theorem ev1_b2sH (gl : Nat → AV) (call : Calls') (e : Env) (s : St) (x : Opd) : ev1 gl call e s (.conv .b2s x) = b2sH s (opd gl e x) := by
  rw [ev1_conv]
  have h2 : evR gl e s (.conv .b2s x) = b2sQ s (opd gl e x) := by
    simp only [evR, b2sQ]
    generalize opd gl e x = v
    cases v with
    | hs z b o n =>
      simp only
      generalize s.get b = q
      cases q with
      | none => rfl
      | some y => cases y <;> simp
    | _ => rfl
  have h3 : wR (evW gl e s (.conv .b2s x)) = none := rfl
  simp only [h2, h3, b2sH]
  cases convP .b2s (opd gl e x) <;> cases b2sQ s (opd gl e x) <;> rfl
theorem b2sH_has {s : St} {b : Nat} {xs : List UInt8} (h : Has s b xs) : b2sH s (.hs 1 b 0 xs.length) = some (.str xs, s, 1) := by
  have h1 : convP .b2s (.hs 1 b 0 xs.length) = none := rfl
  unfold Has at h
  simp only [b2sH, h1, b2sQ, h]
  rw [if_pos ⟨trivial, by simp [bytesAV_length]⟩, show ((bytesAV xs).drop 0).take xs.length = bytesAV xs from by rw [List.drop_zero]; exact List.take_of_length_le (by simp [bytesAV_length]), toBytes_bytesAV]
  rfl
end Go.Ab
