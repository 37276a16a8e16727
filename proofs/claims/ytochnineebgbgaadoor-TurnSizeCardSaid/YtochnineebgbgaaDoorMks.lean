/- Texts of bytes of one's own. No conditions. -/
import Derived.Test.YtochnineebgbgaaDoorSet
set_option linter.unusedSimpArgs false
set_option linter.unusedVariables false
namespace Go.Ab
open Go
def mksV' (size bytes : Nat) (zs : List AV) (s : St) (l c : AV) : Option (AV × St) :=
  match l, c with
  | .int .i64 l, .int .i64 c => if l = c ∧ 0 ≤ l ∧ fits l.toNat bytes = true then
        some (.hs size s.next 0 l.toNat, s.new (.cells size ((List.replicate l.toNat zs).flatten))) else none
  | _, _ => none
theorem ev1_mksV' (gl : Nat → AV) (call : Calls') (e : Env) (s : St) (m b : Nat) (z : List AV) (l c : Opd) : ev1 gl call e s (.mks m b z l c) = wR (mksV' m b z s (opd gl e l) (opd gl e c)) := by
  rw [ev1_mks]; rfl
theorem zeros' (n : Nat) : ((List.replicate n [AV.int .u8 0]).flatten) = bytesAV (List.replicate n 0) := by
  induction n with
  | zero => rfl
  | succ n ih => rw [List.replicate_succ, List.flatten_cons, ih]; simp [bytesAV, List.replicate_succ]
theorem mks_n' (s : St) (n : Nat) (h : n ≤ 1000000000) : mksV' 1 1 [.int .u8 0] s (.int .i64 (n : Int)) (.int .i64 (n : Int)) = some (.hs 1 s.next 0 n, s.new (.cells 1 (bytesAV (List.replicate n 0)))) := by
  simp only [mksV', Int.toNat_natCast, zeros']
  rw [if_pos ⟨trivial, by omega, fits_small h⟩]
def hsStr (s : St) (v : AV) : Option AV :=
  match v with
  | .hs _ b o n => match s.get b with
    | some (.cells z cs) => if z = 1 ∧ o + n ≤ cs.length then (toBytes ((cs.drop o).take n)).map .str else none
    | _ => none
  | _ => none
theorem ev1_b2s_hs (gl : Nat → AV) (call : Calls') (e : Env) (s : St) (x : Opd) (z b o n : Nat) (v : AV) (h : opd gl e x = .hs z b o n) (hv : hsStr s (.hs z b o n) = some v) : ev1 gl call e s (.conv .b2s x) = some (v, s, 1) := by
  rw [ev1_conv]
  have h1 : convP .b2s (.hs z b o n) = none := rfl
  have h2 : evR gl e s (.conv .b2s x) = some v := by
    simp only [evR, h]
    simp only [hsStr] at hv
    revert hv
    generalize s.get b = q
    cases q with
    | none => exact fun h => h
    | some y => cases y <;> simp
  simp only [h, h1, h2]
def b2sF (s : St) (v : AV) : Option (AV × St × Nat) :=
  match hsStr s v with
  | some w => some (w, s, 1)
  | none => none
theorem ev1_b2sF (gl : Nat → AV) (call : Calls') (e : Env) (s : St) (x : Opd) (z b o n : Nat) (h : opd gl e x = .hs z b o n) (w : AV) (hv : hsStr s (.hs z b o n) = some w) : ev1 gl call e s (.conv .b2s x) = b2sF s (opd gl e x) := by
  rw [ev1_b2s_hs gl call e s x z b o n w h hv, b2sF, h, hv]
def evRc (s : St) (c : Cv) (v : AV) : Option AV :=
  match v with
  | .hs _ b o n => match s.get b with
      | some (.cells z cs) => if z = 1 ∧ c = .b2s ∧ o + n ≤ cs.length then (toBytes ((cs.drop o).take n)).map .str else none
      | _ => none
  | _ => none
theorem evR_conv (gl : Nat → AV) (e : Env) (s : St) (c : Cv) (x : Opd) : evR gl e s (.conv c x) = evRc s c (opd gl e x) := rfl
theorem convP_hs (z b o n : Nat) : convP .b2s (.hs z b o n) = none := (id rfl)
theorem evRc_hs (s : St) (z b o n : Nat) : evRc s .b2s (.hs z b o n) = hsStr s (.hs z b o n) := by
  simp only [evRc, hsStr]
  generalize s.get b = q
  cases q with
  | none => rfl
  | some y => cases y <;> simp
theorem hsStr_own (s : St) (n : Nat) : hsStr (s.new (.cells 1 (bytesAV (List.replicate n 0)))) (.hs 1 s.next 0 n) = some (.str (List.replicate n 0)) := by
  simp only [hsStr, get_new_eq]
  rw [if_pos ⟨trivial, by simp [bytesAV_length]⟩, List.drop_zero]
  have : (bytesAV (List.replicate n (0 : UInt8))).take n = bytesAV (List.replicate n 0) := by
    have hl : (bytesAV (List.replicate n (0 : UInt8))).length = n := by simp [bytesAV_length]
    conv => lhs; rw [show n = (bytesAV (List.replicate n (0 : UInt8))).length from hl.symm]
    simp [bytesAV]
  rw [this, toBytes_bytesAV]
  rfl
end Go.Ab
