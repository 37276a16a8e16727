/- A word of a device with one byte turned. No conditions. -/
import Derived.Test.YtbeimfhodgmjhaaDoorUnl
import Derived.Test.YtbeimfhodgmjhaaDoorS2h
import Derived.Test.YtbeimfhodgmjhaaDoorM8_15
set_option linter.unusedSimpArgs false
set_option linter.unusedVariables false
set_option maxRecDepth 100000
set_option maxHeartbeats 4000000
namespace Go.Proofs.YtbeimfhodgmjhaaDoor
open Go Go.Ab
theorem getX_some {t : List UInt8} {y : Xi} (h : getX t = some y) : rdX t = some y ∧ y.may ∧ putX y = t := by
  unfold getX at h
  split at h
  · rename_i x hx
    split at h
    · rename_i hm
      cases h
      exact ⟨hx, hm.1, hm.2⟩
    · cases h
  · cases h
theorem rdX_ok {t : List UInt8} {y : Xi} (h : rdX t = some y) : y.ok := by
  unfold rdX at h
  split at h
  · cases h
    exact ⟨num4_32 _ _ _ _, num4_32 _ _ _ _⟩
  · cases h
theorem putX_len (x : Xi) : (putX x).length = 11 + x.nk.length := by simp [putX, four]; omega
theorem turn_iff (x y : Xi) (hx : x.ok) (hm : x.may) (k : Nat) (hk : k < (putX x).length) (b : UInt8) (h : getX ((putX x).set k b) = some y) : y = x ↔ (putX x)[k] = b := by
  obtain ⟨h1, h2, h3⟩ := getX_some h
  constructor
  · rintro rfl
    have : ((putX y).set k b)[k]'(by simpa using hk) = b := by simp
    rw [← this]
    congr 1
  · intro e
    have : (putX x).set k b = putX x := by rw [← e]; exact List.set_getElem_self hk
    rw [this, rdX_putX x hx hm] at h1
    exact (Option.some.inj h1).symm
theorem u8_eql' (a b : UInt8) : binV .eql (u8v a) (u8v b) = some (.bool (a == b)) := by
  show some (AV.bool (((a.toNat : Nat) : Int) == ((b.toNat : Nat) : Int))) = _
  refine congrArg (fun c => some (AV.bool c)) ?_
  rw [Bool.eq_iff_iff, beq_iff_eq, beq_iff_eq]
  exact ⟨fun h => UInt8.toNat_inj.1 (by omega), fun h => by rw [h]⟩
end Go.Proofs.YtbeimfhodgmjhaaDoor
