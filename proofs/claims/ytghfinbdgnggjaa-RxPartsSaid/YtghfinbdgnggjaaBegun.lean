/- begun answers true; bytes with their sum are fine. No conditions. -/
import Derived.Test.YtghfinbdgnggjaaF3
import Derived.Test.YtghfinbdgnggjaaArg
set_option linter.unusedSimpArgs false
namespace Go.Ab
open Go
theorem IsBytes.bys {x : AV} {b : List UInt8} (h : IsBytes x b) : Bys x b := by
  rcases h with h | h
  · exact .inl h
  · exact .inr ⟨_, h⟩
end Go.Ab
namespace Go.Proofs.Ytghfinbdgnggjaa
open Go Go.Ab
theorem begun0 : Ab.saysTrue (ev 999 19 [] St.nil) = true := by kernel_rfl
theorem says_some {r : Option (AV × St)} (h : Ab.saysTrue r = true) : ∃ s, r = some (.bool true, s) := by
  unfold Ab.saysTrue at h
  split at h
  · exact ⟨_, rfl⟩
  · cases h
theorem begun_ev : ∃ s, ev 999 19 [] St.nil = some (.bool true, s) := says_some begun0
theorem crcFine_put (xs : List UInt8) : crcFine (crcPut xs) = true := by
  simp [crcFine, crcPut]
theorem num16 {n : Int} (h : (Lit.int .u16 n).wf = true) : ∃ c : BitVec 16, AV.int .u16 n = u16 c := by
  have hb : 0 ≤ n ∧ n ≤ 65535 := by simpa [Lit.wf, IntKind.min, IntKind.max, IntKind.signed, IntKind.bits] using h
  refine ⟨BitVec.ofNat 16 n.toNat, ?_⟩
  simp only [u16, BitVec.toNat_ofNat]
  congr 1
  omega
theorem num8 {n : Int} (h : (Lit.int .u8 n).wf = true) : ∃ c : UInt8, AV.int .u8 n = u8v c := by
  have hb : 0 ≤ n ∧ n ≤ 255 := by simpa [Lit.wf, IntKind.min, IntKind.max, IntKind.signed, IntKind.bits] using h
  refine ⟨UInt8.ofNat n.toNat, ?_⟩
  simp only [u8v, UInt8.toNat_ofNat']
  congr 1
  omega
theorem num64 {n : Int} (h : (Lit.int .i64 n).wf = true) : -9223372036854775808 ≤ n ∧ n ≤ 9223372036854775807 := by
  simpa [Lit.wf, IntKind.min, IntKind.max, IntKind.signed, IntKind.bits] using h
end Go.Proofs.Ytghfinbdgnggjaa
