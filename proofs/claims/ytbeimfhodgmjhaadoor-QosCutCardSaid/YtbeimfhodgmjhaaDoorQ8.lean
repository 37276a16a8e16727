/- What two agree on: helpers for the laws. No conditions. -/
import Derived.Test.YtbeimfhodgmjhaaDoorQ7
set_option linter.unusedSimpArgs false
set_option linter.unusedVariables false
set_option maxRecDepth 100000
namespace Go.Proofs.YtbeimfhodgmjhaaDoor
open Go Go.Ab
theorem eq5 (a b c d e : Int) : eqAV (.flat (.many [SK.i, SK.i, SK.i, SK.i, SK.i])) (.agg [.int .i64 a, .int .i64 b, .int .i64 c, .int .i64 d, .int .i64 e]) (.agg [.int .i64 a, .int .i64 b, .int .i64 c, .int .i64 d, .int .i64 e]) = some true := by
  simp [eqAV, eqFl, eqScL, eqSc]
theorem eqB (a : Bool) : eqAV (.flat (.one SK.b)) (.bool a) (.bool a) = some true := by cases a <;> rfl
theorem ieq (a : Int) : binV .eql (.int .i64 a) (.int .i64 a) = some (.bool true) := by
  show some (AV.bool (a == a)) = _
  simp
/-- What a deal comes to, whatever the offers. -/
theorem deal_some (m o : Of5) : ∃ (D : Of5) (t : Bool), (if m.may ∧ o.may then AV.tup [.agg (dealO m o).cells, .bool true] else .tup [.agg (ofC 0 0 0 0 0), .bool false]) = .tup [.agg D.cells, .bool t] ∧ (t = true → m.may ∧ o.may ∧ D = dealO m o) ∧ (t = false → ¬ (m.may ∧ o.may)) := by
  by_cases h : m.may ∧ o.may
  · exact ⟨dealO m o, true, if_pos h, fun _ => ⟨h.1, h.2, rfl⟩, fun h => by cases h⟩
  · exact ⟨⟨0, 0, 0, 0, 0⟩, false, if_neg h, fun h => (by cases h), fun _ => h⟩
theorem deal_ev (k : Nat) (m o : Of5) : ∃ (D : Of5) (t : Bool), (∀ s, evB (k + 1) 42 [.agg m.cells, .agg o.cells] s = some (.tup [.agg D.cells, .bool t], s)) ∧ (∀ s, evB (k + 1) 43 [.agg m.cells, .agg o.cells] s = some (.tup [.agg D.cells, .bool t], s)) ∧ (t = true → m.may ∧ o.may ∧ D = dealO m o) ∧ (t = false → ¬ (m.may ∧ o.may)) := by
  obtain ⟨D, t, h1, h2, h3⟩ := deal_some m o
  refine ⟨D, t, fun s => ?_, fun s => ?_, h2, h3⟩
  · rw [b42, h1]
  · rw [b43, h1]
theorem says_of {r : Option (AV × St)} (hv : valR r = some (.bool true)) : Ab.saysTrue r = true := by
  obtain ⟨v0, s', h1, h2⟩ := valR_of hv
  have : v0 = .bool true := by
    cases v0 with
    | bool b => exact h2
    | tup l => cases h2
    | _ => cases h2
  rw [this] at h1
  exact (congrArg Ab.saysTrue h1)
theorem and1_chk : ((List.range 16).all fun a => decide (a % 2 = 0 ∨ (andZ (a : Int) 1 = 1 ∧ andZ 1 (a : Int) = 1))) = true := by kernel_rfl
theorem and1_at (a : Int) (h0 : 0 ≤ a) (h1 : a < 16) (h2 : a % 2 = 1) : andZ a 1 = 1 ∧ andZ 1 a = 1 := by
  have h := of_decide_eq_true (List.all_eq_true.1 and1_chk a.toNat (List.mem_range.2 (by omega)))
  rw [Int.toNat_of_nonneg h0] at h
  omega
end Go.Proofs.YtbeimfhodgmjhaaDoor
