/- begun of layer 4, called behind two boxed arguments. No conditions. -/
import Derived.Test.YthcblggiojpmcaaDoorTabs
set_option linter.unusedSimpArgs false
namespace Go.Proofs.YthcblggiojpmcaaDoor
open Go Go.Ab
def twoBox (x y : List AV) : St := (St.nil.new (.cells 0 x)).new (.cells 0 y)
theorem begunT2_0 (x y : List AV) : (evT 999 20 [] (twoBox x y)).map (fun r => (r.1, r.2.get 0, r.2.get 1, decide (1 < r.2.next))) = some (.bool true, some (.cells 0 x), some (.cells 0 y), true) := by kernel_rfl
theorem begunT2 (x y : List AV) : ∃ s, evT 999 20 [] (twoBox x y) = some (.bool true, s) ∧ s.get 0 = some (.cells 0 x) ∧ s.get 1 = some (.cells 0 y) ∧ 1 < s.next := by
  have h := begunT2_0 x y
  obtain ⟨⟨v, s⟩, h1, h2⟩ := Option.map_eq_some_iff.1 h
  simp only [Prod.mk.injEq, decide_eq_true_eq] at h2
  obtain ⟨rfl, a, b, c⟩ := h2
  exact ⟨s, h1, a, b, c⟩
end Go.Proofs.YthcblggiojpmcaaDoor
