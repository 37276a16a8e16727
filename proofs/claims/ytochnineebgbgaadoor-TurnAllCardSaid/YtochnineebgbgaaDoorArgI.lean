/- A list of numbers as an argument. No conditions. -/
import Derived.Test.YtochnineebgbgaaDoorArg
set_option linter.unusedSimpArgs false
set_option linter.unusedVariables false
namespace Go.Ab
open Go Go.ChangeShapes Go.WideShapes Go.ChangeAt Go.RowKit
/-- Numbers: nil, or a list that never turns. -/
def IsInts (x : AV) (zs : List Int) : Prop := (x = .nils ∧ zs = []) ∨ x = .sl (zs.map (.int .i64 ·)) zs.length none
section
variable {P : Program} {W : World} {H : Type} {enc : TypeId × Value → H} {base : Nat}
theorem arg_ints {t e : TypeId} {v : Value} {d : DataW H} {ps : List MemPlace} (ht : P.underlying t = some (.slice e)) (he : P.underlying e = some (.int .i64)) (hc : P.cellsOf e = 1) (hval : Value.okWide P W .any base t v)
    (hd : DataW.Trod enc P W 0 (fun _ => true) true t v d ps) : ∃ x zs, IsInts x zs ∧ RelV (Gh.start W) x v := by
  obtain ⟨a0, len0, cap0, rfl⟩ := okWide_slice ht hval
  obtain ⟨fuel, hf⟩ := hd
  rcases Go.ChangeShapes.open_ints ht he hc hf with ⟨hcs, hx⟩ | ⟨a, len, cap, zs, hcs, _, hl, hm, hz, hx, hcell, hwz⟩
  · simp [Value.cells] at hcs
    obtain ⟨rfl, rfl, rfl⟩ := hcs
    exact ⟨.nils, [], .inl ⟨rfl, rfl⟩, .nils⟩
  · simp [Value.cells] at hcs
    obtain ⟨rfl, rfl, rfl⟩ := hcs
    have hsp := slice_spot ht hval
    obtain ⟨g, o, sp⟩ := a
    simp only at hsp
    subst hsp
    simp only [if_true] at hz
    have hlen : (zs.take len0).length = len0 := by rw [List.length_take]; omega
    obtain ⟨q1, q2⟩ := rp_of_cells (w := W) (g := g) (k := .i64) (zs.take len0) o (fun j n hn => by
      have hj : j < (zs.take len0).length := (List.getElem?_eq_some_iff.1 hn).1
      rw [List.length_take] at hj
      have h1 := hcell j (by omega)
      rw [List.getElem?_take] at hn
      split at hn
      · rw [List.getD_eq_getElem?_getD, hn, addr_add] at h1
        exact h1
      · cases hn)
    refine ⟨.sl ((zs.take len0).map (.int .i64 ·)) len0 none, zs.take len0, .inr (by rw [hlen]), ?_⟩
    exact .sl _ _ _ _ _ _ _ q1 q2 hl hm trivial
end
end Go.Ab
