/- A list of texts as an argument. No conditions. -/
import Derived.Test.YtochnineebgbgaaDoorArg
import Derived.SliceStrings
set_option linter.unusedSimpArgs false
set_option linter.unusedVariables false
namespace Go.Ab
open Go Go.ChangeShapes Go.WideShapes Go.ChangeAt Go.RowKit
/-- Texts: nil, or a list that never turns. -/
def IsStrs (x : AV) (zs : List (List UInt8)) : Prop := (x = .nils ∧ zs = []) ∨ x = .sl (zs.map (.str ·)) zs.length none
section
variable {P : Program} {W : World} {H : Type} {enc : TypeId × Value → H} {base : Nat}
theorem rp_of_strs {w : World} {g : Nat} : ∀ (l : List ByteArray) (o : Nat), (∀ j n, l[j]? = some n → w.cell? ⟨g, o + j, none⟩ = some (.string n)) →
    RelL (Gh.start w) (l.map fun s => .str s.data.toList) (l.map (.string ·)) ∧ ∀ j v, (l.map (Value.string ·))[j]? = some v → (Gh.start w).imm g (o + j) = some v := by
  intro l
  induction l with
  | nil => intro o _; exact ⟨.nil, fun j v h => by simp at h⟩
  | cons a l ih =>
    intro o h
    obtain ⟨h1, h2⟩ := ih (o + 1) (fun j n hn => by rw [show o + 1 + j = o + (j + 1) by omega]; exact h (j + 1) n (by simpa using hn))
    refine ⟨.cons _ _ _ _ (.str _) rfl h1, fun j v hv => ?_⟩
    cases j with
    | zero =>
      simp at hv
      subst hv
      exact start_imm (h 0 a rfl) rfl
    | succ j =>
      rw [show o + (j + 1) = o + 1 + j by omega]
      exact h2 j v (by simpa using hv)
theorem arg_strs {t e : TypeId} {v : Value} {d : DataW H} {ps : List MemPlace} (ht : P.underlying t = some (.slice e)) (he : P.underlying e = some .string) (hc : P.cellsOf e = 1) (hval : Value.okWide P W .any base t v)
    (hd : DataW.Trod enc P W 0 (fun _ => true) true t v d ps) : ∃ x zs, IsStrs x zs ∧ RelV (Gh.start W) x v := by
  obtain ⟨a0, len0, cap0, rfl⟩ := okWide_slice ht hval
  obtain ⟨fuel, hf⟩ := hd
  rcases Go.ChangeShapes.open_strings ht he hc hf with ⟨hcs, hx⟩ | ⟨a, len, cap, zs, hcs, _, hl, hm, hz, hx, hcell, hwz⟩
  · simp [Value.cells] at hcs
    obtain ⟨rfl, rfl, rfl⟩ := hcs
    exact ⟨.nils, [], .inl ⟨rfl, rfl⟩, .nils⟩
  · simp [Value.cells] at hcs
    obtain ⟨rfl, rfl, rfl⟩ := hcs
    have hsp := slice_spot ht hval
    obtain ⟨g, o, sp⟩ := a
    simp only at hsp
    subst hsp
    simp only [if_true] at hz
    have hlen : (zs.take len0).length = len0 := by rw [List.length_take]; omega
    obtain ⟨q1, q2⟩ := rp_of_strs (w := W) (g := g) (zs.take len0) o (fun j n hn => by
      have hj : j < (zs.take len0).length := (List.getElem?_eq_some_iff.1 hn).1
      rw [List.length_take] at hj
      have h1 := hcell j (by omega)
      rw [List.getElem?_take] at hn
      split at hn
      · rw [List.getD_eq_getElem?_getD, hn, addr_add] at h1
        exact h1
      · cases hn)
    refine ⟨.sl (((zs.take len0).map fun s => s.data.toList).map (.str ·)) len0 none, (zs.take len0).map fun s => s.data.toList, .inr (by rw [List.length_map, hlen]), ?_⟩
    rw [List.map_map]
    exact .sl _ _ _ _ _ _ _ q1 q2 hl hm trivial
end
end Go.Ab
