/- A list of structs with a struct in each as an argument. No conditions. -/
import Derived.Test.YtochnineebgbgaaDoorArgR
import Derived.Test.YtochnineebgbgaaDoorPlainT12
set_option linter.unusedSimpArgs false
set_option linter.unusedVariables false
namespace Go.Ab
open Go Go.ChangeShapes Go.WideShapes Go.ChangeAt Go.RowKit
section
variable {P : Program} {W : World} {H : Type} {enc : TypeId × Value → H}
theorem sc_trod {t : TypeId} (hsc : isSc P t = true) {n : Nat} {cs : List Value} {y : DataW H × List MemPlace} (h : DataW.trod enc P W 0 (fun _ => true) true n t cs = some y) : ∃ a v, cs = [v] ∧ Sc P t a ∧ RelV (Gh.start W) a v ∧ v.oneCell' = true := by
  unfold isSc at hsc
  split at hsc
  · rename_i k hu
    obtain ⟨m, rfl, _, hw⟩ := DataW.trod_int hu h
    exact ⟨_, _, rfl, .int _ _ _ hu (by simpa [Lit.wf, IntKind.has] using hw), .int _ _, rfl⟩
  · rename_i hu
    obtain ⟨b, rfl, _⟩ := DataW.trod_bool hu h
    exact ⟨_, _, rfl, .bool _ _ hu, .bool _, rfl⟩
  · rename_i hu
    obtain ⟨b, rfl, _, hz⟩ := DataW.trod_string hu h
    refine ⟨.str b.data.toList, _, rfl, .str _ _ hu ?_, .str _, rfl⟩
    have : b.data.toList.length ≤ maxLen := by simpa using hz
    exact Int.ofNat_le.2 this
  · cases hsc
theorem flat_trod : ∀ (ts : List TypeId) (cs : List Value), ts.all (isSc P) = true → cs.length = ts.length → (∀ i t, ts[i]? = some t → ∃ n y, DataW.trod enc P W 0 (fun _ => true) true n t ((cs.drop i).take 1) = some y) → ∃ bs, ScL P ts bs ∧ RelL (Gh.start W) bs cs := by
  intro ts
  induction ts with
  | nil =>
    intro cs _ hl _
    have : cs = [] := List.length_eq_zero_iff.1 hl
    subst this
    exact ⟨[], .nil, .nil⟩
  | cons t ts ih =>
    intro cs hs hl h
    match cs, hl with
    | c :: cs, hl =>
      simp only [List.all_cons, Bool.and_eq_true] at hs
      obtain ⟨bs, q1, q2⟩ := ih cs hs.2 (by simpa using hl) (fun i u hu => h (i + 1) u hu)
      obtain ⟨n, y, hy⟩ := h 0 t rfl
      obtain ⟨a, v, e, p1, p2, p3⟩ := sc_trod hs.1 hy
      cases e
      exact ⟨a :: bs, .cons _ _ _ _ p1 q1, .cons _ _ _ _ p2 p3 q2⟩
theorem fld_trod {fs : Array Field} {t : TypeId} {n : Nat} {cs : List Value} {y : DataW H × List MemPlace} (he : P.underlying t = some (.struct fs)) (h : DataW.trod enc P W 0 (fun _ => true) true n t cs = some y) (i o : Nat) {u : TypeId} {k : Nat} (hf : ∃ f, fs[i]? = some f ∧ f.type = u ∧ f.offset = o) (hk : P.cellsOf u = k) :
    ∃ m z, DataW.trod enc P W 0 (fun _ => true) true m u ((cs.drop o).take k) = some z := by
  obtain ⟨xs, m, rfl, rfl, hl, hxl, hall⟩ := DataW.trod_struct he h
  obtain ⟨f, f1, rfl, f2⟩ := hf
  subst hk
  have := hall i f f1
  rw [f2] at this
  have s1 : i < fs.size := (Array.getElem?_eq_some_iff.1 f1).1
  rw [List.getElem?_eq_getElem (by omega)] at this
  exact ⟨m, _, this⟩
theorem len_trod {fs : Array Field} {t : TypeId} {n : Nat} {cs : List Value} {y : DataW H × List MemPlace} (he : P.underlying t = some (.struct fs)) (h : DataW.trod enc P W 0 (fun _ => true) true n t cs = some y) : cs.length = P.cellsOf t := by
  obtain ⟨xs, m, rfl, rfl, hl, hxl, hall⟩ := DataW.trod_struct he h
  exact hl
theorem drop_in (cs : List Value) (o k i : Nat) (h : i < k) : (((cs.drop o).take k).drop i).take 1 = (cs.drop (o + i)).take 1 := by
  rw [List.drop_take, List.take_take, List.drop_drop, show min 1 (k - i) = 1 by omega]
end
end Go.Ab
namespace Go.Proofs.YtochnineebgbgaaDoor
open Go Go.Ab Go.ChangeShapes Go.WideShapes Go.ChangeAt Go.RowKit
section
variable {W : World} {H : Type} {enc : TypeId × Value → H}
theorem plain_fld {n : Nat} {cs : List Value} {y : DataW H × List MemPlace} (h : DataW.trod enc Tryd.prog W 0 (fun _ => true) true n 37 cs = some y) : ∀ i t, plainTypes[i]? = some t → ∃ m z, DataW.trod enc Tryd.prog W 0 (fun _ => true) true m t ((cs.drop i).take 1) = some z := by
  have he := Tryd.underlying37
  have ha : Tryd.prog.cellsOf 35 = 2 := by kernel_rfl
  obtain ⟨m0, z0, h0⟩ := fld_trod he h 0 0 ⟨_, rfl, rfl, rfl⟩ ha
  have ea := Tryd.underlying35
  have e3 : Tryd.prog.cellsOf 3 = 1 := by kernel_rfl
  have e4 : Tryd.prog.cellsOf 4 = 1 := by kernel_rfl
  have e9 : Tryd.prog.cellsOf 9 = 1 := by kernel_rfl
  intro i t ht
  match i, ht with
  | 0, ht =>
    cases ht
    obtain ⟨m, z, hz⟩ := fld_trod ea h0 0 0 ⟨_, rfl, rfl, rfl⟩ e3
    rw [drop_in _ _ _ _ (by omega)] at hz
    exact ⟨m, z, hz⟩
  | 1, ht =>
    cases ht
    obtain ⟨m, z, hz⟩ := fld_trod ea h0 1 1 ⟨_, rfl, rfl, rfl⟩ e3
    rw [drop_in _ _ _ _ (by omega)] at hz
    exact ⟨m, z, hz⟩
  | 2, ht => cases ht; exact fld_trod he h 1 2 ⟨_, rfl, rfl, rfl⟩ e4
  | 3, ht => cases ht; exact fld_trod he h 2 3 ⟨_, rfl, rfl, rfl⟩ e3
  | 4, ht => cases ht; exact fld_trod he h 3 4 ⟨_, rfl, rfl, rfl⟩ e3
  | 5, ht => cases ht; exact fld_trod he h 4 5 ⟨_, rfl, rfl, rfl⟩ e3
  | 6, ht => cases ht; exact fld_trod he h 5 6 ⟨_, rfl, rfl, rfl⟩ e3
  | 7, ht => cases ht; exact fld_trod he h 6 7 ⟨_, rfl, rfl, rfl⟩ e4
  | 8, ht => cases ht; exact fld_trod he h 7 8 ⟨_, rfl, rfl, rfl⟩ e9
  | i + 9, ht => cases ht
end
end Go.Proofs.YtochnineebgbgaaDoor
