/- glowwormlaw12's []Op as an argument. No conditions. -/
import Derived.Test.YtochnineebgbgaaDoorArgO
import Derived.Test.YtochnineebgbgaaDoorBy
set_option linter.unusedSimpArgs false
set_option linter.unusedVariables false
namespace Go.Proofs.YtochnineebgbgaaDoor
open Go Go.Ab Go.ChangeShapes Go.WideShapes Go.ChangeAt Go.RowKit
def opTypes : List TypeId := 3 :: 3 :: 9 :: plainTypes
theorem opSc : opTypes.all (isSc Tryd.prog) = true := by kernel_rfl
theorem scL_length {ts : List TypeId} {bs : List AV} (h : ScL Tryd.prog ts bs) : bs.length = ts.length := by
  induction h with
  | nil => rfl
  | cons _ _ _ _ _ _ ih => simp [ih]
/-- Operations: nil, or a list that never turns. -/
def IsOps (x : AV) (rows : List (List AV)) : Prop := ((x = .nils ∧ rows = []) ∨ x = .sl rows.flatten rows.length none) ∧ ∀ r ∈ rows, ScL Tryd.prog opTypes r ∧ r.length = 12
section
variable {W : World} {H : Type} {enc : TypeId × Value → H} {base : Nat}
theorem op_trod {n : Nat} {cs : List Value} {y : DataW H × List MemPlace} (h : DataW.trod enc Tryd.prog W 0 (fun _ => true) true n 39 cs = some y) : ∃ bs, ScL Tryd.prog opTypes bs ∧ bs.length = 12 ∧ RelL (Gh.start W) bs cs := by
  have he := Tryd.underlying39
  have e3 : Tryd.prog.cellsOf 3 = 1 := by kernel_rfl
  have e9 : Tryd.prog.cellsOf 9 = 1 := by kernel_rfl
  have eP : Tryd.prog.cellsOf 37 = 9 := by kernel_rfl
  have eO : Tryd.prog.cellsOf 39 = 12 := by kernel_rfl
  obtain ⟨m3, z3, h3⟩ := fld_trod he h 3 3 ⟨_, rfl, rfl, rfl⟩ eP
  obtain ⟨bs, q1, q2⟩ := flat_trod (P := Tryd.prog) (W := W) (enc := enc) opTypes cs opSc ((len_trod he h).trans eO) (fun i t ht => by
    match i, ht with
    | 0, ht => cases ht; exact fld_trod he h 0 0 ⟨_, rfl, rfl, rfl⟩ e3
    | 1, ht => cases ht; exact fld_trod he h 1 1 ⟨_, rfl, rfl, rfl⟩ e3
    | 2, ht => cases ht; exact fld_trod he h 2 2 ⟨_, rfl, rfl, rfl⟩ e9
    | i + 3, ht =>
      obtain ⟨m, z, hz⟩ := plain_fld h3 i t ht
      have hi : i < 9 := (List.getElem?_eq_some_iff.1 (show plainTypes[i]? = some t from ht)).1
      rw [drop_in _ _ _ _ hi, Nat.add_comm 3 i] at hz
      exact ⟨m, z, hz⟩)
  exact ⟨bs, q1, scL_length q1, q2⟩
set_option maxRecDepth 100000 in
theorem arg_ops {t : TypeId} {v : Value} {d : DataW H} {ps : List MemPlace} (ht : Tryd.prog.underlying t = some (.slice 39)) (hval : Value.okWide Tryd.prog W .any base t v)
    (hd : DataW.Trod enc Tryd.prog W 0 (fun _ => true) true t v d ps) : ∃ x rows, IsOps x rows ∧ RelV (Gh.start W) x v := by
  have hc : Tryd.prog.cellsOf 39 = 12 := by kernel_rfl
  obtain ⟨x, rows, h1, h2, h3⟩ := arg_rows (sz := 12) (ScL Tryd.prog opTypes) ht hc hval hd (fun n cs y hy => op_trod hy)
  exact ⟨x, rows, ⟨h1, h2⟩, h3⟩
end
/-- One operation. -/
theorem op_of {r : List AV} (h : ScL Tryd.prog opTypes r) : ∃ kind n body p, r = .int .i64 kind :: .int .i64 n :: .str body :: p ∧ ScL Tryd.prog plainTypes p ∧ IntKind.i64.has kind ∧ IntKind.i64.has n ∧ (body.length : Int) ≤ IntKind.i64.max := by
  unfold opTypes at h
  cases h with | cons _ a0 _ _ h0 h => cases h with | cons _ a1 _ _ h1 h => cases h with | cons _ a2 _ _ h2 h =>
  obtain ⟨x0, rfl, i0⟩ : ∃ n, a0 = .int .i64 n ∧ IntKind.i64.has n := by
    cases h0 with
    | int k n hu hn => rw [Tryd.underlying3] at hu; cases hu; exact ⟨n, rfl, hn⟩
    | bool b hu => rw [Tryd.underlying3] at hu; cases hu
    | str b hu hs => rw [Tryd.underlying3] at hu; cases hu
  obtain ⟨x1, rfl, i1⟩ : ∃ n, a1 = .int .i64 n ∧ IntKind.i64.has n := by
    cases h1 with
    | int k n hu hn => rw [Tryd.underlying3] at hu; cases hu; exact ⟨n, rfl, hn⟩
    | bool b hu => rw [Tryd.underlying3] at hu; cases hu
    | str b hu hs => rw [Tryd.underlying3] at hu; cases hu
  obtain ⟨x2, rfl, i2⟩ : ∃ b, a2 = .str b ∧ (b.length : Int) ≤ IntKind.i64.max := by
    cases h2 with
    | int k n hu hn => rw [Tryd.underlying9] at hu; cases hu
    | bool b hu => rw [Tryd.underlying9] at hu; cases hu
    | str b hu hs => exact ⟨b, rfl, hs⟩
  exact ⟨x0, x1, x2, _, rfl, h, i0, i1, i2⟩
theorem flat_drop {rows : List (List AV)} (h : ∀ r ∈ rows, r.length = 12) (j : Nat) (hj : j < rows.length) : ∃ r tl, rows[j]? = some r ∧ rows.flatten.drop (12 * j) = r ++ tl := by
  induction rows generalizing j with
  | nil => simp at hj
  | cons a rows ih =>
    cases j with
    | zero => exact ⟨a, rows.flatten, rfl, by simp⟩
    | succ j =>
      obtain ⟨r, tl, q1, q2⟩ := ih (fun r hr => h r (by simp [hr])) j (by simpa using hj)
      refine ⟨r, tl, by simpa using q1, ?_⟩
      have ha := h a (by simp)
      rw [List.flatten_cons, show 12 * (j + 1) = a.length + 12 * j by omega, ← List.drop_drop, List.drop_left]
      exact q2
theorem IsOps.ixa {x : AV} {rows : List (List AV)} (h : IsOps x rows) (j : Nat) (hj : j < rows.length) (hj2 : j < 1000) : ∃ kind n body p tl, ixaV 12 x (.int .i64 (j : Int)) = some (.rp (.int .i64 kind :: .int .i64 n :: .str body :: (p ++ tl))) ∧ rows[j]? = some (.int .i64 kind :: .int .i64 n :: .str body :: p) ∧ ScL Tryd.prog plainTypes p ∧ IntKind.i64.has kind ∧ IntKind.i64.has n ∧ (body.length : Int) ≤ IntKind.i64.max := by
  obtain ⟨h1, h2⟩ := h
  rcases h1 with ⟨rfl, rfl⟩ | rfl
  · simp at hj
  obtain ⟨r, tl, q1, q2⟩ := flat_drop (fun r hr => (h2 r hr).2) j hj
  obtain ⟨kind, n, body, p, rfl, g1, g2, g3, g4⟩ := op_of (h2 r (List.mem_of_getElem? q1)).1
  refine ⟨kind, n, body, p, tl, ?_, q1, g1, g2, g3, g4⟩
  have h1 : idx rows.length (.int .i64 (j : Int)) = some j := by simp [idx]; omega
  simp only [ixaV, h1]
  rw [show j * 12 = 12 * j by omega, q2]
  rfl
theorem IsOps.len {x : AV} {rows : List (List AV)} (h : IsOps x rows) : lenV x = some (.int .i64 (rows.length : Nat)) := by
  obtain ⟨⟨rfl, rfl⟩ | rfl, _⟩ := h <;> rfl
theorem IsOps.freeze {x : AV} {rows : List (List AV)} (h : IsOps x rows) (n : Nat) (s : St) : Ab.freeze n s x = some (x, s) := by
  obtain ⟨⟨rfl, rfl⟩ | rfl, _⟩ := h <;> rfl
end Go.Proofs.YtochnineebgbgaaDoor
