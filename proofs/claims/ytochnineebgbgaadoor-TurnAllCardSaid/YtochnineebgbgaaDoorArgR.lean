/- A list of structs, of numbers as an argument. No conditions. -/
import Derived.Test.YtochnineebgbgaaDoorArg
import Derived.SliceStrings
import Derived.ChangeArms
set_option linter.unusedSimpArgs false
set_option linter.unusedVariables false
namespace Go.Ab
open Go Go.ChangeShapes Go.WideShapes Go.ChangeAt Go.RowKit
theorem relL_app {G : Gh} {as bs : List AV} {vs us : List Value} (h : RelL G as vs) (g : RelL G bs us) : RelL G (as ++ bs) (vs ++ us) := by
  induction as generalizing vs with
  | nil => cases h; exact g
  | cons a as ih => cases h with | cons _ v _ vs h h1 t => exact .cons _ _ _ _ h h1 (ih t)
theorem relL_one {G : Gh} {as : List AV} {vs : List Value} (h : RelL G as vs) : ∀ (j : Nat) (v : Value), vs[j]? = some v → v.oneCell' = true := by
  induction as generalizing vs with
  | nil => cases h; intro j v hv; simp at hv
  | cons a as ih =>
    cases h with
    | cons _ u _ us h h1 t =>
      intro j v hv
      cases j with
      | zero => simp at hv; subst hv; exact h1
      | succ j => exact ih t j v (by simpa using hv)
section
variable {P : Program} {W : World} {H : Type} {enc : TypeId × Value → H} {base : Nat}
theorem arg_rows (Q : List AV → Prop) {t e : TypeId} {sz : Nat} {v : Value} {d : DataW H} {ps : List MemPlace} (ht : P.underlying t = some (.slice e)) (hc : P.cellsOf e = sz) (hval : Value.okWide P W .any base t v)
    (hd : DataW.Trod enc P W 0 (fun _ => true) true t v d ps)
    (hrow : ∀ n cs y, DataW.trod enc P W 0 (fun _ => true) true n e cs = some y → ∃ as, Q as ∧ as.length = sz ∧ RelL (Gh.start W) as cs) :
    ∃ x rows, ((x = .nils ∧ rows = []) ∨ x = .sl rows.flatten rows.length none) ∧ (∀ r ∈ rows, Q r ∧ r.length = sz) ∧ RelV (Gh.start W) x v := by
  obtain ⟨a0, len0, cap0, rfl⟩ := okWide_slice ht hval
  obtain ⟨fuel, hf⟩ := hd
  rcases DataW.trod_slice ht hf with ⟨hcs, hx⟩ | ⟨a, len, cap, elems, rest, n, _, hcs, _, hb, hl, hm, hlen, hel, _, _⟩
  · simp [Value.cells] at hcs
    obtain ⟨rfl, rfl, rfl⟩ := hcs
    exact ⟨.nils, [], .inl ⟨rfl, rfl⟩, fun r hr => by simp at hr, .nils⟩
  · simp [Value.cells] at hcs
    obtain ⟨rfl, rfl, rfl⟩ := hcs
    have hsp := slice_spot ht hval
    obtain ⟨g, o, sp⟩ := a
    simp only at hsp
    subst hsp
    have key : ∀ j, j ≤ len0 → ∃ (rows : List (List AV)) (vs : List Value), rows.length = j ∧ (∀ r ∈ rows, Q r ∧ r.length = sz) ∧ vs.length = j * sz ∧ RelL (Gh.start W) rows.flatten vs ∧ ∀ k u, vs[k]? = some u → W.cell? ⟨g, o + k, none⟩ = some u := by
      intro j
      induction j with
      | zero => intro _; exact ⟨[], [], rfl, fun r hr => by simp at hr, by simp, .nil, fun k u h => by simp at h⟩
      | succ j ih =>
        intro hj
        obtain ⟨rows, vs, h1, h2, h3, h4, h5⟩ := ih (by omega)
        have hy := hel j (by omega)
        rw [List.getElem?_eq_getElem (show j < elems.length by omega), hc, Option.bind_eq_some_iff] at hy
        obtain ⟨cs, hcs, hy⟩ := hy
        obtain ⟨_, hcl, hcc⟩ := World.cells?_some hcs
        obtain ⟨as, q1, q2, q3⟩ := hrow n cs _ hy
        refine ⟨rows ++ [as], vs ++ cs, by simp [h1], fun r hr => ?_, by rw [List.length_append, h3, hcl, Nat.add_mul]; omega, ?_, fun k u hk => ?_⟩
        · rcases List.mem_append.1 hr with hr | hr
          · exact h2 r hr
          · rw [List.mem_singleton.1 hr]; exact ⟨q1, q2⟩
        · rw [List.flatten_append]
          exact relL_app h4 (by simpa using q3)
        · by_cases hlt : k < vs.length
          · rw [List.getElem?_append_left hlt] at hk
            exact h5 k u hk
          · rw [List.getElem?_append_right (by omega)] at hk
            have hk2 : k - vs.length < cs.length := (List.getElem?_eq_some_iff.1 hk).1
            have := hcc (k - vs.length) (by omega)
            rw [hk, addr_add, addr_add] at this
            rw [show o + k = o + j * sz + (k - vs.length) by omega]
            exact this
    obtain ⟨rows, vs, h1, h2, h3, h4, h5⟩ := key len0 (Nat.le_refl _)
    refine ⟨.sl rows.flatten len0 none, rows, .inr (by rw [h1]), h2, ?_⟩
    exact .sl _ _ _ _ _ _ _ h4 (fun j u hu => start_imm (h5 j u hu) (relL_one h4 j u hu)) hl hm trivial
/-- Numbers: nil, or a list that never turns. -/
def IsNums (k : IntKind) (x : AV) (zs : List Int) : Prop := (x = .nils ∧ zs = []) ∨ x = .sl (zs.map (.int k ·)) zs.length none
theorem arg_nums {t e : TypeId} {k : IntKind} {v : Value} {d : DataW H} {ps : List MemPlace} (ht : P.underlying t = some (.slice e)) (he : P.underlying e = some (.int k)) (hc : P.cellsOf e = 1) (hval : Value.okWide P W .any base t v)
    (hd : DataW.Trod enc P W 0 (fun _ => true) true t v d ps) : ∃ x zs, (IsNums k x zs ∧ ∀ n ∈ zs, (Lit.int k n).wf = true) ∧ RelV (Gh.start W) x v := by
  obtain ⟨x, rows, h1, h2, h3⟩ := arg_rows (fun as => ∃ n, as = [.int k n] ∧ (Lit.int k n).wf = true) ht hc hval hd (fun n cs y hy => by
    obtain ⟨m, rfl, _, hw⟩ := DataW.trod_int he hy
    exact ⟨_, ⟨m, rfl, hw⟩, rfl, .cons _ _ _ _ (.int _ _) rfl .nil⟩)
  have key : ∀ rows : List (List AV), (∀ r ∈ rows, (∃ n, r = [.int k n] ∧ (Lit.int k n).wf = true) ∧ r.length = 1) → ∃ zs : List Int, rows.flatten = zs.map (.int k ·) ∧ zs.length = rows.length ∧ ∀ n ∈ zs, (Lit.int k n).wf = true := by
    intro rows
    induction rows with
    | nil => intro _; exact ⟨[], rfl, rfl, fun n h => by simp at h⟩
    | cons r rows ih =>
      intro h
      obtain ⟨⟨n, rfl, hw⟩, _⟩ := h r (by simp)
      obtain ⟨zs, q1, q2, q3⟩ := ih (fun r hr => h r (by simp [hr]))
      exact ⟨n :: zs, by simp [q1], by simp [q2], fun m hm => by
        rcases List.mem_cons.1 hm with rfl | hm
        · exact hw
        · exact q3 m hm⟩
  obtain ⟨zs, q1, q2, q3⟩ := key rows h2
  refine ⟨x, zs, ⟨?_, q3⟩, h3⟩
  rcases h1 with ⟨rfl, rfl⟩ | rfl
  · exact .inl ⟨rfl, List.length_eq_zero_iff.1 (by simpa using q2)⟩
  · exact .inr (by rw [q1, q2])
/-- Parameters: nil, or a list that never turns. -/
def IsTups (x : AV) (l : List (Int × List UInt8)) : Prop := (x = .nils ∧ l = []) ∨ x = .sl (l.flatMap fun t => [.int .i64 t.1, .str t.2]) l.length none
theorem arg_tups {t e : TypeId} {fs : Array Field} {ti ts : TypeId} {v : Value} {d : DataW H} {ps : List MemPlace} (ht : P.underlying t = some (.slice e)) (he : P.underlying e = some (.struct fs)) (hc : P.cellsOf e = 2)
    (h0 : ∃ f, fs[0]? = some f ∧ f.type = ti ∧ f.offset = 0) (h1 : ∃ f, fs[1]? = some f ∧ f.type = ts ∧ f.offset = 1) (hi : P.underlying ti = some (.int .i64)) (hs : P.underlying ts = some .string) (ci : P.cellsOf ti = 1) (cs' : P.cellsOf ts = 1)
    (hval : Value.okWide P W .any base t v) (hd : DataW.Trod enc P W 0 (fun _ => true) true t v d ps) : ∃ x l, (IsTups x l ∧ ∀ u ∈ l, u.2.length ≤ maxLen ∧ IntKind.i64.has u.1) ∧ RelV (Gh.start W) x v := by
  obtain ⟨x, rows, g1, g2, g3⟩ := arg_rows (fun as => ∃ n s, as = [.int .i64 n, .str s] ∧ s.length ≤ maxLen ∧ (Lit.int .i64 n).wf = true) ht hc hval hd (fun n cs y hy => by
    obtain ⟨xs, m, rfl, rfl, hl, hxl, hall⟩ := DataW.trod_struct he hy
    obtain ⟨f0, a1, a2, a3⟩ := h0
    obtain ⟨f1, b1, b2, b3⟩ := h1
    have e0 := hall 0 f0 a1
    have e1 := hall 1 f1 b1
    rw [a2, a3, ci] at e0
    rw [b2, b3, cs'] at e1
    have s0 : 0 < fs.size := (Array.getElem?_eq_some_iff.1 a1).1
    have s1 : 1 < fs.size := (Array.getElem?_eq_some_iff.1 b1).1
    rw [List.getElem?_eq_getElem (by omega)] at e0 e1
    obtain ⟨p, hp, _, hw⟩ := DataW.trod_int hi e0
    obtain ⟨q, hq, _, hz⟩ := DataW.trod_string hs e1
    rw [hc] at hl
    match cs, hl, hp, hq with
    | [c0, c1], _, hp, hq =>
      simp at hp hq
      subst hp hq
      exact ⟨_, ⟨p, q.data.toList, rfl, by simpa using hz, hw⟩, rfl, .cons _ _ _ _ (.int _ _) rfl (.cons _ _ _ _ (.str _) rfl .nil)⟩)
  have key : ∀ rows : List (List AV), (∀ r ∈ rows, (∃ n s, r = [.int .i64 n, .str s] ∧ s.length ≤ maxLen ∧ (Lit.int .i64 n).wf = true) ∧ r.length = 2) → ∃ l : List (Int × List UInt8), rows.flatten = (l.flatMap fun t => [.int .i64 t.1, .str t.2]) ∧ l.length = rows.length ∧ ∀ u ∈ l, u.2.length ≤ maxLen ∧ IntKind.i64.has u.1 := by
    intro rows
    induction rows with
    | nil => intro _; exact ⟨[], rfl, rfl, fun n h => by simp at h⟩
    | cons r rows ih =>
      intro h
      obtain ⟨⟨n, s, rfl, hs, hw⟩, _⟩ := h r (by simp)
      obtain ⟨l, q1, q2, q3⟩ := ih (fun r hr => h r (by simp [hr]))
      exact ⟨(n, s) :: l, by simp [q1], by simp [q2], fun m hm => by
        rcases List.mem_cons.1 hm with rfl | hm
        · exact ⟨hs, by simpa [Lit.wf, IntKind.has] using hw⟩
        · exact q3 m hm⟩
  obtain ⟨l, q1, q2, q3⟩ := key rows g2
  refine ⟨x, l, ⟨?_, q3⟩, g3⟩
  rcases g1 with ⟨rfl, rfl⟩ | rfl
  · exact .inl ⟨rfl, List.length_eq_zero_iff.1 (by simpa using q2)⟩
  · exact .inr (by rw [q1, q2])
end
end Go.Ab
