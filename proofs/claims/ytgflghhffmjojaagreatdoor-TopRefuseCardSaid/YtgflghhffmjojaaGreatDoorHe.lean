/- Blocks by other numbers, values with unknown parts: every operation on the small heap goes along. No conditions. -/
import Derived.Test.YtgflghhffmjojaaGreatDoorHk
set_option linter.unusedSimpArgs false
set_option linter.unusedVariables false
set_option linter.unusedSectionVars false
set_option maxRecDepth 100000
namespace Go.Ab
open Go
/-- The state s0, with what is put in the unknowns' stead, lies in s. -/
structure Emb (g : Sg) (s0 s : St) : Prop where
  nx : s.next = g.r s0.next
  n0 : g.n0 ≤ s0.next
  get : ∀ b o, s0.get b = some o → s.get (g.r b) = some (so g o)
  inj : ∀ a b o p, s0.get a = some o → s0.get b = some p → g.r a = g.r b → a = b
  wf : ∀ j, s.next ≤ j → s.get j = none
theorem Sg.nxt (g : Sg) {n : Nat} (h : g.n0 ≤ n) : g.r (n + 1) = g.r n + 1 := by
  obtain ⟨j, rfl⟩ : ∃ j, n = g.n0 + j := ⟨n - g.n0, by omega⟩
  rw [g.sh, show g.n0 + j + 1 = g.n0 + (j + 1) from rfl, g.sh]; rfl
section
variable {g : Sg} {gl : Nat → AV} {e : Env} {s0 s s0' : St}
theorem Emb.lt (h : Emb g s0 s) {b : Nat} {o : Obj} (hb : s0.get b = some o) : g.r b < s.next := by
  by_cases hh : g.r b < s.next
  · exact hh
  · have := h.wf (g.r b) (by omega)
    rw [h.get b o hb] at this
    cases this
theorem Emb.new (h : Emb g s0 s) (o : Obj) (hw : ∀ j, s0.next ≤ j → s0.get j = none) : Emb g (s0.new o) (s.new (so g o)) := by
  refine ⟨?_, Nat.le_succ_of_le h.n0, fun b q hb => ?_, fun a b q p ha hb hr => ?_, fun j hj => ?_⟩
  · show s.next + 1 = g.r (s0.next + 1)
    rw [g.nxt h.n0, h.nx]
  · by_cases e : b = s0.next
    · subst e
      rw [fget_new_eq] at hb
      cases hb
      rw [← h.nx, fget_new_eq]
    · rw [fget_new_ne _ _ e] at hb
      rw [fget_new_ne _ _ (Nat.ne_of_lt (h.lt hb))]
      exact h.get b q hb
  · by_cases e1 : a = s0.next
    · by_cases e2 : b = s0.next
      · omega
      · rw [fget_new_ne _ _ e2] at hb
        have := h.lt hb
        rw [e1, ← h.nx] at hr
        omega
    · rw [fget_new_ne _ _ e1] at ha
      by_cases e2 : b = s0.next
      · have := h.lt ha
        rw [e2, ← h.nx] at hr
        omega
      · rw [fget_new_ne _ _ e2] at hb
        exact h.inj a b q p ha hb hr
  · have hj' : s.next + 1 ≤ j := hj
    rw [fget_new_ne _ _ (by omega)]
    exact h.wf j (by omega)
theorem Emb.upd (h : Emb g s0 s) {b : Nat} {q : Obj} (hb : s0.get b = some q) (o : Obj) : Emb g (s0.upd b o) (s.upd (g.r b) (so g o)) := by
  have hg := h.get b q hb
  have old : ∀ c p, (s0.upd b o).get c = some p → ∃ p', s0.get c = some p' := fun c p hc => by
    by_cases e : c = b
    · subst e; exact ⟨q, hb⟩
    · rw [fget_upd_ne _ _ e] at hc; exact ⟨p, hc⟩
  refine ⟨h.nx, h.n0, fun c p hc => ?_, fun a c p p' ha hc hr => ?_, fun j hj => ?_⟩
  · by_cases e : c = b
    · subst e
      rw [fget_upd_eq _ _ hb] at hc
      cases hc
      exact fget_upd_eq _ _ hg
    · rw [fget_upd_ne _ _ e] at hc
      rw [fget_upd_ne _ _ (fun hr => e (h.inj c b p q hc hb hr))]
      exact h.get c p hc
  · obtain ⟨p1, h1⟩ := old a p ha
    obtain ⟨p2, h2⟩ := old c p' hc
    exact h.inj a c p1 p2 h1 h2 hr
  · have hj' : s.next ≤ j := hj
    have := h.lt hb
    rw [fget_upd_ne _ _ (by omega)]
    exact h.wf j hj'
theorem evR_sv (hgl : ∀ i, plainV (gl i) = true) (hE : Emb g s0 s) {m : MOp} (hm : okOp m = true) (hp : evP gl e m = none) {v : AV} (h : evR gl e s0 m = some v) : evP gl (svL g e) m = none ∧ evR gl (svL g e) s m = some (sv g v) := by
  cases m <;> first | (cases h; done) | skip
  · rename_i c x
    simp only [evR, evP, opd_sv hgl (x := x) hm] at h hp ⊢
    generalize opd gl e x = a at h hp ⊢
    cases a <;> first | (cases h; done) | skip
    rename_i z b o n
    simp only [sv] at h ⊢
    split at h
    · rename_i z' cs hb
      rw [hE.get _ _ hb]
      simp only [so]
      split at h
      · rename_i q
        obtain ⟨rfl, rfl, q3⟩ := q
        rw [if_pos ⟨rfl, rfl, by rw [svL_len]; exact q3⟩, svL_drop, svL_take]
        refine ⟨rfl, ?_⟩
        cases ht : toBytes ((cs.drop o).take n) with
        | none => rw [ht] at h; cases h
        | some l => rw [toBytes_sv ht, ht]; rw [ht] at h; cases h; rfl
      · cases h
    · cases h
  · rename_i n x
    simp only [evR, evP, opd_sv hgl (x := x) hm] at h hp ⊢
    generalize opd gl e x = a at h hp ⊢
    cases a <;> first | (cases h; done) | skip
    rename_i b o
    simp only [sv] at h ⊢
    split at h
    · rename_i z' cs hb
      rw [hE.get _ _ hb]
      exact ⟨trivial, cut_sv h⟩
    · cases h
theorem bytesAV_sv (l : List UInt8) : svL g (bytesAV l) = bytesAV l := by
  rw [svL_map]
  unfold bytesAV
  rw [List.map_map]
  rfl
theorem newsOf_sv (hE : Emb g s0 s) {size : Nat} {v : AV} {p : List AV × Nat} (h : newsOf size s0 v = some p) : newsOf size s (sv g v) = some (svL g p.1, p.2) := by
  cases v <;> first | (cases h; done) | skip
  · simp only [newsOf, sv] at h ⊢
    split at h
    · rename_i q; rw [if_pos q]; cases h; simp only [bytesAV_sv]
    · cases h
  · cases h; rfl
  · simp only [newsOf, sv, svL_len] at h ⊢
    split at h
    · rename_i q; rw [if_pos q]; cases h; rfl
    · cases h
  · simp only [newsOf, sv] at h ⊢
    split at h
    · rename_i z' cs hb
      rw [hE.get _ _ hb]
      simp only [so, svL_len]
      split at h
      · rename_i q; rw [if_pos q]; cases h; simp only [svL_drop, svL_take]
      · cases h
    · cases h
theorem flat_rep (n : Nat) (zs : List AV) (hz : plainL zs = true) : svL g (List.replicate n zs).flatten = (List.replicate n zs).flatten := by
  induction n with
  | zero => rfl
  | succ n ih => rw [List.replicate_succ, List.flatten_cons, svL_app, ih, plain_svL g zs hz]
theorem notSl_sv {v : AV} (hv : notLf v = true) : notSl (sv g v) = notSl v := by
  cases v <;> first | rfl | skip
  rename_i f cs
  have : f < bigN := of_decide_eq_true hv
  simp only [sv, if_pos this]; rfl
theorem appS_sv (hE : Emb g s0 s) (hw : ∀ j, s0.next ≤ j → s0.get j = none) {size bytes m : Nat} {x : AV} {news : List AV} {p : AV × St} (h : appS size bytes s0 x news m = some p) :
    ∃ s', appS size bytes s (sv g x) (svL g news) m = some (sv g p.1, s') ∧ Emb g p.2 s' := by
  cases x <;> first | (cases h; done) | skip
  · simp only [appS, sv] at h ⊢
    split at h
    · rename_i q
      cases h
      exact ⟨s, by rw [if_pos q]; rfl, hE⟩
    · rename_i q
      split at h
      · rename_i q2
        cases h
        exact ⟨_, by rw [if_neg q, if_pos q2]; simp only [sv, tkR, so, hE.nx], hE.new _ hw⟩
      · cases h
  · rename_i cs n tk
    cases tk with
    | none => cases h
    | some t =>
      obtain ⟨t, v, z0⟩ := t
      simp only [appS, sv, tkR] at h ⊢
      split at h
      · rename_i z v' hb
        rw [hE.get _ _ hb]
        simp only [so, svL_len]
        split at h
        · rename_i q
          cases h
          exact ⟨_, by rw [if_pos q]; simp only [sv, tkR, so, svL_app], hE.upd hb _⟩
        · cases h
      · cases h
theorem appH_sv (hE : Emb g s0 s) (hw : ∀ j, s0.next ≤ j → s0.get j = none) {size bytes m : Nat} {x : AV} {news : List AV} {p : AV × St} (h : appH size bytes s0 x news m = some p) :
    ∃ s', appH size bytes s (sv g x) (svL g news) m = some (sv g p.1, s') ∧ Emb g p.2 s' := by
  cases x <;> first | (cases h; done) | skip
  · simp only [appH, sv] at h ⊢
    split at h
    · cases h
    · rename_i q
      split at h
      · rename_i q2
        cases h
        exact ⟨_, by rw [if_neg q, if_pos q2]; simp only [sv, so, hE.nx], hE.new _ hw⟩
      · cases h
  · rename_i z0 b o n
    simp only [appH, sv] at h ⊢
    split at h
    · rename_i z cs hb
      rw [hE.get _ _ hb]
      simp only [so, svL_len]
      split at h
      · rename_i q
        cases h
        have h1 := hE.upd hb .dead
        have h2 := h1.new (.cells size (cs ++ news)) (fun j hj => by
          have hj' : s0.next ≤ j := hj
          have hlt : b ≠ j := fun e => by rw [e] at hb; rw [hw j hj'] at hb; cases hb
          rw [fget_upd_ne _ _ (fun e => hlt e.symm)]; exact hw j hj')
        refine ⟨(s.upd (g.r b) .dead).new (.cells size (svL g cs ++ svL g news)), by rw [if_pos q]; simp only [sv, so, hE.nx], ?_⟩
        simp only [so, svL_app] at h2
        exact h2
      · cases h
    · cases h
theorem evP_none (m : MOp) (hm : ∀ x, m ≠ .mv x) {s : St} (h : ∃ p, evW gl e s0 m = some p) : evP gl (svL g e) m = none ∧ (evR gl (svL g e) s m = none) := by
  obtain ⟨p, h⟩ := h
  cases m <;> first | (cases h; done) | exact ⟨rfl, rfl⟩ | skip
  rename_i c x
  cases c <;> first | (cases h; done) | skip
  all_goals
    refine ⟨?_, ?_⟩
    · simp only [evP]
      generalize opd gl (svL g e) x = a
      cases a <;> rfl
    · simp only [evR]
      split
      · split
        · rw [if_neg (fun hh => by cases hh.2.1)]
        · rfl
      · rfl
theorem evW_sv (hgl : ∀ i, plainV (gl i) = true) (hE : Emb g s0 s) (hw : ∀ j, s0.next ≤ j → s0.get j = none) {m : MOp} (hm : okOp m = true) {p : AV × St} (h : evW gl e s0 m = some p) :
    ∃ s', evW gl (svL g e) s m = some (sv g p.1, s') ∧ Emb g p.2 s' := by
  cases m <;> first | (cases h; done) | skip
  · rename_i c x
    cases c <;> first | (cases h; done) | skip
    · simp only [evW, opd_sv hgl (x := x) hm] at h ⊢
      generalize opd gl e x = a at h ⊢
      cases a <;> first | (cases h; done) | skip
      simp only [sv] at h ⊢
      split at h
      · rename_i q
        cases h
        exact ⟨s, by rw [if_pos q]; simp only [sv, tkR, bytesAV_sv], hE⟩
      · cases h
    · simp only [evW, opd_sv hgl (x := x) hm] at h ⊢
      generalize opd gl e x = a at h ⊢
      cases a <;> first | (cases h; done) | skip
      rename_i cs n tk
      cases tk with
      | none => cases h
      | some t =>
        obtain ⟨t, v, z⟩ := t
        simp only [sv, tkR] at h ⊢
        split at h
        · rename_i z' v' hb
          rw [hE.get _ _ hb]
          simp only [so]
          split at h
          · rename_i q
            cases h
            exact ⟨_, by rw [if_pos q]; rfl, hE.upd hb _⟩
          · cases h
        · cases h
    · simp only [evW, opd_sv hgl (x := x) hm] at h ⊢
      generalize opd gl e x = a at h ⊢
      cases a <;> first | (cases h; done) | skip
      simp only [sv] at h ⊢
      split at h
      · rename_i b q
        cases h
        have h1 := hE.new (.cells 1 (bytesAV b)) hw
        simp only [so, bytesAV_sv] at h1
        exact ⟨_, by rw [if_pos q]; simp only [sv, so, hE.nx], h1⟩
      · cases h
  · rename_i n x y
    simp only [okOp, Bool.and_eq_true] at hm
    simp only [evW, opd_sv hgl hm.1, opd_sv hgl hm.2] at h ⊢
    generalize opd gl e x = a at h ⊢
    cases a <;> first | (cases h; done) | skip
    simp only [sv] at h ⊢
    split at h
    · rename_i z cs hb
      rw [hE.get _ _ hb]
      simp only [so]
      split at h
      · rename_i vs hv
        rw [cellsOf_sv hv]
        simp only [svL_len]
        split at h
        · rename_i hl
          rw [if_pos hl]
          split at h
          · rename_i cs' hs
            rw [storeL_sv hs]
            cases h
            exact ⟨_, rfl, hE.upd hb _⟩
          · cases h
        · cases h
      · cases h
    · cases h
  · rename_i hp size bytes x y
    simp only [okOp, Bool.and_eq_true] at hm
    simp only [evW, opd_sv hgl hm.1, opd_sv hgl hm.2] at h ⊢
    split at h
    · rename_i news m hn
      rw [newsOf_sv hE hn]
      simp only
      have hx : notLf (opd gl e x) = true := by
        generalize opd gl e x = a at h
        cases a <;> first | rfl | skip
        split at h <;> cases h
      rw [notSl_sv hx]
      split at h
      · rename_i q
        rw [if_pos q]
        exact appH_sv hE hw h
      · rename_i q
        rw [if_neg q]
        exact appS_sv hE hw h
    · cases h
  · rename_i hp size len zs ps
    simp only [okOp, Bool.and_eq_true] at hm
    simp only [evW] at h ⊢
    split at h
    · rename_i cs hf
      have hf' := fill_sv (g := g) hgl hm.2 hf
      rw [plain_svL g zs hm.1] at hf'
      rw [hf']
      simp only
      split at h
      · rename_i q
        cases h
        exact ⟨_, by rw [if_pos q]; simp only [sv, so, hE.nx], hE.new _ hw⟩
      · rename_i q
        cases h
        exact ⟨_, by rw [if_neg q]; simp only [sv, tkR, so, hE.nx], hE.new _ hw⟩
    · cases h
  · rename_i size len zs ps
    simp only [okOp, Bool.and_eq_true] at hm
    simp only [evW] at h ⊢
    split at h
    · rename_i cs hf
      have hf' := fill_sv (g := g) hgl hm.2 hf
      rw [plain_svL g zs hm.1] at hf'
      rw [hf']
      cases h
      exact ⟨_, rfl, hE⟩
    · cases h
  · rename_i zs
    cases h
    have h1 := hE.new (.cells 0 zs) hw
    simp only [so, plain_svL g zs hm] at h1
    exact ⟨_, by simp only [evW, sv, hE.nx], h1⟩
  · rename_i x
    simp only [evW, opd_sv hgl (x := x) hm] at h ⊢
    split at h
    · rename_i cs hc
      rw [cellsOf_sv hc]
      cases h
      exact ⟨_, by simp only [sv, so, hE.nx], hE.new _ hw⟩
    · cases h
  · rename_i size bytes zs l c
    simp only [okOp, Bool.and_eq_true] at hm
    simp only [evW, opd_sv hgl hm.2.1, opd_sv hgl hm.2.2] at h ⊢
    split at h
    · rename_i l' c' hl hc
      rw [hl, hc]
      simp only [sv]
      split at h
      · rename_i q
        cases h
        have h1 := hE.new (.cells size (List.replicate l'.toNat zs).flatten) hw
        simp only [so, flat_rep _ _ hm.1] at h1
        exact ⟨_, by rw [if_pos q]; simp only [sv, hE.nx], h1⟩
      · cases h
    · cases h
  · rename_i size x y
    simp only [okOp, Bool.and_eq_true] at hm
    simp only [evW, opd_sv hgl hm.1, opd_sv hgl hm.2] at h ⊢
    generalize opd gl e x = a at h ⊢
    cases a <;> first | (cases h; done) | skip
    simp only [sv] at h ⊢
    split at h
    · rename_i news m z cs hn hb
      rw [newsOf_sv hE hn, hE.get _ _ hb]
      simp only [so]
      split at h
      · rename_i q
        rw [if_pos q, svL_take]
        split at h
        · rename_i cs' hs
          rw [storeL_sv hs]
          cases h
          exact ⟨_, rfl, hE.upd hb _⟩
        · cases h
      · cases h
    · cases h
  · rename_i x
    simp only [evW, opd_sv hgl (x := x) hm] at h ⊢
    generalize opd gl e x = a at h ⊢
    cases a <;> first | (cases h; done) | skip
    cases h
    exact ⟨_, by simp only [sv, so, hE.nx], hE.new _ hw⟩
  · rename_i x
    simp only [evW, opd_sv hgl (x := x) hm] at h ⊢
    generalize opd gl e x = a at h ⊢
    cases a <;> first | (cases h; done) | skip
    rename_i b o
    cases o with
    | succ o => cases h
    | zero =>
      simp only [sv] at h ⊢
      split at h
      · rename_i l p' hb
        rw [hE.get _ _ hb]
        simp only [so]
        split at h
        · rename_i q
          cases h
          exact ⟨_, by rw [if_pos q]; rfl, hE.upd hb _⟩
        · rename_i q
          cases h
          exact ⟨_, by rw [if_neg q]; rfl, hE⟩
      · cases h
/-- An operation that calls nothing. -/
theorem ev1_sv (hgl : ∀ i, plainV (gl i) = true) (hE : Emb g s0 s) (hw : ∀ j, s0.next ≤ j → s0.get j = none) {m : MOp} (hm : okOp m = true) (hc : ∀ f a, m ≠ .call f a) (hv : ∀ x a, m ≠ .callv x a) (hn : ∀ x, m = .nchk x → notLf (opd gl e x) = true) {c0 c : Calls'} {v : AV} {k : Nat} (h : ev1 gl c0 e s0 m = some (v, s0', k)) :
    ∃ s', ev1 gl c (svL g e) s m = some (sv g v, s', k) ∧ Emb g s0' s' := by
  cases h1 : evP gl e m with
  | some w =>
    simp only [ev1, h1] at h
    cases h
    exact ⟨s, by simp only [ev1, evP_sv hgl hm hn h1], hE⟩
  | none =>
    cases h2 : evR gl e s0 m with
    | some w =>
      simp only [ev1, h1, h2] at h
      cases h
      obtain ⟨q1, q2⟩ := evR_sv (g := g) hgl hE hm h1 h2
      exact ⟨s, by simp only [ev1, q1, q2], hE⟩
    | none =>
      have key : ∀ p, evW gl e s0 m = some p → k = loudOf m → v = p.1 → s0' = p.2 → (ev1 gl c (svL g e) s m = match evW gl (svL g e) s m with | some (v, s') => some (v, s', loudOf m) | none => none) → ∃ s', ev1 gl c (svL g e) s m = some (sv g v, s', k) ∧ Emb g s0' s' := by
        intro p hp hk hv hs he
        obtain ⟨s', q1, q2⟩ := evW_sv hgl hE hw hm hp
        exact ⟨s', by rw [he, q1, hk, hv], by rw [hs]; exact q2⟩
      have fin : ∀ p, evW gl e s0 m = some p → evP gl (svL g e) m = none ∧ evR gl (svL g e) s m = none := fun p hp => evP_none (s0 := s0) m (fun x hx => by subst hx; cases hp) ⟨p, hp⟩
      cases hq : evW gl e s0 m with
      | none =>
        cases m <;> first | (simp only [ev1, h1, h2, hq] at h; cases h; done) | exact absurd rfl (hc _ _) | exact absurd rfl (hv _ _)
      | some p =>
        obtain ⟨f1, f2⟩ := fin p hq
        refine key p hq ?_ ?_ ?_ ?_
        all_goals cases m <;> first | exact absurd rfl (hc _ _) | exact absurd rfl (hv _ _) | (simp only [ev1, h1, h2, hq] at h; cases h; rfl) | (simp only [ev1, f1, f2]; done) | (simp only [ev1, f1, f2]; rfl)
end
end Go.Ab
