/- TurnSwap: the beginning, and thirty rounds. No conditions. -/
import Derived.Test.YtochnineebgbgaaDoorSwp4
set_option linter.unusedSimpArgs false
set_option linter.unusedVariables false
set_option maxRecDepth 100000
set_option maxHeartbeats 8000000
namespace Go.Proofs.YtochnineebgbgaaDoor
open Go Go.Ab
theorem Wf.new {s : St} (h : Wf s) (q : Ab.Obj) : Wf (s.new q) := by
  intro j hj
  have : s.next + 1 ≤ j := hj
  rw [get_new_ne _ _ (by omega)]
  exact h j (by omega)
theorem Wf.upd {s : St} (h : Wf s) {c : Nat} {p : Ab.Obj} (hc : s.get c = some p) (q : Ab.Obj) : Wf (s.upd c q) := by
  intro j hj
  have hj' : s.next ≤ j := hj
  rw [get_upd_ne _ _ (fun e => by rw [← e, h j hj'] at hc; cases hc)]
  exact h j hj'
theorem hears_le (off : Nat) : ∀ (ps : List Fm) (T : Tn) (g : Nat) (T' : Tn) (g' : Nat), hears off ps (T, g) = some (T', g') → g' ≤ g + ps.length := by
  intro ps
  induction ps with
  | nil => intro T g T' g' h; simp only [hears, Option.some.injEq, Prod.mk.injEq] at h; omega
  | cons p ps ih =>
    intro T g T' g' h
    simp only [hears] at h
    split at h
    · split at h
      · split at h
        · have := ih _ _ _ _ h; simp only [List.length_cons]; omega
        · cases h
      · have := ih _ _ _ _ h; simp only [List.length_cons]; omega
    · cases h
theorem round_le {W i : Nat} (hW : W ≤ 7) {X Y : Sy} (h : Sy.round W i X = some Y) : Y.g0 ≤ X.g0 + 8 ∧ Y.g1 ≤ X.g1 + 8 := by
  unfold Sy.round at h
  split at h
  · split at h
    · cases h
    · rename_i b1 x1 hh1
      split at h
      · split at h
        · cases h
        · rename_i a1 x0 hh0
          have l1 := hears_le _ _ _ _ _ _ hh1
          have l0 := hears_le _ _ _ _ _ _ hh0
          have s1 := says_le X.a W hW
          have s0 := says_le b1 W hW
          simp only at h
          by_cases hsw : Sy.swaps ⟨a1, b1.went W, x0, x1⟩ i = true
          · rw [if_pos hsw] at h
            simp only at h
            split at h
            · cases h
            · split at h
              · cases h
                exact ⟨by simp only; omega, by simp only; omega⟩
              · cases h
          · rw [if_neg hsw] at h
            simp only at h
            split at h
            · cases h
            · split at h
              · cases h
                exact ⟨by simp only; omega, by simp only; omega⟩
              · cases h
      · cases h
  · cases h
def X19o (ta tb G n : Nat) : Env := [.undef, .undef, .undef, .undef, .undef, .undef, .ptr ta 0, .ptr tb 0, .undef, .ptr G 0, .int .i64 (n : Nat), .int .i64 30, .undef, .undef, .undef, .undef, .undef, .undef, .undef, .undef, .undef, .undef, .undef, .undef, .undef, .undef, .undef, .undef, .undef, .undef, .undef, .undef, .undef, .undef, .undef, .undef, .undef, .undef, .undef, .undef, .undef, .undef, .undef, .undef, .undef, .undef, .undef, .undef, .int .i64 30, .bool false, .undef, .undef, .undef, .undef, .undef, .undef, .undef, .undef, .undef, .undef, .undef, .undef, .undef, .undef, .undef, .undef, .undef, .undef, .undef, .undef, .undef, .undef, .undef, .undef, .undef, .undef, .undef, .undef, .undef, .undef, .undef, .undef, .undef, .undef, .undef, .undef, .undef, .undef, .undef, .undef, .undef, .undef, .undef, .undef, .undef, .undef, .undef, .undef, .undef, .undef, .undef, .undef, .undef, .undef, .undef, .undef, .undef, .undef, .undef, .undef, .undef, .undef, .undef, .undef, .undef, .undef, .undef, .undef, .undef, .undef, .undef, .undef, .undef, .undef, .undef, .undef, .undef, .undef, .undef, .undef, .undef, .undef, .undef, .undef, .undef, .undef, .undef, .undef, .undef, .undef, .undef, .undef, .undef, .undef, .undef, .undef, .undef, .undef, .undef, .undef, .undef, .undef, .undef, .undef, .undef, .undef, .undef, .undef, .undef]
theorem roundsL (n : Nat) (hn : n < 8) (W : Nat) (hW : W ≤ 7) (hg : Sy.good W n = true) (s : St) (ta oa ia tb ob ib G : Nat) (h : DuoG s ta oa ia tb ob ib 10 W (Sy.start n).a (Sy.start n).b G 0 0) (e : Env) (he : maskE M19b2l e = E19o ta tb G n 0) :
    ∃ S X, iter (evC tabGl (evO 999) 999 M19b2) M19b2l 999 e s = some (.exit 2, X19o ta tb G n, S) ∧ Sy.run W n 30 = some X ∧ DuoG S ta oa ia tb ob ib 10 W X.a X.b G X.g0 X.g1 := by
  refine iter_leave (evC tabGl (evO 999) 999 M19b2) M19b2l (fun i e S => maskE M19b2l e = E19o ta tb G n (i : Nat) ∧ ∃ X, Sy.run W n i = some X ∧ DuoG S ta oa ia tb ob ib 10 W X.a X.b G X.g0 X.g1 ∧ X.b.ok = true ∧ X.g0 ≤ 8 * i ∧ X.g1 ≤ 8 * i)
    (fun out => ∃ S X, out = some (.exit 2, X19o ta tb G n, S) ∧ Sy.run W n 30 = some X ∧ DuoG S ta oa ia tb ob ib 10 W X.a X.b G X.g0 X.g1) 30 ?_ ?_ 30 0 _ _ 999 (by omega) ⟨he, _, rfl, h, by simp [Sy.start, Tn.ok]; omega, by simp [Sy.start], by simp [Sy.start]⟩ (by omega)
  · rintro i e S hi ⟨h1, X, h2, h3, h4, h5, h6⟩
    rw [h1]
    left
    obtain ⟨Y, hY⟩ := run_some hg (i + 1) (by omega)
    have hr : Sy.round W i X = some Y := by
      have := hY
      rw [show Sy.run W n (i + 1) = (Sy.run W n i).bind (Sy.round W i) from rfl, h2] at this
      exact this
    obtain ⟨e', S', p1, p2, p3, p4, p5⟩ := roundS n i hi W hW S ta oa ia tb ob ib G X Y h3 h4 hr (by omega) (by omega)
    have := round_le hW hr
    exact ⟨e', S', p1, p2, Y, hY, p3, p5, by omega, by omega⟩
  · rintro e S ⟨h1, X, h2, h3, h4, h5, h6⟩
    rw [h1]
    have q : (((30 : Nat) : Int) < 30) = False := eq_false (by omega)
    have hx : evC tabGl (evO 999) 999 M19b2 (E19o ta tb G n ((30 : Nat) : Int)) S = some (.exit 2, X19o ta tb G n, S) := by
      simp only [M19b2, E19o, X19o, q, qES0, qES1, qES2, env0, List.length_cons, List.length_nil, Nat.reduceAdd, Nat.reduceSub, List.replicate, List.cons_append, List.nil_append, opd, Env.put, Env.at, List.set_cons_zero, List.set_cons_succ, List.getD_cons_zero, List.getD_cons_succ, freezeL, resVs, oneOr, Option.map_some, Option.map_none, List.map_cons, List.map_nil, if_true, if_false, Bool.not_true, Bool.not_false, Bool.false_eq_true, reduceIte, decide_true, decide_false, Int.reduceLT, Int.reduceLE, Int.reduceGT, Int.reduceGE, Int.reduceEq, Int.reduceBEq, Int.reduceBNe, load_ptr, ldV_some, cellAt_cells, List.getElem?_cons_zero, List.getElem?_cons_succ, store_ptr, stO_some, setAt_0, setAt_1, setAt_2, setAt_3, setAt_4, setAt_5, setAt_6, setAt_7, setAt_8, setAt_9, setAt_10, setAt_11, setAt_12, cells_int, cells_bool, cells_str, cells_nils, cells_nilp, cells_ptr, cells_sl, cells_u8, cells_u16, cells_agg, get_upd_is, Option.isSome_some, upd_upd, ev1_nchkV, ev1_faV, nchkV_ptr, faV_ptr, ev1_extV, extV_tup, eqptr_nil, eqptr_ptr, Nat.zero_add, Nat.add_zero, qPL0, qPL1, qPL2, qPL3, qPL4, qPL5, beq_self_eq_true]
      rfl
    rw [hx]
    exact ⟨⟨S, X, rfl, h2, h3⟩, fun _ _ h => by cases h⟩
/-- Two turns are begun. -/
theorem two_new (s : St) (hs : Wf s) (baud silent win wait : Int) (W : Nat) (hW : clampW win = (W : Int)) :
    ∃ s1 s2 ta oa ia tb ob ib, evO 999 39 [.int .i64 1, .agg [.int .i64 baud, .int .i64 silent, .int .i64 win, .int .i64 10, .int .i64 wait]] s = some (.ptr ta 0, s1) ∧
      evO 999 39 [.int .i64 2, .agg [.int .i64 baud, .int .i64 silent, .int .i64 win, .int .i64 10, .int .i64 wait]] s1 = some (.ptr tb 0, s2) ∧
      Duo s2 ta oa ia tb ob ib 10 W (Sy.start 0).a (Sy.start 0).b ∧ ∀ j, j < s.next → s1.get j = s.get j := by
  obtain ⟨s1, ta, oa, ia, p1, p2, p3, p4, p5, _⟩ := new_evT 997 s 1 baud silent win 10 wait (.inl rfl)
  obtain ⟨s2, tb, ob, ib, q1, q2, q3, q4, q5, _⟩ := new_evT 997 s1 2 baud silent win 10 wait (.inr rfl)
  have f1 := (evO_reach (fun j => s.next ≤ j) s _ _ _ _ _ _ p1 ⟨trivial, ⟨trivial, trivial, trivial, trivial, trivial, trivial⟩, trivial⟩ ⟨Nat.le_refl _, fun _ h => h, fun j z cs hj hg => (by rw [hs j hj] at hg; cases hg), fun j z cs hj hg => (by rw [hs j hj] at hg; cases hg), fun j hj => rfl, hs⟩).2
  have w1 : Wf s1 := f1.wf
  have f2 := (evO_reach (fun j => s1.next ≤ j) s1 _ _ _ _ _ _ q1 ⟨trivial, ⟨trivial, trivial, trivial, trivial, trivial, trivial⟩, trivial⟩ ⟨Nat.le_refl _, fun _ h => h, fun j z cs hj hg => (by rw [w1 j hj] at hg; cases hg), fun j z cs hj hg => (by rw [w1 j hj] at hg; cases hg), fun j hj => rfl, w1⟩).2
  rw [hW] at p2 q2
  have p2' : TnAt s1 ta oa ia 10 W (Sy.start 0).a := p2
  have q2' : TnAt s2 tb ob ib 10 W (Sy.start 0).b := q2
  obtain ⟨a1, a2⟩ := TurnAt.keep p2' f2.le (fun j hj => f2.same j (by have := p2'.ft_lt hj; omega))
  refine ⟨s1, s2, ta, oa, ia, tb, ob, ib, p1, q1, ⟨a1, q2', f2.wf, fun j hj hk => ?_⟩, fun j hj => f1.same j (by omega)⟩
  have hlt := p2'.ft_lt (a2 j hj)
  have : s1.next ≤ j := by
    rcases hk with rfl | rfl | rfl | ⟨W', cs', m, u, z', f', st', hk⟩
    · omega
    · omega
    · omega
    · exact (f2.cells ob 0 _ (by omega) hk).2.1.2
  omega
end Go.Proofs.YtochnineebgbgaaDoor
