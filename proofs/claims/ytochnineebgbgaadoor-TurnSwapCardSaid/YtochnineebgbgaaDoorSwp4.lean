/- TurnSwap: one round, swap and all. No conditions. -/
import Derived.Test.YtochnineebgbgaaDoorSwp3
set_option linter.unusedSimpArgs false
set_option linter.unusedVariables false
set_option maxRecDepth 100000
set_option maxHeartbeats 8000000
namespace Go.Proofs.YtochnineebgbgaaDoor
open Go Go.Ab
theorem roundS (n : Nat) (i : Nat) (hi : i < 30) (W : Nat) (hW : W ≤ 7) (S : St) (ta oa ia tb ob ib G : Nat) (X Y : Sy) (h : DuoG S ta oa ia tb ob ib 10 W X.a X.b G X.g0 X.g1) (hB : X.b.ok = true) (hs : Sy.round W i X = some Y) (hg1 : X.g1 ≤ 300) (hg0 : X.g0 ≤ 300) :
    ∃ e' S', evC tabGl (evO 999) 999 M19b2 (E19o ta tb G n (i : Nat)) S = some (.nrm, e', S') ∧ maskE M19b2l e' = E19o ta tb G n ((i + 1 : Nat) : Int) ∧ DuoG S' ta oa ia tb ob ib 10 W Y.a Y.b G Y.g0 Y.g1 ∧ Y.a.ok = true ∧ Y.b.ok = true := by
  have q : ((i : Int) < 30) = True := eq_true (by omega)
  have w1 : IntKind.i64.wrap ((i : Int) + 1) = ((i + 1 : Nat) : Int) := (wrapI _ (by omega) (by omega)).trans (by omega)
  have m3 := i64_rem (i : Int) 3 (by omega)
  rw [show (i : Int).tmod 3 = ((i % 3 : Nat) : Int) from rfl] at m3
  unfold Sy.round at hs
  split at hs
  · rename_i hA
    split at hs
    · cases hs
    · rename_i b1 x1 hh1
      split at hs
      · rename_i hb
        split at hs
        · cases hs
        · rename_i a1 x0 hh0
          obtain ⟨va, vb, S1, S2, S3, S4, p1, va1, hl1, r1, vb1, hl0, D4⟩ := hearings n i W hW S ta oa ia tb ob ib G X.g0 X.g1 X.a X.b b1 a1 x1 x0 h hA hB hb hh1 hh0 hg1 hg0
          simp only at hs
          generalize b1.went W = bw at *
          have sw1 : ∀ r : Int, (r = 1 ∨ r = 2) → (3 - r = 1 ∨ 3 - r = 2) := fun r h => by omega
          have z0 : ((0 : Int) == 0) = true := rfl
          have n11 : ((1 : Int) == 1) = true := rfl
          have n21 : ((2 : Int) == 1) = false := rfl
          have n12 : ((1 : Int) == 2) = false := rfl
          have n22 : ((2 : Int) == 2) = true := rfl
          have ra := role_evT 998 D4.duo.a
          have rb := role_evT 998 D4.duo.b
          have ma := mine_evT 998 D4.duo.a
          have mb := mine_evT 998 D4.duo.b
          by_cases hsw : Sy.swaps ⟨a1, bw, x0, x1⟩ i = true
          · rw [if_pos hsw] at hs
            simp only at hs
            split at hs
            · cases hs
            · rename_i hne
              split at hs
              · rename_i hok
                cases hs
                have hra : a1.role = 1 ∨ a1.role = 2 := by have := (Tn.ok_of hok.1).1; simp only [Tn.swap] at this; omega
                have hrb : bw.role = 1 ∨ bw.role = 2 := by have := (Tn.ok_of hok.2).1; simp only [Tn.swap] at this; omega
                obtain ⟨S5, s1, s2, _⟩ := swap_evT 998 D4.duo.a hra
                have D5 := D4.step s1 (fun C hC => ⟨hC, trivial⟩) (A' := a1.swap) s2
                obtain ⟨S6, s3, s4, _⟩ := swap_evT 998 D5.duo.b hrb
                have D6 := (D5.symm.step s3 (fun C hC => ⟨hC, trivial⟩) (A' := bw.swap) s4).symm
                have ra6 := role_evT 998 D6.duo.a
                have rb6 := role_evT 998 D6.duo.b
                have ma6 := mine_evT 998 D6.duo.a
                have mb6 := mine_evT 998 D6.duo.b
                suffices hx : ∃ e', evC tabGl (evO 999) 999 M19b2 (E19o ta tb G n (i : Nat)) S = some (.nrm, e', S6) ∧ maskE M19b2l e' = E19o ta tb G n ((i + 1 : Nat) : Int) by
                  obtain ⟨e', g1, g2⟩ := hx
                  exact ⟨e', S6, g1, g2, D6, hok.1, hok.2⟩
                simp only [Tn.swap] at ra6 rb6 ma6 mb6 hne
                have h3 : i % 3 = 0 := by simp only [Sy.swaps, Bool.and_eq_true, decide_eq_true_eq] at hsw; exact hsw.1
                have m3' := m3
                rw [h3] at m3'
                simp only [Sy.swaps] at hsw
                rcases hra with e1 | e1 <;> rcases hrb with e2 | e2 <;> cases e3 : a1.mine <;> cases e4 : bw.mine <;> rw [e1] at ra ra6 ma6 hne hsw <;> rw [e2] at rb rb6 mb6 hne hsw <;> rw [e3] at ma hsw <;> rw [e4] at mb hsw <;> first
                  | (exfalso; revert hsw; simp; done)
                  | (exfalso; revert hne; simp; done)
                  | (simp only [M19b2, E19o, q, p1, va1, evC_loop, qES0, qES1, qES2, env0, List.length_cons, List.length_nil, Nat.reduceAdd, Nat.reduceSub, List.replicate, List.cons_append, List.nil_append, opd, Env.put, Env.at, List.set_cons_zero, List.set_cons_succ, List.getD_cons_zero, List.getD_cons_succ, freezeL, resVs, oneOr, Option.map_some, Option.map_none, List.map_cons, List.map_nil, if_true, if_false, Bool.not_true, Bool.not_false, Bool.false_eq_true, reduceIte, decide_true, decide_false, Int.reduceLT, Int.reduceLE, Int.reduceGT, Int.reduceGE, Int.reduceEq, Int.reduceBEq, Int.reduceBNe, load_ptr, ldV_some, cellAt_cells, List.getElem?_cons_zero, List.getElem?_cons_succ, store_ptr, stO_some, setAt_0, setAt_1, setAt_2, setAt_3, setAt_4, setAt_5, setAt_6, setAt_7, setAt_8, setAt_9, setAt_10, setAt_11, setAt_12, cells_int, cells_bool, cells_str, cells_nils, cells_nilp, cells_ptr, cells_sl, cells_u8, cells_u16, cells_agg, get_upd_is, Option.isSome_some, upd_upd, ev1_nchkV, ev1_faV, nchkV_ptr, faV_ptr, ev1_extV, extV_tup, eqptr_nil, eqptr_ptr, Nat.zero_add, Nat.add_zero, qPL0, qPL1, qPL2, qPL3, qPL4, qPL5, beq_self_eq_true, qED0, qED1, placeR]
                     rw [hl1]
                     rotate_left
                     · rfl
                     dsimp only [X19a]
                     simp only [r1, vb1, evC_loop, qES0, qES1, qES2, env0, List.length_cons, List.length_nil, Nat.reduceAdd, Nat.reduceSub, List.replicate, List.cons_append, List.nil_append, opd, Env.put, Env.at, List.set_cons_zero, List.set_cons_succ, List.getD_cons_zero, List.getD_cons_succ, freezeL, resVs, oneOr, Option.map_some, Option.map_none, List.map_cons, List.map_nil, if_true, if_false, Bool.not_true, Bool.not_false, Bool.false_eq_true, reduceIte, decide_true, decide_false, Int.reduceLT, Int.reduceLE, Int.reduceGT, Int.reduceGE, Int.reduceEq, Int.reduceBEq, Int.reduceBNe, load_ptr, ldV_some, cellAt_cells, List.getElem?_cons_zero, List.getElem?_cons_succ, store_ptr, stO_some, setAt_0, setAt_1, setAt_2, setAt_3, setAt_4, setAt_5, setAt_6, setAt_7, setAt_8, setAt_9, setAt_10, setAt_11, setAt_12, cells_int, cells_bool, cells_str, cells_nils, cells_nilp, cells_ptr, cells_sl, cells_u8, cells_u16, cells_agg, get_upd_is, Option.isSome_some, upd_upd, ev1_nchkV, ev1_faV, nchkV_ptr, faV_ptr, ev1_extV, extV_tup, eqptr_nil, eqptr_ptr, Nat.zero_add, Nat.add_zero, qPL0, qPL1, qPL2, qPL3, qPL4, qPL5, beq_self_eq_true, qED0, qED1, placeR]
                     rw [hl0]
                     rotate_left
                     · rfl
                     dsimp only [X19b]
                     simp only [ra, rb, ma, mb, s1, s3, ra6, rb6, ma6, mb6, m3', z0, n11, n21, n12, n22, w1, show (3 : Int) - 1 = 2 from rfl, show (3 : Int) - 2 = 1 from rfl, qES0, qES1, qES2, env0, List.length_cons, List.length_nil, Nat.reduceAdd, Nat.reduceSub, List.replicate, List.cons_append, List.nil_append, opd, Env.put, Env.at, List.set_cons_zero, List.set_cons_succ, List.getD_cons_zero, List.getD_cons_succ, freezeL, resVs, oneOr, Option.map_some, Option.map_none, List.map_cons, List.map_nil, if_true, if_false, Bool.not_true, Bool.not_false, Bool.false_eq_true, reduceIte, decide_true, decide_false, Int.reduceLT, Int.reduceLE, Int.reduceGT, Int.reduceGE, Int.reduceEq, Int.reduceBEq, Int.reduceBNe, load_ptr, ldV_some, cellAt_cells, List.getElem?_cons_zero, List.getElem?_cons_succ, store_ptr, stO_some, setAt_0, setAt_1, setAt_2, setAt_3, setAt_4, setAt_5, setAt_6, setAt_7, setAt_8, setAt_9, setAt_10, setAt_11, setAt_12, cells_int, cells_bool, cells_str, cells_nils, cells_nilp, cells_ptr, cells_sl, cells_u8, cells_u16, cells_agg, get_upd_is, Option.isSome_some, upd_upd, ev1_nchkV, ev1_faV, nchkV_ptr, faV_ptr, ev1_extV, extV_tup, eqptr_nil, eqptr_ptr, Nat.zero_add, Nat.add_zero, qPL0, qPL1, qPL2, qPL3, qPL4, qPL5, beq_self_eq_true, qED0, qED1, placeR]
                     exact ⟨_, rfl, rfl⟩)
              · cases hs
          · rw [if_neg hsw] at hs
            simp only at hs
            split at hs
            · cases hs
            · rename_i hne
              split at hs
              · rename_i hok
                cases hs
                have hra := (Tn.ok_of hok.1).1
                have hrb := (Tn.ok_of hok.2).1
                try simp only at hra hrb
                suffices hx : ∃ e', evC tabGl (evO 999) 999 M19b2 (E19o ta tb G n (i : Nat)) S = some (.nrm, e', S4) ∧ maskE M19b2l e' = E19o ta tb G n ((i + 1 : Nat) : Int) by
                  obtain ⟨e', g1, g2⟩ := hx
                  exact ⟨e', S4, g1, g2, D4, hok.1, hok.2⟩
                simp only [Sy.swaps] at hsw
                by_cases h3 : i % 3 = 0
                · have m3' := m3
                  rw [h3] at m3' hsw
                  rcases hra with e1 | e1 <;> rcases hrb with e2 | e2 <;> cases e3 : a1.mine <;> cases e4 : bw.mine <;> rw [e1] at ra hne hsw <;> rw [e2] at rb hne hsw <;> rw [e3] at ma hsw hne <;> rw [e4] at mb hsw hne <;> first
                    | (exfalso; revert hsw; simp; done)
                    | (exfalso; revert hne; simp; done)
                    | (simp only [M19b2, E19o, q, p1, va1, evC_loop, qES0, qES1, qES2, env0, List.length_cons, List.length_nil, Nat.reduceAdd, Nat.reduceSub, List.replicate, List.cons_append, List.nil_append, opd, Env.put, Env.at, List.set_cons_zero, List.set_cons_succ, List.getD_cons_zero, List.getD_cons_succ, freezeL, resVs, oneOr, Option.map_some, Option.map_none, List.map_cons, List.map_nil, if_true, if_false, Bool.not_true, Bool.not_false, Bool.false_eq_true, reduceIte, decide_true, decide_false, Int.reduceLT, Int.reduceLE, Int.reduceGT, Int.reduceGE, Int.reduceEq, Int.reduceBEq, Int.reduceBNe, load_ptr, ldV_some, cellAt_cells, List.getElem?_cons_zero, List.getElem?_cons_succ, store_ptr, stO_some, setAt_0, setAt_1, setAt_2, setAt_3, setAt_4, setAt_5, setAt_6, setAt_7, setAt_8, setAt_9, setAt_10, setAt_11, setAt_12, cells_int, cells_bool, cells_str, cells_nils, cells_nilp, cells_ptr, cells_sl, cells_u8, cells_u16, cells_agg, get_upd_is, Option.isSome_some, upd_upd, ev1_nchkV, ev1_faV, nchkV_ptr, faV_ptr, ev1_extV, extV_tup, eqptr_nil, eqptr_ptr, Nat.zero_add, Nat.add_zero, qPL0, qPL1, qPL2, qPL3, qPL4, qPL5, beq_self_eq_true, qED0, qED1, placeR]
                       rw [hl1]
                       rotate_left
                       · rfl
                       dsimp only [X19a]
                       simp only [r1, vb1, evC_loop, qES0, qES1, qES2, env0, List.length_cons, List.length_nil, Nat.reduceAdd, Nat.reduceSub, List.replicate, List.cons_append, List.nil_append, opd, Env.put, Env.at, List.set_cons_zero, List.set_cons_succ, List.getD_cons_zero, List.getD_cons_succ, freezeL, resVs, oneOr, Option.map_some, Option.map_none, List.map_cons, List.map_nil, if_true, if_false, Bool.not_true, Bool.not_false, Bool.false_eq_true, reduceIte, decide_true, decide_false, Int.reduceLT, Int.reduceLE, Int.reduceGT, Int.reduceGE, Int.reduceEq, Int.reduceBEq, Int.reduceBNe, load_ptr, ldV_some, cellAt_cells, List.getElem?_cons_zero, List.getElem?_cons_succ, store_ptr, stO_some, setAt_0, setAt_1, setAt_2, setAt_3, setAt_4, setAt_5, setAt_6, setAt_7, setAt_8, setAt_9, setAt_10, setAt_11, setAt_12, cells_int, cells_bool, cells_str, cells_nils, cells_nilp, cells_ptr, cells_sl, cells_u8, cells_u16, cells_agg, get_upd_is, Option.isSome_some, upd_upd, ev1_nchkV, ev1_faV, nchkV_ptr, faV_ptr, ev1_extV, extV_tup, eqptr_nil, eqptr_ptr, Nat.zero_add, Nat.add_zero, qPL0, qPL1, qPL2, qPL3, qPL4, qPL5, beq_self_eq_true, qED0, qED1, placeR]
                       rw [hl0]
                       rotate_left
                       · rfl
                       dsimp only [X19b]
                       simp only [ra, rb, ma, mb, m3', z0, n11, n21, n12, n22, w1, qES0, qES1, qES2, env0, List.length_cons, List.length_nil, Nat.reduceAdd, Nat.reduceSub, List.replicate, List.cons_append, List.nil_append, opd, Env.put, Env.at, List.set_cons_zero, List.set_cons_succ, List.getD_cons_zero, List.getD_cons_succ, freezeL, resVs, oneOr, Option.map_some, Option.map_none, List.map_cons, List.map_nil, if_true, if_false, Bool.not_true, Bool.not_false, Bool.false_eq_true, reduceIte, decide_true, decide_false, Int.reduceLT, Int.reduceLE, Int.reduceGT, Int.reduceGE, Int.reduceEq, Int.reduceBEq, Int.reduceBNe, load_ptr, ldV_some, cellAt_cells, List.getElem?_cons_zero, List.getElem?_cons_succ, store_ptr, stO_some, setAt_0, setAt_1, setAt_2, setAt_3, setAt_4, setAt_5, setAt_6, setAt_7, setAt_8, setAt_9, setAt_10, setAt_11, setAt_12, cells_int, cells_bool, cells_str, cells_nils, cells_nilp, cells_ptr, cells_sl, cells_u8, cells_u16, cells_agg, get_upd_is, Option.isSome_some, upd_upd, ev1_nchkV, ev1_faV, nchkV_ptr, faV_ptr, ev1_extV, extV_tup, eqptr_nil, eqptr_ptr, Nat.zero_add, Nat.add_zero, qPL0, qPL1, qPL2, qPL3, qPL4, qPL5, beq_self_eq_true, qED0, qED1, placeR]
                       exact ⟨_, rfl, rfl⟩)
                · have z1 : (((i % 3 : Nat) : Int) == 0) = false := beq_eq_false_iff_ne.2 (by omega)
                  rcases hra with e1 | e1 <;> rcases hrb with e2 | e2 <;> cases e3 : a1.mine <;> cases e4 : bw.mine <;> rw [e1] at ra hne <;> rw [e2] at rb hne <;> rw [e3] at ma hne <;> rw [e4] at mb hne <;> first
                    | (exfalso; revert hne; simp; done)
                    | (simp only [M19b2, E19o, q, p1, va1, evC_loop, qES0, qES1, qES2, env0, List.length_cons, List.length_nil, Nat.reduceAdd, Nat.reduceSub, List.replicate, List.cons_append, List.nil_append, opd, Env.put, Env.at, List.set_cons_zero, List.set_cons_succ, List.getD_cons_zero, List.getD_cons_succ, freezeL, resVs, oneOr, Option.map_some, Option.map_none, List.map_cons, List.map_nil, if_true, if_false, Bool.not_true, Bool.not_false, Bool.false_eq_true, reduceIte, decide_true, decide_false, Int.reduceLT, Int.reduceLE, Int.reduceGT, Int.reduceGE, Int.reduceEq, Int.reduceBEq, Int.reduceBNe, load_ptr, ldV_some, cellAt_cells, List.getElem?_cons_zero, List.getElem?_cons_succ, store_ptr, stO_some, setAt_0, setAt_1, setAt_2, setAt_3, setAt_4, setAt_5, setAt_6, setAt_7, setAt_8, setAt_9, setAt_10, setAt_11, setAt_12, cells_int, cells_bool, cells_str, cells_nils, cells_nilp, cells_ptr, cells_sl, cells_u8, cells_u16, cells_agg, get_upd_is, Option.isSome_some, upd_upd, ev1_nchkV, ev1_faV, nchkV_ptr, faV_ptr, ev1_extV, extV_tup, eqptr_nil, eqptr_ptr, Nat.zero_add, Nat.add_zero, qPL0, qPL1, qPL2, qPL3, qPL4, qPL5, beq_self_eq_true, qED0, qED1, placeR]
                       rw [hl1]
                       rotate_left
                       · rfl
                       dsimp only [X19a]
                       simp only [r1, vb1, evC_loop, qES0, qES1, qES2, env0, List.length_cons, List.length_nil, Nat.reduceAdd, Nat.reduceSub, List.replicate, List.cons_append, List.nil_append, opd, Env.put, Env.at, List.set_cons_zero, List.set_cons_succ, List.getD_cons_zero, List.getD_cons_succ, freezeL, resVs, oneOr, Option.map_some, Option.map_none, List.map_cons, List.map_nil, if_true, if_false, Bool.not_true, Bool.not_false, Bool.false_eq_true, reduceIte, decide_true, decide_false, Int.reduceLT, Int.reduceLE, Int.reduceGT, Int.reduceGE, Int.reduceEq, Int.reduceBEq, Int.reduceBNe, load_ptr, ldV_some, cellAt_cells, List.getElem?_cons_zero, List.getElem?_cons_succ, store_ptr, stO_some, setAt_0, setAt_1, setAt_2, setAt_3, setAt_4, setAt_5, setAt_6, setAt_7, setAt_8, setAt_9, setAt_10, setAt_11, setAt_12, cells_int, cells_bool, cells_str, cells_nils, cells_nilp, cells_ptr, cells_sl, cells_u8, cells_u16, cells_agg, get_upd_is, Option.isSome_some, upd_upd, ev1_nchkV, ev1_faV, nchkV_ptr, faV_ptr, ev1_extV, extV_tup, eqptr_nil, eqptr_ptr, Nat.zero_add, Nat.add_zero, qPL0, qPL1, qPL2, qPL3, qPL4, qPL5, beq_self_eq_true, qED0, qED1, placeR]
                       rw [hl0]
                       rotate_left
                       · rfl
                       dsimp only [X19b]
                       simp only [ra, rb, ma, mb, m3, z1, n11, n21, n12, n22, w1, qES0, qES1, qES2, env0, List.length_cons, List.length_nil, Nat.reduceAdd, Nat.reduceSub, List.replicate, List.cons_append, List.nil_append, opd, Env.put, Env.at, List.set_cons_zero, List.set_cons_succ, List.getD_cons_zero, List.getD_cons_succ, freezeL, resVs, oneOr, Option.map_some, Option.map_none, List.map_cons, List.map_nil, if_true, if_false, Bool.not_true, Bool.not_false, Bool.false_eq_true, reduceIte, decide_true, decide_false, Int.reduceLT, Int.reduceLE, Int.reduceGT, Int.reduceGE, Int.reduceEq, Int.reduceBEq, Int.reduceBNe, load_ptr, ldV_some, cellAt_cells, List.getElem?_cons_zero, List.getElem?_cons_succ, store_ptr, stO_some, setAt_0, setAt_1, setAt_2, setAt_3, setAt_4, setAt_5, setAt_6, setAt_7, setAt_8, setAt_9, setAt_10, setAt_11, setAt_12, cells_int, cells_bool, cells_str, cells_nils, cells_nilp, cells_ptr, cells_sl, cells_u8, cells_u16, cells_agg, get_upd_is, Option.isSome_some, upd_upd, ev1_nchkV, ev1_faV, nchkV_ptr, faV_ptr, ev1_extV, extV_tup, eqptr_nil, eqptr_ptr, Nat.zero_add, Nat.add_zero, qPL0, qPL1, qPL2, qPL3, qPL4, qPL5, beq_self_eq_true, qED0, qED1, placeR]
                       exact ⟨_, rfl, rfl⟩)
              · cases hs
      · cases hs
  · cases hs
end Go.Proofs.YtochnineebgbgaaDoor
