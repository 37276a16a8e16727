/- What the evaluator says of the law MeetBest: true. No conditions. -/
import Derived.Test.YtbeimfhodgmjhaaDoorBest
import Derived.Test.YtbeimfhodgmjhaaDoorPlainT8
namespace Go.Proofs.YtbeimfhodgmjhaaDoor.meetBest
open Go Go.Ab
set_option linter.unusedVariables false
set_option linter.unusedSimpArgs false
set_option maxRecDepth 100000 in
set_option maxHeartbeats 8000000 in
theorem says (as0 : List Ab.AV) (hs0 : Ab.ScL Tryd.prog offerTypes as0) (as1 : List Ab.AV) (hs1 : Ab.ScL Tryd.prog offerTypes as1) : Ab.saysTrue (evB 1000 13 [.agg as0, .agg as1] Ab.St.nil) = true := by
  obtain ⟨mb, ms, mw, mz, mt, rfl⟩ := offer_of hs0
  obtain ⟨ob, os, ow, oz, ot, rfl⟩ := offer_of hs1
  have hb := b21 998
  obtain ⟨D, t, e1, _, k1, k2⟩ := deal_ev 998 ⟨mb, ms, mw, mz, mt⟩ ⟨ob, os, ow, oz, ot⟩
  have hm := b58 998 ⟨mb, ms, mw, mz, mt⟩
  have ho := b58 998 ⟨ob, os, ow, oz, ot⟩
  rw [show (1000 : Nat) = 999 + 1 from rfl, evB_in rfl tab13]
  refine says_of ?_
  rw [show St.nil = St.nil.pl [] from rfl]
  cases t with
  | true =>
    obtain ⟨gm, go, hD⟩ := k1 rfl
    have gm' : mayP mb ms mw mz mt := gm
    have go' : mayP ob os ow oz ot := go
    unfold mayP at gm' go'
    have hw := high_at ow (by omega) (by omega)
    have hl := best_a ⟨mb, ms, mw, mz, mt⟩ ⟨ob, os, ow, oz, ot⟩ D (by rw [hD]; exact bb_at mb ob (by omega) (by omega) (by omega) (by omega)) (by rw [hD]; exact ss_at ms os (by omega) (by omega) (by omega) (by omega))
      (by
        obtain ⟨x1, x2, x3⟩ := winZ_spec (frameZ (sizeZ (highZ oz)) (baudZ (highZ (andZ mb ob)))) (highZ ow + 1).toNat (by omega)
        rw [hD]
        exact ⟨(highZ ow + 1).toNat, by show highZ ow + 1 = _; omega, by omega, x1, x2, x3⟩)
      (by rw [hD]; exact ⟨(size_le _).1, by have := (size_le (highZ oz)).2; show sizeZ (highZ oz) ≤ _; omega⟩)
      (by rw [hD]; exact frame_le _ _)
    obtain ⟨db, ds, dw, dz, dt⟩ := D
    simp only [Of5.cells, ofC] at e1
    simp only [M13, hb, e1, evC_loop, ev1_boxV, ev1_eqv, ev1_extV, qES0, qES1, qES2, env0, List.length_cons, List.length_nil, Nat.reduceAdd, Nat.reduceSub, List.replicate, List.cons_append, List.nil_append, opd, Env.put, Env.at, List.set_cons_zero, List.set_cons_succ, List.getD_cons_zero, List.getD_cons_succ, freezeL, resVs, oneOr, Option.map_some, Option.map_none, List.map_cons, List.map_nil, if_true, if_false, Bool.not_true, Bool.not_false, Bool.false_eq_true, reduceIte, decide_true, decide_false, Int.reduceLT, Int.reduceLE, Int.reduceGT, Int.reduceGE, Int.reduceEq, Int.reduceBEq, Int.reduceBNe, load_ptr, ldV_some, cellAt_cells, List.getElem?_cons_zero, List.getElem?_cons_succ, store_ptr, stO_some, setAt_0, setAt_1, setAt_2, setAt_3, setAt_4, setAt_5, setAt_6, setAt_7, setAt_8, setAt_9, setAt_10, setAt_11, setAt_12, cells_int, cells_bool, cells_str, cells_nils, cells_nilp, cells_ptr, cells_sl, cells_u8, cells_u16, cells_agg, get_upd_is, Option.isSome_some, upd_upd, ev1_nchkV, ev1_faV, nchkV_ptr, faV_ptr, ev1_extV, extV_tup, eqptr_nil, eqptr_ptr, Nat.zero_add, Nat.add_zero, qPL0, qPL1, qPL2, qPL3, qPL4, qPL5, beq_self_eq_true]
    exact Eq.trans (congrArg (fun x => valR (outR _ (seqR (blockR 0 x) _))) (iter_mask _ _ _ _ (E13a 0) _ rfl)) hl
  | false =>
    have hn := k2 rfl
    obtain ⟨db, ds, dw, dz, dt⟩ := D
    simp only [Of5.cells, ofC] at e1 hm ho
    by_cases gm : Of5.may ⟨mb, ms, mw, mz, mt⟩
    · have go : ¬ Of5.may ⟨ob, os, ow, oz, ot⟩ := fun h => hn ⟨gm, h⟩
      rw [decide_eq_true gm] at hm
      rw [decide_eq_false go] at ho
      simp only [M13, hb, e1, hm, ho, ev1_boxV, ev1_eqv, ev1_extV, qES0, qES1, qES2, env0, List.length_cons, List.length_nil, Nat.reduceAdd, Nat.reduceSub, List.replicate, List.cons_append, List.nil_append, opd, Env.put, Env.at, List.set_cons_zero, List.set_cons_succ, List.getD_cons_zero, List.getD_cons_succ, freezeL, resVs, oneOr, Option.map_some, Option.map_none, List.map_cons, List.map_nil, if_true, if_false, Bool.not_true, Bool.not_false, Bool.false_eq_true, reduceIte, decide_true, decide_false, Int.reduceLT, Int.reduceLE, Int.reduceGT, Int.reduceGE, Int.reduceEq, Int.reduceBEq, Int.reduceBNe, load_ptr, ldV_some, cellAt_cells, List.getElem?_cons_zero, List.getElem?_cons_succ, store_ptr, stO_some, setAt_0, setAt_1, setAt_2, setAt_3, setAt_4, setAt_5, setAt_6, setAt_7, setAt_8, setAt_9, setAt_10, setAt_11, setAt_12, cells_int, cells_bool, cells_str, cells_nils, cells_nilp, cells_ptr, cells_sl, cells_u8, cells_u16, cells_agg, get_upd_is, Option.isSome_some, upd_upd, ev1_nchkV, ev1_faV, nchkV_ptr, faV_ptr, ev1_extV, extV_tup, eqptr_nil, eqptr_ptr, Nat.zero_add, Nat.add_zero, qPL0, qPL1, qPL2, qPL3, qPL4, qPL5, beq_self_eq_true]
    · rw [decide_eq_false gm] at hm
      simp only [M13, hb, e1, hm, ev1_boxV, ev1_eqv, ev1_extV, qES0, qES1, qES2, env0, List.length_cons, List.length_nil, Nat.reduceAdd, Nat.reduceSub, List.replicate, List.cons_append, List.nil_append, opd, Env.put, Env.at, List.set_cons_zero, List.set_cons_succ, List.getD_cons_zero, List.getD_cons_succ, freezeL, resVs, oneOr, Option.map_some, Option.map_none, List.map_cons, List.map_nil, if_true, if_false, Bool.not_true, Bool.not_false, Bool.false_eq_true, reduceIte, decide_true, decide_false, Int.reduceLT, Int.reduceLE, Int.reduceGT, Int.reduceGE, Int.reduceEq, Int.reduceBEq, Int.reduceBNe, load_ptr, ldV_some, cellAt_cells, List.getElem?_cons_zero, List.getElem?_cons_succ, store_ptr, stO_some, setAt_0, setAt_1, setAt_2, setAt_3, setAt_4, setAt_5, setAt_6, setAt_7, setAt_8, setAt_9, setAt_10, setAt_11, setAt_12, cells_int, cells_bool, cells_str, cells_nils, cells_nilp, cells_ptr, cells_sl, cells_u8, cells_u16, cells_agg, get_upd_is, Option.isSome_some, upd_upd, ev1_nchkV, ev1_faV, nchkV_ptr, faV_ptr, ev1_extV, extV_tup, eqptr_nil, eqptr_ptr, Nat.zero_add, Nat.add_zero, qPL0, qPL1, qPL2, qPL3, qPL4, qPL5, beq_self_eq_true]
end Go.Proofs.YtbeimfhodgmjhaaDoor.meetBest
