/- What the evaluator says of the law SetupMore: true. No conditions. -/
import Derived.Test.YtbeimfhodgmjhaaDoorSMore
import Derived.Test.YtbeimfhodgmjhaaDoorPlainT8
namespace Go.Proofs.YtbeimfhodgmjhaaDoor.setupMore
open Go Go.Ab
set_option linter.unusedVariables false
set_option linter.unusedSimpArgs false
set_option maxRecDepth 100000 in
set_option maxHeartbeats 8000000 in
theorem says (as0 : List Ab.AV) (hs0 : Ab.ScL Tryd.prog setupTypes as0) (x1 : Ab.AV) (z1 : List (Int × List UInt8)) (hx1 : Ab.IsTups x1 z1 ∧ ∀ u ∈ z1, u.2.length ≤ maxLen ∧ IntKind.i64.has u.1) (n2 : Int) (hn2 : IntKind.has .i64 n2) : Ab.saysTrue (evS 1000 17 [.agg as0, x1, .int .i64 n2] Ab.St.nil) = true := by
  obtain ⟨f, t, a, c, b, s, w, z, ti, rfl, hf, ht⟩ := setup_of hs0
  have hx : (Su.mk f t a c ⟨b, s, w, z, ti⟩).ok := ⟨by
    unfold IntKind.has at hf; simp only [IntKind.min, IntKind.max, IntKind.bits, IntKind.signed] at hf; unfold is32; simp at hf ⊢; omega, by
    unfold IntKind.has at ht; simp only [IntKind.min, IntKind.max, IntKind.bits, IntKind.signed] at ht; unfold is32; simp at ht ⊢; omega⟩
  have hb := s21 998
  have h54 := s54 998 ⟨f, t, a, c, ⟨b, s, w, z, ti⟩⟩ hx
  rw [show (1000 : Nat) = 999 + 1 from rfl, evS_in rfl tab17]
  refine says_of ?_
  rw [show St.nil = St.nil.pl [] from rfl]
  by_cases g : (Su.mk f t a c ⟨b, s, w, z, ti⟩).may
  · rw [if_pos g, decide_eq_true g] at h54
    have hl := more_loop ⟨f, t, a, c, ⟨b, s, w, z, ti⟩⟩ hx g n2 x1 z1 (isTp_of hx1.1) (St.nil.pl [.cells 0 (Su.mk f t a c ⟨b, s, w, z, ti⟩).cells]) (plg0 _ _ _) (by rw [pl_next]; simp)
    simp only [Su.cells, suC] at h54 hl
    simp only [M17, hb, h54, evC_loop, ev1_boxV, ev1_extV, qES0, qES1, qES2, env0, List.length_cons, List.length_nil, Nat.reduceAdd, Nat.reduceSub, List.replicate, List.cons_append, List.nil_append, opd, Env.put, Env.at, List.set_cons_zero, List.set_cons_succ, List.getD_cons_zero, List.getD_cons_succ, freezeL, resVs, oneOr, Option.map_some, Option.map_none, List.map_cons, List.map_nil, if_true, if_false, Bool.not_true, Bool.not_false, Bool.false_eq_true, reduceIte, decide_true, decide_false, Int.reduceLT, Int.reduceLE, Int.reduceGT, Int.reduceGE, Int.reduceEq, Int.reduceBEq, Int.reduceBNe, load_ptr, ldV_some, cellAt_cells, List.getElem?_cons_zero, List.getElem?_cons_succ, store_ptr, stO_some, setAt_0, setAt_1, setAt_2, setAt_3, setAt_4, setAt_5, setAt_6, setAt_7, setAt_8, setAt_9, setAt_10, setAt_11, setAt_12, cells_int, cells_bool, cells_str, cells_nils, cells_nilp, cells_ptr, cells_sl, cells_u8, cells_u16, cells_agg, get_upd_is, Option.isSome_some, upd_upd, ev1_nchkV, ev1_faV, nchkV_ptr, faV_ptr, ev1_extV, extV_tup, eqptr_nil, eqptr_ptr, Nat.zero_add, Nat.add_zero, qPL0, qPL1, qPL2, qPL3, qPL4, qPL5, beq_self_eq_true]
    exact hl _ rfl
  · rw [if_neg g, decide_eq_false g] at h54
    simp only [Su.cells, suC] at h54
    simp only [M17, hb, h54, ev1_boxV, ev1_extV, qES0, qES1, qES2, env0, List.length_cons, List.length_nil, Nat.reduceAdd, Nat.reduceSub, List.replicate, List.cons_append, List.nil_append, opd, Env.put, Env.at, List.set_cons_zero, List.set_cons_succ, List.getD_cons_zero, List.getD_cons_succ, freezeL, resVs, oneOr, Option.map_some, Option.map_none, List.map_cons, List.map_nil, if_true, if_false, Bool.not_true, Bool.not_false, Bool.false_eq_true, reduceIte, decide_true, decide_false, Int.reduceLT, Int.reduceLE, Int.reduceGT, Int.reduceGE, Int.reduceEq, Int.reduceBEq, Int.reduceBNe, load_ptr, ldV_some, cellAt_cells, List.getElem?_cons_zero, List.getElem?_cons_succ, store_ptr, stO_some, setAt_0, setAt_1, setAt_2, setAt_3, setAt_4, setAt_5, setAt_6, setAt_7, setAt_8, setAt_9, setAt_10, setAt_11, setAt_12, cells_int, cells_bool, cells_str, cells_nils, cells_nilp, cells_ptr, cells_sl, cells_u8, cells_u16, cells_agg, get_upd_is, Option.isSome_some, upd_upd, ev1_nchkV, ev1_faV, nchkV_ptr, faV_ptr, ev1_extV, extV_tup, eqptr_nil, eqptr_ptr, Nat.zero_add, Nat.add_zero, qPL0, qPL1, qPL2, qPL3, qPL4, qPL5, beq_self_eq_true]
end Go.Proofs.YtbeimfhodgmjhaaDoor.setupMore
