/- What the evaluator says of the law QosCut: true. No conditions. -/
import Derived.Test.YtbeimfhodgmjhaaDoorQ12
import Derived.Test.YtbeimfhodgmjhaaDoorM8_18
import Derived.Test.YtbeimfhodgmjhaaDoorPlainT8
namespace Go.Proofs.YtbeimfhodgmjhaaDoor.qosCut
open Go Go.Ab
set_option linter.unusedVariables false
set_option linter.unusedSimpArgs false
set_option maxRecDepth 100000 in
set_option maxHeartbeats 8000000 in
theorem says (as0 : List Ab.AV) (hs0 : Ab.ScL Tryd.prog offerTypes as0) (n1 : Int) (hn1 : IntKind.has .i64 n1) : Ab.saysTrue (evK 1000 18 [.agg as0, .int .i64 n1] Ab.St.nil) = true := by
  obtain ⟨mb, ms, mw, mz, mt, rfl⟩ := offer_of hs0
  have hb := k21 998
  have f1 := k23 998 ⟨mb, ms, mw, mz, mt⟩
  have f3 := k58 998 ⟨mb, ms, mw, mz, mt⟩
  rw [show (1000 : Nat) = 999 + 1 from rfl, evK_in rfl tab18]
  refine says_of ?_
  rw [show St.nil = St.nil.pl [] from rfl]
  by_cases g : Of5.may ⟨mb, ms, mw, mz, mt⟩
  · rw [if_pos g, decide_eq_true g] at f1
    rw [decide_eq_true g] at f3
    simp only [Of5.cells, ofC] at f1 f3
    by_cases h : n1 < 0
    · have d1 : decide (n1 < 0) = true := decide_eq_true h
      have qb := eqB true
      simp only [M18, hb, f1, f3, d1, qb, ev1_boxV, ev1_eqv, ev1_extV, qES0, qES1, qES2, env0, List.length_cons, List.length_nil, Nat.reduceAdd, Nat.reduceSub, List.replicate, List.cons_append, List.nil_append, opd, Env.put, Env.at, List.set_cons_zero, List.set_cons_succ, List.getD_cons_zero, List.getD_cons_succ, freezeL, resVs, oneOr, Option.map_some, Option.map_none, List.map_cons, List.map_nil, if_true, if_false, Bool.not_true, Bool.not_false, Bool.false_eq_true, reduceIte, decide_true, decide_false, Int.reduceLT, Int.reduceLE, Int.reduceGT, Int.reduceGE, Int.reduceEq, Int.reduceBEq, Int.reduceBNe, load_ptr, ldV_some, cellAt_cells, List.getElem?_cons_zero, List.getElem?_cons_succ, store_ptr, stO_some, setAt_0, setAt_1, setAt_2, setAt_3, setAt_4, setAt_5, setAt_6, setAt_7, setAt_8, setAt_9, setAt_10, setAt_11, setAt_12, cells_int, cells_bool, cells_str, cells_nils, cells_nilp, cells_ptr, cells_sl, cells_u8, cells_u16, cells_agg, get_upd_is, Option.isSome_some, upd_upd, ev1_nchkV, ev1_faV, nchkV_ptr, faV_ptr, ev1_extV, extV_tup, eqptr_nil, eqptr_ptr, Nat.zero_add, Nat.add_zero, qPL0, qPL1, qPL2, qPL3, qPL4, qPL5, beq_self_eq_true]
    · have d1 : decide (n1 < 0) = false := decide_eq_false h
      have hlen : (offB ⟨mb, ms, mw, mz, mt⟩).length = 15 := rfl
      have lx : lensV' (.str (offB ⟨mb, ms, mw, mz, mt⟩)) = some (.int .i64 15) := rfl
      obtain ⟨k, hk⟩ : ∃ k : Nat, n1.tmod 15 = (k : Int) := ⟨(n1.tmod 15).toNat, by have := Int.tmod_nonneg 15 (show 0 ≤ n1 by omega); omega⟩
      have hk2 : k < 15 := by have := Int.tmod_lt_of_pos n1 (show (0 : Int) < 15 by omega); omega
      have r1 := i64_rem n1 15 (by omega)
      rw [hk] at r1
      have s1 := slcS_str (offB ⟨mb, ms, mw, mz, mt⟩) (k : Int) (by omega) (by rw [hlen]; omega)
      rw [Int.toNat_natCast] at s1
      have c1 := k38 998 ((offB ⟨mb, ms, mw, mz, mt⟩).take k)
      rw [getO_cut _ k hk2] at c1
      have c2 := k38 998 (offB ⟨mb, ms, mw, mz, mt⟩)
      rw [getO_offB _ g] at c2
      simp only [getOV, Of5.cells, ofC] at c1 c2
      have q5 := eq5 mb ms mw mz mt
      generalize offB ⟨mb, ms, mw, mz, mt⟩ = p at *
      simp only [M18, hb, f1, f3, d1, lx, r1, s1, c1, c2, q5, ev1_boxV, ev1_eqv, ev1_extV, ev1_slsV, ev1_lensV', qES0, qES1, qES2, env0, List.length_cons, List.length_nil, Nat.reduceAdd, Nat.reduceSub, List.replicate, List.cons_append, List.nil_append, opd, Env.put, Env.at, List.set_cons_zero, List.set_cons_succ, List.getD_cons_zero, List.getD_cons_succ, freezeL, resVs, oneOr, Option.map_some, Option.map_none, List.map_cons, List.map_nil, if_true, if_false, Bool.not_true, Bool.not_false, Bool.false_eq_true, reduceIte, decide_true, decide_false, Int.reduceLT, Int.reduceLE, Int.reduceGT, Int.reduceGE, Int.reduceEq, Int.reduceBEq, Int.reduceBNe, load_ptr, ldV_some, cellAt_cells, List.getElem?_cons_zero, List.getElem?_cons_succ, store_ptr, stO_some, setAt_0, setAt_1, setAt_2, setAt_3, setAt_4, setAt_5, setAt_6, setAt_7, setAt_8, setAt_9, setAt_10, setAt_11, setAt_12, cells_int, cells_bool, cells_str, cells_nils, cells_nilp, cells_ptr, cells_sl, cells_u8, cells_u16, cells_agg, get_upd_is, Option.isSome_some, upd_upd, ev1_nchkV, ev1_faV, nchkV_ptr, faV_ptr, ev1_extV, extV_tup, eqptr_nil, eqptr_ptr, Nat.zero_add, Nat.add_zero, qPL0, qPL1, qPL2, qPL3, qPL4, qPL5, beq_self_eq_true]
  · rw [if_neg g, decide_eq_false g] at f1
    rw [decide_eq_false g] at f3
    simp only [Of5.cells, ofC] at f1 f3
    have qb := eqB false
    simp only [M18, hb, f1, f3, qb, ev1_boxV, ev1_eqv, ev1_extV, qES0, qES1, qES2, env0, List.length_cons, List.length_nil, Nat.reduceAdd, Nat.reduceSub, List.replicate, List.cons_append, List.nil_append, opd, Env.put, Env.at, List.set_cons_zero, List.set_cons_succ, List.getD_cons_zero, List.getD_cons_succ, freezeL, resVs, oneOr, Option.map_some, Option.map_none, List.map_cons, List.map_nil, if_true, if_false, Bool.not_true, Bool.not_false, Bool.false_eq_true, reduceIte, decide_true, decide_false, Int.reduceLT, Int.reduceLE, Int.reduceGT, Int.reduceGE, Int.reduceEq, Int.reduceBEq, Int.reduceBNe, load_ptr, ldV_some, cellAt_cells, List.getElem?_cons_zero, List.getElem?_cons_succ, store_ptr, stO_some, setAt_0, setAt_1, setAt_2, setAt_3, setAt_4, setAt_5, setAt_6, setAt_7, setAt_8, setAt_9, setAt_10, setAt_11, setAt_12, cells_int, cells_bool, cells_str, cells_nils, cells_nilp, cells_ptr, cells_sl, cells_u8, cells_u16, cells_agg, get_upd_is, Option.isSome_some, upd_upd, ev1_nchkV, ev1_faV, nchkV_ptr, faV_ptr, ev1_extV, extV_tup, eqptr_nil, eqptr_ptr, Nat.zero_add, Nat.add_zero, qPL0, qPL1, qPL2, qPL3, qPL4, qPL5, beq_self_eq_true]
end Go.Proofs.YtbeimfhodgmjhaaDoor.qosCut
