/- What the evaluator says of the law QosMore: true. No conditions. -/
import Derived.Test.YtbeimfhodgmjhaaDoorQMore
import Derived.Test.YtbeimfhodgmjhaaDoorPlainT8
namespace Go.Proofs.YtbeimfhodgmjhaaDoor.qosMore
open Go Go.Ab
set_option linter.unusedVariables false
set_option linter.unusedSimpArgs false
set_option maxRecDepth 100000 in
set_option maxHeartbeats 8000000 in
theorem says (as0 : List Ab.AV) (hs0 : Ab.ScL Tryd.prog offerTypes as0) (x1 : Ab.AV) (z1 : List (Int × List UInt8)) (hx1 : Ab.IsTups x1 z1 ∧ ∀ u ∈ z1, u.2.length ≤ maxLen ∧ IntKind.i64.has u.1) (n2 : Int) (hn2 : IntKind.has .i64 n2) : Ab.saysTrue (evK 1000 4 [.agg as0, x1, .int .i64 n2] Ab.St.nil) = true := by
  obtain ⟨mb, ms, mw, mz, mt, rfl⟩ := offer_of hs0
  have hb := k21 998
  have f1 := k23 998 ⟨mb, ms, mw, mz, mt⟩
  rw [show (1000 : Nat) = 999 + 1 from rfl, evK_in rfl tab4]
  refine says_of ?_
  rw [show St.nil = St.nil.pl [] from rfl]
  by_cases g : Of5.may ⟨mb, ms, mw, mz, mt⟩
  · rw [if_pos g, decide_eq_true g] at f1
    have h40 := k40 998 (offB ⟨mb, ms, mw, mz, mt⟩)
    rw [getL_offB] at h40
    have hv : getV (some (tupO ⟨mb, ms, mw, mz, mt⟩)) = .tup [.sl (tpC (tupO ⟨mb, ms, mw, mz, mt⟩)) 5 none, .bool true] := rfl
    rw [hv] at h40
    have r1 := i64_rem n2 6 (by omega)
    have l1 := tmod_le n2 6 (by omega)
    have w1 : IntKind.i64.wrap (n2.tmod 6 + 6) = n2.tmod 6 + 6 := wrapI _ (by omega) (by omega)
    have r2 := i64_rem (n2.tmod 6 + 6) 6 (by omega)
    rw [tmod_fix n2 6 (by omega)] at r2
    obtain ⟨j, hj⟩ : ∃ j : Nat, n2 % 6 = (j : Int) := ⟨(n2 % 6).toNat, by omega⟩
    have hj6 : j < 6 := by omega
    rw [hj] at r2
    have hl := qmore_loop ⟨mb, ms, mw, mz, mt⟩ g j hj6 x1 z1 (isTp_of hx1.1) (St.nil.pl [.cells 0 (Of5.cells ⟨mb, ms, mw, mz, mt⟩)]) (plg0 _ _ _) (by rw [pl_next]; simp)
    simp only [Of5.cells, ofC] at f1 hl
    generalize offB ⟨mb, ms, mw, mz, mt⟩ = p at *
    generalize tpC (tupO ⟨mb, ms, mw, mz, mt⟩) = T at *
    simp only [M4, hb, f1, h40, r1, w1, r2, evC_loop, ev1_boxV, ev1_extV, qES0, qES1, qES2, env0, List.length_cons, List.length_nil, Nat.reduceAdd, Nat.reduceSub, List.replicate, List.cons_append, List.nil_append, opd, Env.put, Env.at, List.set_cons_zero, List.set_cons_succ, List.getD_cons_zero, List.getD_cons_succ, freezeL, resVs, oneOr, Option.map_some, Option.map_none, List.map_cons, List.map_nil, if_true, if_false, Bool.not_true, Bool.not_false, Bool.false_eq_true, reduceIte, decide_true, decide_false, Int.reduceLT, Int.reduceLE, Int.reduceGT, Int.reduceGE, Int.reduceEq, Int.reduceBEq, Int.reduceBNe, load_ptr, ldV_some, cellAt_cells, List.getElem?_cons_zero, List.getElem?_cons_succ, store_ptr, stO_some, setAt_0, setAt_1, setAt_2, setAt_3, setAt_4, setAt_5, setAt_6, setAt_7, setAt_8, setAt_9, setAt_10, setAt_11, setAt_12, cells_int, cells_bool, cells_str, cells_nils, cells_nilp, cells_ptr, cells_sl, cells_u8, cells_u16, cells_agg, get_upd_is, Option.isSome_some, upd_upd, ev1_nchkV, ev1_faV, nchkV_ptr, faV_ptr, ev1_extV, extV_tup, eqptr_nil, eqptr_ptr, Nat.zero_add, Nat.add_zero, qPL0, qPL1, qPL2, qPL3, qPL4, qPL5, beq_self_eq_true]
    exact hl _ rfl
  · rw [if_neg g, decide_eq_false g] at f1
    simp only [Of5.cells, ofC] at f1
    simp only [M4, hb, f1, ev1_boxV, ev1_extV, qES0, qES1, qES2, env0, List.length_cons, List.length_nil, Nat.reduceAdd, Nat.reduceSub, List.replicate, List.cons_append, List.nil_append, opd, Env.put, Env.at, List.set_cons_zero, List.set_cons_succ, List.getD_cons_zero, List.getD_cons_succ, freezeL, resVs, oneOr, Option.map_some, Option.map_none, List.map_cons, List.map_nil, if_true, if_false, Bool.not_true, Bool.not_false, Bool.false_eq_true, reduceIte, decide_true, decide_false, Int.reduceLT, Int.reduceLE, Int.reduceGT, Int.reduceGE, Int.reduceEq, Int.reduceBEq, Int.reduceBNe, load_ptr, ldV_some, cellAt_cells, List.getElem?_cons_zero, List.getElem?_cons_succ, store_ptr, stO_some, setAt_0, setAt_1, setAt_2, setAt_3, setAt_4, setAt_5, setAt_6, setAt_7, setAt_8, setAt_9, setAt_10, setAt_11, setAt_12, cells_int, cells_bool, cells_str, cells_nils, cells_nilp, cells_ptr, cells_sl, cells_u8, cells_u16, cells_agg, get_upd_is, Option.isSome_some, upd_upd, ev1_nchkV, ev1_faV, nchkV_ptr, faV_ptr, ev1_extV, extV_tup, eqptr_nil, eqptr_ptr, Nat.zero_add, Nat.add_zero, qPL0, qPL1, qPL2, qPL3, qPL4, qPL5, beq_self_eq_true]
end Go.Proofs.YtbeimfhodgmjhaaDoor.qosMore
