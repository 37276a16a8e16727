/- What the evaluator says of the law TupleCut: true. No conditions. -/
import Derived.Test.YthcblggiojpmcaaDoorTpC
import Derived.Test.YthcblggiojpmcaaDoorPlainT
import Derived.Test.YthcblggiojpmcaaDoorArgS
namespace Go.Proofs.YthcblggiojpmcaaDoor.tupleCut
open Go Go.Ab
set_option linter.unusedVariables false
set_option linter.unusedSimpArgs false
set_option maxRecDepth 100000 in
set_option maxHeartbeats 8000000 in
theorem says (x0 : Ab.AV) (z0 : List (Int × List UInt8)) (hx0 : Ab.IsTups x0 z0 ∧ ∀ u ∈ z0, u.2.length ≤ maxLen ∧ IntKind.i64.has u.1) (n1 : Int) (hn1 : IntKind.has .i64 n1) : Ab.saysTrue (evB 1000 18 [x0, .int .i64 n1] Ab.St.nil) = true := by
  have hb := b20 998
  have i0 := isTp_of hx0.1
  have h50 := b50 998 i0
  have f0 := i0.freeze
  have hA : (cutT 45 (z0.take 8)).length ≤ 8 := by rw [cutT_len, List.length_take]; omega
  generalize cutT 45 (z0.take 8) = A at *
  have j0 := tpV_is A
  generalize tpV A = va at *
  have g0 := j0.freeze
  have l0 := j0.len
  have h51 := b51 998 j0 (by omega)
  have lx : ∀ t : List UInt8, lensV' (.str t) = some (.int .i64 (t.length : Nat)) := fun _ => rfl
  rw [show (1000 : Nat) = 999 + 1 from rfl, evB_in rfl tab18]
  refine says_of ?_
  rw [show St.nil = St.nil.pl [] from rfl]
  by_cases pa : putOk A
  · rw [if_pos pa, decide_eq_true pa] at h51
    have la : (encL A).length ≤ 64 := pa.2
    by_cases g0' : (encL A).length = 0
    · have e1 : ((((encL A).length : Nat) : Int) == 0) = true := by simp [g0']
      simp only [M18, hb, f0, h50, g0, h51, lx, e1, ev1_eqv, ev1_slsV, ev1_lensV', ev1_extV, qES0, qES1, qES2, env0, List.length_cons, List.length_nil, Nat.reduceAdd, Nat.reduceSub, List.replicate, List.cons_append, List.nil_append, opd, Env.put, Env.at, List.set_cons_zero, List.set_cons_succ, List.getD_cons_zero, List.getD_cons_succ, freezeL, resVs, oneOr, Option.map_some, Option.map_none, List.map_cons, List.map_nil, if_true, if_false, Bool.not_true, Bool.not_false, Bool.false_eq_true, reduceIte, decide_true, decide_false, Int.reduceLT, Int.reduceLE, Int.reduceGT, Int.reduceGE, Int.reduceEq, Int.reduceBEq, Int.reduceBNe, load_ptr, ldV_some, cellAt_cells, List.getElem?_cons_zero, List.getElem?_cons_succ, store_ptr, stO_some, setAt_0, setAt_1, setAt_2, setAt_3, setAt_4, setAt_5, setAt_6, setAt_7, setAt_8, setAt_9, setAt_10, setAt_11, setAt_12, cells_int, cells_bool, cells_str, cells_nils, cells_nilp, cells_ptr, cells_sl, cells_u8, cells_u16, cells_agg, get_upd_is, Option.isSome_some, upd_upd, ev1_nchkV, ev1_faV, nchkV_ptr, faV_ptr, ev1_extV, extV_tup, eqptr_nil, eqptr_ptr, Nat.zero_add, Nat.add_zero, qPL0, qPL1, qPL2, qPL3, qPL4, qPL5, beq_self_eq_true]
    · have e1 : ((((encL A).length : Nat) : Int) == 0) = false := by simp; exact fun h => g0' (by rw [h]; rfl)
      by_cases g1 : n1 < 0
      · have d1 : decide (n1 < 0) = true := decide_eq_true g1
        simp only [M18, hb, f0, h50, g0, h51, lx, e1, d1, ev1_eqv, ev1_slsV, ev1_lensV', ev1_extV, qES0, qES1, qES2, env0, List.length_cons, List.length_nil, Nat.reduceAdd, Nat.reduceSub, List.replicate, List.cons_append, List.nil_append, opd, Env.put, Env.at, List.set_cons_zero, List.set_cons_succ, List.getD_cons_zero, List.getD_cons_succ, freezeL, resVs, oneOr, Option.map_some, Option.map_none, List.map_cons, List.map_nil, if_true, if_false, Bool.not_true, Bool.not_false, Bool.false_eq_true, reduceIte, decide_true, decide_false, Int.reduceLT, Int.reduceLE, Int.reduceGT, Int.reduceGE, Int.reduceEq, Int.reduceBEq, Int.reduceBNe, load_ptr, ldV_some, cellAt_cells, List.getElem?_cons_zero, List.getElem?_cons_succ, store_ptr, stO_some, setAt_0, setAt_1, setAt_2, setAt_3, setAt_4, setAt_5, setAt_6, setAt_7, setAt_8, setAt_9, setAt_10, setAt_11, setAt_12, cells_int, cells_bool, cells_str, cells_nils, cells_nilp, cells_ptr, cells_sl, cells_u8, cells_u16, cells_agg, get_upd_is, Option.isSome_some, upd_upd, ev1_nchkV, ev1_faV, nchkV_ptr, faV_ptr, ev1_extV, extV_tup, eqptr_nil, eqptr_ptr, Nat.zero_add, Nat.add_zero, qPL0, qPL1, qPL2, qPL3, qPL4, qPL5, beq_self_eq_true]
      · have d1 : decide (n1 < 0) = false := decide_eq_false g1
        have r1 := i64_rem n1 (((encL A).length : Nat) : Int) (by omega)
        obtain ⟨k, hk⟩ : ∃ k : Nat, n1.tmod (((encL A).length : Nat) : Int) = (k : Int) := ⟨(n1.tmod (((encL A).length : Nat) : Int)).toNat, by have := Int.tmod_nonneg (((encL A).length : Nat) : Int) (show 0 ≤ n1 by omega); omega⟩
        have hk2 : k < (encL A).length := by have := Int.tmod_lt_of_pos n1 (show (0 : Int) < (((encL A).length : Nat) : Int) by omega); omega
        rw [hk] at r1
        have key := cut_loop j0 hA pa k hk2
        simp only [M18, hb, f0, h50, g0, l0, h51, lx, e1, d1, r1, evC_loop, ev1_eqv, ev1_slsV, ev1_lensV', ev1_extV, qES0, qES1, qES2, env0, List.length_cons, List.length_nil, Nat.reduceAdd, Nat.reduceSub, List.replicate, List.cons_append, List.nil_append, opd, Env.put, Env.at, List.set_cons_zero, List.set_cons_succ, List.getD_cons_zero, List.getD_cons_succ, freezeL, resVs, oneOr, Option.map_some, Option.map_none, List.map_cons, List.map_nil, if_true, if_false, Bool.not_true, Bool.not_false, Bool.false_eq_true, reduceIte, decide_true, decide_false, Int.reduceLT, Int.reduceLE, Int.reduceGT, Int.reduceGE, Int.reduceEq, Int.reduceBEq, Int.reduceBNe, load_ptr, ldV_some, cellAt_cells, List.getElem?_cons_zero, List.getElem?_cons_succ, store_ptr, stO_some, setAt_0, setAt_1, setAt_2, setAt_3, setAt_4, setAt_5, setAt_6, setAt_7, setAt_8, setAt_9, setAt_10, setAt_11, setAt_12, cells_int, cells_bool, cells_str, cells_nils, cells_nilp, cells_ptr, cells_sl, cells_u8, cells_u16, cells_agg, get_upd_is, Option.isSome_some, upd_upd, ev1_nchkV, ev1_faV, nchkV_ptr, faV_ptr, ev1_extV, extV_tup, eqptr_nil, eqptr_ptr, Nat.zero_add, Nat.add_zero, qPL0, qPL1, qPL2, qPL3, qPL4, qPL5, beq_self_eq_true]
        exact key _ _ rfl
  · rw [if_neg pa, decide_eq_false pa] at h51
    simp only [M18, hb, f0, h50, g0, h51, lx, ev1_eqv, ev1_slsV, ev1_lensV', ev1_extV, qES0, qES1, qES2, env0, List.length_cons, List.length_nil, Nat.reduceAdd, Nat.reduceSub, List.replicate, List.cons_append, List.nil_append, opd, Env.put, Env.at, List.set_cons_zero, List.set_cons_succ, List.getD_cons_zero, List.getD_cons_succ, freezeL, resVs, oneOr, Option.map_some, Option.map_none, List.map_cons, List.map_nil, if_true, if_false, Bool.not_true, Bool.not_false, Bool.false_eq_true, reduceIte, decide_true, decide_false, Int.reduceLT, Int.reduceLE, Int.reduceGT, Int.reduceGE, Int.reduceEq, Int.reduceBEq, Int.reduceBNe, load_ptr, ldV_some, cellAt_cells, List.getElem?_cons_zero, List.getElem?_cons_succ, store_ptr, stO_some, setAt_0, setAt_1, setAt_2, setAt_3, setAt_4, setAt_5, setAt_6, setAt_7, setAt_8, setAt_9, setAt_10, setAt_11, setAt_12, cells_int, cells_bool, cells_str, cells_nils, cells_nilp, cells_ptr, cells_sl, cells_u8, cells_u16, cells_agg, get_upd_is, Option.isSome_some, upd_upd, ev1_nchkV, ev1_faV, nchkV_ptr, faV_ptr, ev1_extV, extV_tup, eqptr_nil, eqptr_ptr, Nat.zero_add, Nat.add_zero, qPL0, qPL1, qPL2, qPL3, qPL4, qPL5, beq_self_eq_true]
end Go.Proofs.YthcblggiojpmcaaDoor.tupleCut
