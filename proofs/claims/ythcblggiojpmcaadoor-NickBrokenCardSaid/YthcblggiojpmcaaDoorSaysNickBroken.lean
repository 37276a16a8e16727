/- What the evaluator says of the law NickBroken: true. No conditions. -/
import Derived.Test.YthcblggiojpmcaaDoorNBr
import Derived.Test.YthcblggiojpmcaaDoorPlainT
import Derived.Test.YthcblggiojpmcaaDoorArgS
namespace Go.Proofs.YthcblggiojpmcaaDoor.nickBroken
open Go Go.Ab
set_option linter.unusedVariables false
set_option linter.unusedSimpArgs false
set_option maxRecDepth 100000 in
set_option maxHeartbeats 8000000 in
theorem says (b0 : List UInt8) (hb0 : (b0.length : Int) ≤ IntKind.i64.max) (n1 : Int) (hn1 : IntKind.has .i64 n1) : Ab.saysTrue (evP' 1000 12 [.str b0, .int .i64 n1] Ab.St.nil) = true := by
  have hb := p20 998
  have hT : ∀ s, evP' (998 + 1) 21 [.str b0, .int .i64 20] s = some (.str (b0.take 20), s) := p21 998 b0 20
  have hl : (b0.take 20).length ≤ 20 := by rw [List.length_take]; omega
  generalize b0.take 20 = l at *
  have h22 := p22 998 l (by omega)
  have lx : ∀ t : List UInt8, lensV' (.str t) = some (.int .i64 (t.length : Nat)) := fun _ => rfl
  rw [show (1000 : Nat) = 999 + 1 from rfl, evP'_in rfl tab12]
  refine says_of ?_
  rw [show St.nil = St.nil.pl [] from rfl]
  rcases Bool.eq_false_or_eq_true (mayR kindOf l) with ml | ml
  · rw [ml] at h22
    by_cases g : n1 < 0
    · have d1 : decide (n1 < 0) = true := decide_eq_true g
      simp only [M12, hb, hT, h22, d1, lx, ev1_slsV, ev1_lensV', ev1_extV, qES0, qES1, qES2, env0, List.length_cons, List.length_nil, Nat.reduceAdd, Nat.reduceSub, List.replicate, List.cons_append, List.nil_append, opd, Env.put, Env.at, List.set_cons_zero, List.set_cons_succ, List.getD_cons_zero, List.getD_cons_succ, freezeL, resVs, oneOr, Option.map_some, Option.map_none, List.map_cons, List.map_nil, if_true, if_false, Bool.not_true, Bool.not_false, Bool.false_eq_true, reduceIte, decide_true, decide_false, Int.reduceLT, Int.reduceLE, Int.reduceGT, Int.reduceGE, Int.reduceEq, Int.reduceBEq, Int.reduceBNe, load_ptr, ldV_some, cellAt_cells, List.getElem?_cons_zero, List.getElem?_cons_succ, store_ptr, stO_some, setAt_0, setAt_1, setAt_2, setAt_3, setAt_4, setAt_5, setAt_6, setAt_7, setAt_8, setAt_9, setAt_10, setAt_11, setAt_12, cells_int, cells_bool, cells_str, cells_nils, cells_nilp, cells_ptr, cells_sl, cells_u8, cells_u16, cells_agg, get_upd_is, Option.isSome_some, upd_upd, ev1_nchkV, ev1_faV, nchkV_ptr, faV_ptr, ev1_extV, extV_tup, eqptr_nil, eqptr_ptr, Nat.zero_add, Nat.add_zero, qPL0, qPL1, qPL2, qPL3, qPL4, qPL5, beq_self_eq_true]
    · have d1 : decide (n1 < 0) = false := decide_eq_false g
      have hok : (rns l).all (kOk kindOf) = true := by unfold mayR at ml; rw [Bool.and_eq_true] at ml; exact ml.1
      have w1 : IntKind.i64.wrap ((l.length : Int) + 1) = ((l.length + 1 : Nat) : Int) := (wrapI _ (by omega) (by omega)).trans (by omega)
      have r1 := i64_rem n1 ((l.length + 1 : Nat) : Int) (by omega)
      obtain ⟨k, hk⟩ : ∃ k : Nat, n1.tmod ((l.length + 1 : Nat) : Int) = (k : Int) := ⟨(n1.tmod ((l.length + 1 : Nat) : Int)).toNat, by have := Int.tmod_nonneg ((l.length + 1 : Nat) : Int) (show 0 ≤ n1 by omega); omega⟩
      have hk2 : k ≤ l.length := by have := Int.tmod_lt_of_pos n1 (show (0 : Int) < ((l.length + 1 : Nat) : Int) by omega); omega
      rw [hk] at r1
      have ss := slcS_str l (k : Int) (by omega) (by omega)
      rw [Int.toNat_natCast] at ss
      have key := broken_loop l hl k hk2 hok St.nil
      simp only [M12, hb, hT, h22, d1, lx, w1, r1, ss, ev1_rngV, rngV_str, evC_loop, ev1_slsV, ev1_lensV', ev1_extV, qES0, qES1, qES2, env0, List.length_cons, List.length_nil, Nat.reduceAdd, Nat.reduceSub, List.replicate, List.cons_append, List.nil_append, opd, Env.put, Env.at, List.set_cons_zero, List.set_cons_succ, List.getD_cons_zero, List.getD_cons_succ, freezeL, resVs, oneOr, Option.map_some, Option.map_none, List.map_cons, List.map_nil, if_true, if_false, Bool.not_true, Bool.not_false, Bool.false_eq_true, reduceIte, decide_true, decide_false, Int.reduceLT, Int.reduceLE, Int.reduceGT, Int.reduceGE, Int.reduceEq, Int.reduceBEq, Int.reduceBNe, load_ptr, ldV_some, cellAt_cells, List.getElem?_cons_zero, List.getElem?_cons_succ, store_ptr, stO_some, setAt_0, setAt_1, setAt_2, setAt_3, setAt_4, setAt_5, setAt_6, setAt_7, setAt_8, setAt_9, setAt_10, setAt_11, setAt_12, cells_int, cells_bool, cells_str, cells_nils, cells_nilp, cells_ptr, cells_sl, cells_u8, cells_u16, cells_agg, get_upd_is, Option.isSome_some, upd_upd, ev1_nchkV, ev1_faV, nchkV_ptr, faV_ptr, ev1_extV, extV_tup, eqptr_nil, eqptr_ptr, Nat.zero_add, Nat.add_zero, qPL0, qPL1, qPL2, qPL3, qPL4, qPL5, beq_self_eq_true]
      exact key _ rfl
  · rw [ml] at h22
    simp only [M12, hb, hT, h22, lx, ev1_slsV, ev1_lensV', ev1_extV, qES0, qES1, qES2, env0, List.length_cons, List.length_nil, Nat.reduceAdd, Nat.reduceSub, List.replicate, List.cons_append, List.nil_append, opd, Env.put, Env.at, List.set_cons_zero, List.set_cons_succ, List.getD_cons_zero, List.getD_cons_succ, freezeL, resVs, oneOr, Option.map_some, Option.map_none, List.map_cons, List.map_nil, if_true, if_false, Bool.not_true, Bool.not_false, Bool.false_eq_true, reduceIte, decide_true, decide_false, Int.reduceLT, Int.reduceLE, Int.reduceGT, Int.reduceGE, Int.reduceEq, Int.reduceBEq, Int.reduceBNe, load_ptr, ldV_some, cellAt_cells, List.getElem?_cons_zero, List.getElem?_cons_succ, store_ptr, stO_some, setAt_0, setAt_1, setAt_2, setAt_3, setAt_4, setAt_5, setAt_6, setAt_7, setAt_8, setAt_9, setAt_10, setAt_11, setAt_12, cells_int, cells_bool, cells_str, cells_nils, cells_nilp, cells_ptr, cells_sl, cells_u8, cells_u16, cells_agg, get_upd_is, Option.isSome_some, upd_upd, ev1_nchkV, ev1_faV, nchkV_ptr, faV_ptr, ev1_extV, extV_tup, eqptr_nil, eqptr_ptr, Nat.zero_add, Nat.add_zero, qPL0, qPL1, qPL2, qPL3, qPL4, qPL5, beq_self_eq_true]
end Go.Proofs.YthcblggiojpmcaaDoor.nickBroken
