/- What the evaluator says of the law TupleJoin: true. No conditions. -/
import Derived.Test.YthcblggiojpmcaaDoorTpB
import Derived.Test.YthcblggiojpmcaaDoorM4_17
import Derived.Test.YthcblggiojpmcaaDoorPlainT
import Derived.Test.YthcblggiojpmcaaDoorArgS
namespace Go.Proofs.YthcblggiojpmcaaDoor.tupleJoin
open Go Go.Ab
set_option linter.unusedVariables false
set_option linter.unusedSimpArgs false
set_option maxRecDepth 100000 in
set_option maxHeartbeats 8000000 in
theorem says (x0 : Ab.AV) (z0 : List (Int × List UInt8)) (hx0 : Ab.IsTups x0 z0 ∧ ∀ u ∈ z0, u.2.length ≤ maxLen ∧ IntKind.i64.has u.1) (x1 : Ab.AV) (z1 : List (Int × List UInt8)) (hx1 : Ab.IsTups x1 z1 ∧ ∀ u ∈ z1, u.2.length ≤ maxLen ∧ IntKind.i64.has u.1) : Ab.saysTrue (evB 1000 17 [x0, x1] Ab.St.nil) = true := by
  have hb := b20 998
  have i0 := isTp_of hx0.1
  have i1 := isTp_of hx1.1
  have h50a := b50 998 i0
  have h50b := b50 998 i1
  have f0 := i0.freeze
  have f1 := i1.freeze
  have hA : (cutT 45 (z0.take 8)).length ≤ 8 := by rw [cutT_len, List.length_take]; omega
  have hB : (cutT 45 (z1.take 8)).length ≤ 8 := by rw [cutT_len, List.length_take]; omega
  generalize cutT 45 (z0.take 8) = A at *
  generalize cutT 45 (z1.take 8) = B at *
  have j0 := tpV_is A
  have j1 := tpV_is B
  generalize tpV A = va at *
  generalize tpV B = vb at *
  have g0 := j0.freeze
  have g1 := j1.freeze
  have h51a := b51 998 j0 (by omega)
  have h51b := b51 998 j1 (by omega)
  rw [show (1000 : Nat) = 999 + 1 from rfl, evB_in rfl tab17]
  refine says_of ?_
  rw [show St.nil = St.nil.pl [] from rfl]
  by_cases pa : putOk A
  · rw [if_pos pa, decide_eq_true pa] at h51a
    by_cases pb : putOk B
    · rw [if_pos pb, decide_eq_true pb] at h51b
      have l0 := j0.len
      have l1 := j1.len
      obtain ⟨y1, S1, a1, a2, _⟩ := ownG_appz (bytes := 24) (OwnG.nil 2 (St.nil.pl [])) (news_tp j0 _) (tpC_length A) (by simp [fits]; omega)
      obtain ⟨y2, S2, a3, a4, _⟩ := ownG_appz (bytes := 24) a2 (news_tp j1 _) (tpC_length B) (by simp [fits]; omega)
      rw [List.nil_append, ← tpC_append] at a4
      have iAB : IsTp y2 (A ++ B) := ownG_isTp a4 (by simp)
      have fy := iAB.freeze
      have h51c := b51 998 iAB (by simp; omega)
      have la : (encL A).length ≤ 64 := pa.2
      have lb : (encL B).length ≤ 64 := pb.2
      have sa := str_add (encL A) (encL B) (by omega)
      have h53 := b53 998 (encL A ++ encL B)
      rw [getL_app A B pa pb] at h53
      have lx : ∀ t : List UInt8, lensV' (.str t) = some (.int .i64 (t.length : Nat)) := fun _ => rfl
      have w1 : IntKind.i64.wrap (((encL A).length : Int) + ((encL B).length : Int)) = ((encL A).length : Int) + ((encL B).length : Int) := wrapI _ (by omega) (by omega)
      have w2 : IntKind.i64.wrap ((A.length : Int) + (B.length : Int)) = (A.length : Int) + (B.length : Int) := wrapI _ (by omega) (by omega)
      have q1 := eqB true
      have q2 := eqB false
      rw [show S1 = S1.pl [] from rfl] at a1 a3
      rw [show S2 = S2.pl [] from rfl] at a3
      by_cases g : (encL A).length + (encL B).length ≤ 64
      · have pc := (putOk_app A B pa pb).2 g
        rw [if_pos pc, decide_eq_true pc, encL_app] at h51c
        rw [if_pos g] at h53
        have d1 : decide (((encL A).length : Int) + ((encL B).length : Int) ≤ 64) = true := decide_eq_true (by omega)
        have lc := (tpV_is (A ++ B)).len
        have e1 : ((((A ++ B).length : Nat) : Int) == (A.length : Int) + (B.length : Int)) = true := by simp
        have e2 : binV .eql (.str (encL A ++ encL B)) (.str (encL A ++ encL B)) = some (.bool true) := by
          show some (AV.bool (encL A ++ encL B == encL A ++ encL B)) = _
          rw [beq_self_eq_true]
        simp only [getV] at h53
        simp only [M17, hb, f0, f1, h50a, h50b, g0, g1, h51a, h51b, l0, l1, a1, a3, fy, h51c, sa, h53, lx, w1, w2, q1, q2, d1, lc, e1, e2, ev1_eqv, ev1_slsV, ev1_lensV', ev1_extV, qES0, qES1, qES2, env0, List.length_cons, List.length_nil, Nat.reduceAdd, Nat.reduceSub, List.replicate, List.cons_append, List.nil_append, opd, Env.put, Env.at, List.set_cons_zero, List.set_cons_succ, List.getD_cons_zero, List.getD_cons_succ, freezeL, resVs, oneOr, Option.map_some, Option.map_none, List.map_cons, List.map_nil, if_true, if_false, Bool.not_true, Bool.not_false, Bool.false_eq_true, reduceIte, decide_true, decide_false, Int.reduceLT, Int.reduceLE, Int.reduceGT, Int.reduceGE, Int.reduceEq, Int.reduceBEq, Int.reduceBNe, load_ptr, ldV_some, cellAt_cells, List.getElem?_cons_zero, List.getElem?_cons_succ, store_ptr, stO_some, setAt_0, setAt_1, setAt_2, setAt_3, setAt_4, setAt_5, setAt_6, setAt_7, setAt_8, setAt_9, setAt_10, setAt_11, setAt_12, cells_int, cells_bool, cells_str, cells_nils, cells_nilp, cells_ptr, cells_sl, cells_u8, cells_u16, cells_agg, get_upd_is, Option.isSome_some, upd_upd, ev1_nchkV, ev1_faV, nchkV_ptr, faV_ptr, ev1_extV, extV_tup, eqptr_nil, eqptr_ptr, Nat.zero_add, Nat.add_zero, qPL0, qPL1, qPL2, qPL3, qPL4, qPL5, beq_self_eq_true]
      · have pc : ¬ putOk (A ++ B) := fun h => g ((putOk_app A B pa pb).1 h)
        rw [if_neg pc, decide_eq_false pc] at h51c
        rw [if_neg g] at h53
        have d1 : decide (((encL A).length : Int) + ((encL B).length : Int) ≤ 64) = false := decide_eq_false (by omega)
        simp only [getV] at h53
        simp only [M17, hb, f0, f1, h50a, h50b, g0, g1, h51a, h51b, l0, l1, a1, a3, fy, h51c, sa, h53, lx, w1, w2, q1, q2, d1, ev1_eqv, ev1_slsV, ev1_lensV', ev1_extV, qES0, qES1, qES2, env0, List.length_cons, List.length_nil, Nat.reduceAdd, Nat.reduceSub, List.replicate, List.cons_append, List.nil_append, opd, Env.put, Env.at, List.set_cons_zero, List.set_cons_succ, List.getD_cons_zero, List.getD_cons_succ, freezeL, resVs, oneOr, Option.map_some, Option.map_none, List.map_cons, List.map_nil, if_true, if_false, Bool.not_true, Bool.not_false, Bool.false_eq_true, reduceIte, decide_true, decide_false, Int.reduceLT, Int.reduceLE, Int.reduceGT, Int.reduceGE, Int.reduceEq, Int.reduceBEq, Int.reduceBNe, load_ptr, ldV_some, cellAt_cells, List.getElem?_cons_zero, List.getElem?_cons_succ, store_ptr, stO_some, setAt_0, setAt_1, setAt_2, setAt_3, setAt_4, setAt_5, setAt_6, setAt_7, setAt_8, setAt_9, setAt_10, setAt_11, setAt_12, cells_int, cells_bool, cells_str, cells_nils, cells_nilp, cells_ptr, cells_sl, cells_u8, cells_u16, cells_agg, get_upd_is, Option.isSome_some, upd_upd, ev1_nchkV, ev1_faV, nchkV_ptr, faV_ptr, ev1_extV, extV_tup, eqptr_nil, eqptr_ptr, Nat.zero_add, Nat.add_zero, qPL0, qPL1, qPL2, qPL3, qPL4, qPL5, beq_self_eq_true]
    · rw [if_neg pb, decide_eq_false pb] at h51b
      simp only [M17, hb, f0, f1, h50a, h50b, g0, g1, h51a, h51b, ev1_eqv, ev1_slsV, ev1_lensV', ev1_extV, qES0, qES1, qES2, env0, List.length_cons, List.length_nil, Nat.reduceAdd, Nat.reduceSub, List.replicate, List.cons_append, List.nil_append, opd, Env.put, Env.at, List.set_cons_zero, List.set_cons_succ, List.getD_cons_zero, List.getD_cons_succ, freezeL, resVs, oneOr, Option.map_some, Option.map_none, List.map_cons, List.map_nil, if_true, if_false, Bool.not_true, Bool.not_false, Bool.false_eq_true, reduceIte, decide_true, decide_false, Int.reduceLT, Int.reduceLE, Int.reduceGT, Int.reduceGE, Int.reduceEq, Int.reduceBEq, Int.reduceBNe, load_ptr, ldV_some, cellAt_cells, List.getElem?_cons_zero, List.getElem?_cons_succ, store_ptr, stO_some, setAt_0, setAt_1, setAt_2, setAt_3, setAt_4, setAt_5, setAt_6, setAt_7, setAt_8, setAt_9, setAt_10, setAt_11, setAt_12, cells_int, cells_bool, cells_str, cells_nils, cells_nilp, cells_ptr, cells_sl, cells_u8, cells_u16, cells_agg, get_upd_is, Option.isSome_some, upd_upd, ev1_nchkV, ev1_faV, nchkV_ptr, faV_ptr, ev1_extV, extV_tup, eqptr_nil, eqptr_ptr, Nat.zero_add, Nat.add_zero, qPL0, qPL1, qPL2, qPL3, qPL4, qPL5, beq_self_eq_true]
  · rw [if_neg pa, decide_eq_false pa] at h51a
    simp only [M17, hb, f0, f1, h50a, h50b, g0, g1, h51a, h51b, ev1_eqv, ev1_slsV, ev1_lensV', ev1_extV, qES0, qES1, qES2, env0, List.length_cons, List.length_nil, Nat.reduceAdd, Nat.reduceSub, List.replicate, List.cons_append, List.nil_append, opd, Env.put, Env.at, List.set_cons_zero, List.set_cons_succ, List.getD_cons_zero, List.getD_cons_succ, freezeL, resVs, oneOr, Option.map_some, Option.map_none, List.map_cons, List.map_nil, if_true, if_false, Bool.not_true, Bool.not_false, Bool.false_eq_true, reduceIte, decide_true, decide_false, Int.reduceLT, Int.reduceLE, Int.reduceGT, Int.reduceGE, Int.reduceEq, Int.reduceBEq, Int.reduceBNe, load_ptr, ldV_some, cellAt_cells, List.getElem?_cons_zero, List.getElem?_cons_succ, store_ptr, stO_some, setAt_0, setAt_1, setAt_2, setAt_3, setAt_4, setAt_5, setAt_6, setAt_7, setAt_8, setAt_9, setAt_10, setAt_11, setAt_12, cells_int, cells_bool, cells_str, cells_nils, cells_nilp, cells_ptr, cells_sl, cells_u8, cells_u16, cells_agg, get_upd_is, Option.isSome_some, upd_upd, ev1_nchkV, ev1_faV, nchkV_ptr, faV_ptr, ev1_extV, extV_tup, eqptr_nil, eqptr_ptr, Nat.zero_add, Nat.add_zero, qPL0, qPL1, qPL2, qPL3, qPL4, qPL5, beq_self_eq_true]
end Go.Proofs.YthcblggiojpmcaaDoor.tupleJoin
