/- What the evaluator says of the law NickRune: true. No conditions. -/
import Derived.Test.YthcblggiojpmcaaDoorBegunT
import Derived.Test.YthcblggiojpmcaaDoorNick
import Derived.Test.YthcblggiojpmcaaDoorArgS
namespace Go.Proofs.YthcblggiojpmcaaDoor.nickRune
open Go Go.Ab
set_option linter.unusedVariables false
set_option linter.unusedSimpArgs false
set_option maxRecDepth 100000 in
theorem says (n0 : Int) (hn0 : IntKind.has .i32 n0) : Ab.saysTrue (evT 1000 11 [.int .i32 n0] Ab.St.nil) = true := by
  obtain ⟨s1, hb⟩ := begunT_ev
  have hr : -2147483648 ≤ n0 ∧ n0 ≤ 2147483647 := by
    simpa [IntKind.has, IntKind.min, IntKind.max, IntKind.signed, IntKind.bits] using hn0
  have kd : ∀ s, evT 999 30 [.int .i32 n0] s = some (.int .i64 (kindOf n0), s) := fun s => kind_ev 997 n0 s
  have rk : ∀ s, evT 999 31 [.int .i64 n0] s = some (.int .i64 (kindOf n0), s) := fun s => refKind_ev 998 n0 s
  have cv : convP (.toInt .i64) (.int .i32 n0) = some (.int .i64 n0) := by
    have : IntKind.i64.wrap n0 = n0 := by rw [IntKind.wrap_i64]; omega
    simp only [convP, this]
  have ci : convP .itos (.int .i32 n0) = some (.str (encL n0)) := rfl
  obtain ⟨s2, l1⟩ : ∃ s', evT 999 24 [.str (encL n0)] s1 = some (.int .i64 1, s') := len1_ev 996 n0 s1
  obtain ⟨s3, m1⟩ : ∃ s', evT 999 22 [.str (encL n0)] s2 = some (.bool (!(kindOf n0 == 0)), s') := may1_ev 995 n0 s2
  obtain ⟨s4, p1⟩ : ∃ s', evT 999 28 [.str (encL n0)] s3 = some (.str (encL (plainOf n0)), s') := plain1_ev 995 n0 s3
  have hfb : ∀ a b : Bool, eqAV (.flat (.one .b)) (.bool a) (.bool b) = some (a == b) := fun a b => rfl
  have kr : kindOf n0 = 0 ∨ kindOf n0 = 1 ∨ kindOf n0 = 2 ∨ kindOf n0 = 3 ∨ kindOf n0 = 4 := by
    unfold kindOf
    repeat' split
    all_goals simp
  have q63 : encL 63 = [63] := by decide
  have neq : ∀ k : Int, (k != k) = false := fun k => by simp
  have e1 : ((1 : Int) != 1) = false := rfl
  have sym : ([63] == encL n0) = (encL n0 == [63]) := by rw [Bool.eq_iff_iff, beq_iff_eq, beq_iff_eq]; exact ⟨Eq.symm, Eq.symm⟩
  have same3 : ∀ j : Int, kindOf n0 = j → j ≠ 0 → j ≠ 4 → encL (plainOf n0) = encL n0 := by
    intro j hj h0 h4
    have hp : plainOf n0 = (runeOf n0 : Nat) := by unfold plainOf; rw [if_neg (by omega)]
    rw [hp]
    unfold encL Utf8.encode
    have hv : Utf8.valid ((runeOf n0 : Nat) : Int) = true := valid_rune _ (runeOf_valid n0)
    rw [if_pos hv]
    rfl
  rw [show (1000 : Nat) = 999 + 1 from rfl, evT_in rfl tab11]
  have fin : ∀ j : Int, kindOf n0 = j → (0 ≤ j ∧ j ≤ 4) → (j = 0 ∨ j = 4 → encL (plainOf n0) = [63]) → saysTrue (outR M11.res (evC tabGl (evT 999) 999 M11.body (env0 M11.ntmps [.int .i32 n0]) St.nil)) = true := by
    intro j hj hb4 h63
    rw [hj] at kd rk m1
    by_cases hz : j = 0
    · subst hz
      rw [h63 (.inl rfl)] at p1
      have f1 : ((0 : Int) > 0) = False := by simp
      have f2 : ((0 : Int) ≥ 1) = False := by simp
      simp only [M11, hb, kd, rk, cv, ci, l1, m1, p1, neq, hfb, f1, f2, str_eql, sym, beq_self_eq_true, env0, List.length_cons, List.length_nil, Nat.reduceAdd, Nat.reduceSub, List.replicate, List.cons_append, List.nil_append, evC_seq, evC_reg, evC_skip, evC_exit, evC_ret, evC_block, evC_condX, condX_true, condX_false, evOps_nil, evOps_one, contR_some, evOps_gd, gdR_tt, gdR_ft, gdR_tf, gdR_ff, gdR_un, bq_true, bq_false, ev1_mv, ev1_pick, ev1_bin, ev1_eqv, ev1_un, un_not, ev1_mki, ev1_slc, ev1_lenV, ev1_ixaV, ev1_appV, ev1_load, ev1_call, ev1_mn, ev1_mx, ev1_conv, ev1_alloc, ev1_storeV, ev1_bslR, bslR_sl, bslR_hs, fill_nil, fill_cons, fill1_u8a, fill1_u8b, fill1_ca, fill1_cb, thenO_some, loadR_rp, opd, Env.put, Env.at, seqR_nrm, seqR_exit, seqR_ret, regR_some, List.set_cons_zero, List.set_cons_succ, List.getD_cons_zero, List.getD_cons_succ, pR_some, wR_some, callR_some, freezeL, freeze_int, freeze_bool, freeze_str, freeze_u16, freeze_u8, freeze_ptr, freeze_nils, boolR_true, boolR_false, blockR_nrm, blockR_exit, blockR_ret, outR_ret, outR_nrm, resVs, resV_tmp, oneOr, Option.map_some, Option.map_none, List.map_cons, List.map_nil, if_true, if_false, Bool.not_true, Bool.not_false, Bool.false_eq_true, reduceIte, decide_true, decide_false, i64_lss, i64_leq, i64_gtr, i64_geq, i64_eql, i64_neq, i64_add, i64_sub]
      rfl
    · have z1 : (j == 0) = false := beq_eq_false_iff_ne.2 hz
      have f1 : (j > 0) = True := eq_true (by omega)
      have f2 : (j ≥ 1) = True := eq_true (by omega)
      rw [z1] at m1
      by_cases h4 : j = 4
      · subst h4
        rw [h63 (.inr rfl)] at p1
        have f3 : ((4 : Int) ≤ 3) = False := by simp
        simp only [M11, hb, kd, rk, cv, ci, l1, m1, p1, neq, hfb, f1, f2, f3, str_eql, sym, beq_self_eq_true, env0, List.length_cons, List.length_nil, Nat.reduceAdd, Nat.reduceSub, List.replicate, List.cons_append, List.nil_append, evC_seq, evC_reg, evC_skip, evC_exit, evC_ret, evC_block, evC_condX, condX_true, condX_false, evOps_nil, evOps_one, contR_some, evOps_gd, gdR_tt, gdR_ft, gdR_tf, gdR_ff, gdR_un, bq_true, bq_false, ev1_mv, ev1_pick, ev1_bin, ev1_eqv, ev1_un, un_not, ev1_mki, ev1_slc, ev1_lenV, ev1_ixaV, ev1_appV, ev1_load, ev1_call, ev1_mn, ev1_mx, ev1_conv, ev1_alloc, ev1_storeV, ev1_bslR, bslR_sl, bslR_hs, fill_nil, fill_cons, fill1_u8a, fill1_u8b, fill1_ca, fill1_cb, thenO_some, loadR_rp, opd, Env.put, Env.at, seqR_nrm, seqR_exit, seqR_ret, regR_some, List.set_cons_zero, List.set_cons_succ, List.getD_cons_zero, List.getD_cons_succ, pR_some, wR_some, callR_some, freezeL, freeze_int, freeze_bool, freeze_str, freeze_u16, freeze_u8, freeze_ptr, freeze_nils, boolR_true, boolR_false, blockR_nrm, blockR_exit, blockR_ret, outR_ret, outR_nrm, resVs, resV_tmp, oneOr, Option.map_some, Option.map_none, List.map_cons, List.map_nil, if_true, if_false, Bool.not_true, Bool.not_false, Bool.false_eq_true, reduceIte, decide_true, decide_false, i64_lss, i64_leq, i64_gtr, i64_geq, i64_eql, i64_neq, i64_add, i64_sub]
        rfl
      · have f3 : (j ≤ 3) = True := eq_true (by omega)
        rw [same3 j hj hz h4] at p1
        simp only [M11, hb, kd, rk, cv, ci, l1, m1, p1, neq, hfb, f1, f2, f3, str_eql, beq_self_eq_true, env0, List.length_cons, List.length_nil, Nat.reduceAdd, Nat.reduceSub, List.replicate, List.cons_append, List.nil_append, evC_seq, evC_reg, evC_skip, evC_exit, evC_ret, evC_block, evC_condX, condX_true, condX_false, evOps_nil, evOps_one, contR_some, evOps_gd, gdR_tt, gdR_ft, gdR_tf, gdR_ff, gdR_un, bq_true, bq_false, ev1_mv, ev1_pick, ev1_bin, ev1_eqv, ev1_un, un_not, ev1_mki, ev1_slc, ev1_lenV, ev1_ixaV, ev1_appV, ev1_load, ev1_call, ev1_mn, ev1_mx, ev1_conv, ev1_alloc, ev1_storeV, ev1_bslR, bslR_sl, bslR_hs, fill_nil, fill_cons, fill1_u8a, fill1_u8b, fill1_ca, fill1_cb, thenO_some, loadR_rp, opd, Env.put, Env.at, seqR_nrm, seqR_exit, seqR_ret, regR_some, List.set_cons_zero, List.set_cons_succ, List.getD_cons_zero, List.getD_cons_succ, pR_some, wR_some, callR_some, freezeL, freeze_int, freeze_bool, freeze_str, freeze_u16, freeze_u8, freeze_ptr, freeze_nils, boolR_true, boolR_false, blockR_nrm, blockR_exit, blockR_ret, outR_ret, outR_nrm, resVs, resV_tmp, oneOr, Option.map_some, Option.map_none, List.map_cons, List.map_nil, if_true, if_false, Bool.not_true, Bool.not_false, Bool.false_eq_true, reduceIte, decide_true, decide_false, i64_lss, i64_leq, i64_gtr, i64_geq, i64_eql, i64_neq, i64_add, i64_sub]
        rfl
  refine fin (kindOf n0) rfl (by rcases kr with h | h | h | h | h <;> omega) (fun h => ?_)
  have hp : plainOf n0 = 63 := by unfold plainOf; rw [if_pos h]
  rw [hp, q63]
end Go.Proofs.YthcblggiojpmcaaDoor.nickRune
