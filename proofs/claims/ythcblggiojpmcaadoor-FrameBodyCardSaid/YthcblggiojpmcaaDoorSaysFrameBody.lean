/- What the evaluator says of the law FrameBody: true. No conditions. -/
import Derived.Test.YthcblggiojpmcaaDoorBody
import Derived.Test.YthcblggiojpmcaaDoorArgS
namespace Go.Proofs.YthcblggiojpmcaaDoor.frameBody
open Go Go.Ab
set_option linter.unusedVariables false
set_option linter.unusedSimpArgs false
set_option maxRecDepth 100000 in
theorem says (n0 : Int) (hn0 : IntKind.has .i64 n0) (n1 : Int) (hn1 : IntKind.has .i64 n1) : Ab.saysTrue (evT 1000 16 [.int .i64 n0, .int .i64 n1] Ab.St.nil) = true := by
  obtain ⟨s1, hb⟩ := begunT_ev
  have a1 := i64_rem n0 70 (by omega)
  have a2 := i64_rem (n0.tmod 70 + 70) 70 (by omega)
  have d1 := i64_rem n1 3 (by omega)
  have d2 := i64_rem (n1.tmod 3 + 3) 3 (by omega)
  have r1 := tmodQ n0 70 (by omega)
  have r2 := Int.tmod_lt_of_pos n0 (show (0 : Int) < 70 by omega)
  have r3 : 0 ≤ (n0.tmod 70 + 70).tmod 70 := Int.tmod_nonneg _ (by omega)
  have r4 := Int.tmod_lt_of_pos (n0.tmod 70 + 70) (show (0 : Int) < 70 by omega)
  have u1 := tmodQ n1 3 (by omega)
  have u2 := Int.tmod_lt_of_pos n1 (show (0 : Int) < 3 by omega)
  have u3 : 0 ≤ (n1.tmod 3 + 3).tmod 3 := Int.tmod_nonneg _ (by omega)
  have u4 := Int.tmod_lt_of_pos (n1.tmod 3 + 3) (show (0 : Int) < 3 by omega)
  have w1 : IntKind.i64.wrap (n0.tmod 70 + 70) = n0.tmod 70 + 70 := wrapI _ (by omega) (by omega)
  have w2 : IntKind.i64.wrap (n1.tmod 3 + 3) = n1.tmod 3 + 3 := wrapI _ (by omega) (by omega)
  have w3 : IntKind.i64.wrap (1 + (n1.tmod 3 + 3).tmod 3) = 1 + (n1.tmod 3 + 3).tmod 3 := wrapI _ (by omega) (by omega)
  obtain ⟨N, hN, hN2⟩ : ∃ N : Nat, (n0.tmod 70 + 70).tmod 70 = (N : Int) ∧ N ≤ 69 := ⟨((n0.tmod 70 + 70).tmod 70).toNat, by omega, by omega⟩
  rw [hN] at a2
  have hK : 1 + (n1.tmod 3 + 3).tmod 3 = 1 ∨ 1 + (n1.tmod 3 + 3).tmod 3 = 2 ∨ 1 + (n1.tmod 3 + 3).tmod 3 = 3 := by omega
  have mk := mks_n' s1 N (by omega)
  have hst := hsStr_own s1 N
  generalize hs2 : s1.new (.cells 1 (bytesAV (List.replicate N 0))) = s2 at mk hst
  have hbl : (List.replicate N (0 : UInt8)).length = N := by simp
  generalize hbody : List.replicate N (0 : UInt8) = body at hst hbl
  have hfb : ∀ a b : Bool, eqAV (.flat (.one .b)) (.bool a) (.bool b) = some (a == b) := fun a b => rfl
  have few0 : few 0 8 = true := rfl
  have few3 : few 0 3 = true := rfl
  have hle : ((body.length : Int) ≤ 64) = ((N : Int) ≤ 64) := by rw [hbl]
  rw [show (1000 : Nat) = 999 + 1 from rfl, evT_in rfl tab16]
  have n21 : ((1 : Int) == 3) = false := rfl
  have n23 : ((2 : Int) == 3) = false := rfl
  have m12 : ((1 : Int) != 2) = true := rfl
  have m22 : ((2 : Int) != 2) = false := rfl
  have m32 : ((3 : Int) != 2) = true := rfl
  have hb0 : (body == []) = ((N : Int) == 0) := by
    rw [← hbody, Bool.eq_iff_iff, beq_iff_eq, beq_iff_eq]
    cases N with
    | zero => simp
    | succ N => simp [List.replicate_succ]; omega
  rcases hK with h | h | h
  · rw [h] at w3
    by_cases q : (N : Int) ≤ 64
    · have qq : ((N : Int) ≤ 64) = True := eq_true q
      have hm : (Fr.mk 0 0 false (.i 0 0 false) body).may = true := by
        simp [Fr.may, Ct.may, Ct.isS, few0, few3, hle, hb0, q]
      obtain ⟨s3, o1⟩ := of_yes_i 994 0 0 false 0 0 false body hm (s2.new (.cells 0 [.int .i64 0, .int .i64 0, .bool false, .int .i64 1, .int .i64 0, .int .i64 0, .int .i64 0, .bool false, .str body]))
      simp only [pcells] at o1
      simp only [M16, hb, a1, a2, d1, d2, w1, w2, w3, h, ev1_mksV', mk, ev1_conv, evR_conv, convP_hs, evRc_hs, hst, ev1_build, fill9_3, fill9_8, store_agg, get_new_eq, stA_9, stA_5, new_upd, n21, n23, m12, m22, m32, beq_self_eq_true, load_ptrN, cutO_9, freeze_agg, o1, Fr.cells, hfb, qq, env0, List.length_cons, List.length_nil, Nat.reduceAdd, Nat.reduceSub, List.replicate, List.cons_append, List.nil_append, evC_seq, evC_reg, evC_skip, evC_exit, evC_ret, evC_block, evC_condX, condX_true, condX_false, evOps_nil, evOps_one, contR_some, evOps_gd, gdR_tt, gdR_ft, gdR_tf, gdR_ff, gdR_un, bq_true, bq_false, ev1_mv, ev1_pick, ev1_bin, ev1_eqv, ev1_un, un_not, ev1_mki, ev1_slc, ev1_lenV, ev1_ixaV, ev1_appV, ev1_load, ev1_call, ev1_mn, ev1_mx, ev1_conv, ev1_alloc, ev1_storeV, ev1_bslR, bslR_sl, bslR_hs, fill_nil, fill_cons, fill1_u8a, fill1_u8b, fill1_ca, fill1_cb, thenO_some, loadR_rp, opd, Env.put, Env.at, seqR_nrm, seqR_exit, seqR_ret, regR_some, List.set_cons_zero, List.set_cons_succ, List.getD_cons_zero, List.getD_cons_succ, pR_some, wR_some, callR_some, freezeL, freeze_int, freeze_bool, freeze_str, freeze_u16, freeze_u8, freeze_ptr, freeze_nils, boolR_true, boolR_false, blockR_nrm, blockR_exit, blockR_ret, outR_ret, outR_nrm, resVs, resV_tmp, oneOr, Option.map_some, Option.map_none, List.map_cons, List.map_nil, if_true, if_false, Bool.not_true, Bool.not_false, Bool.false_eq_true, reduceIte, decide_true, decide_false, i64_lss, i64_leq, i64_gtr, i64_geq, i64_eql, i64_neq, i64_add, i64_sub, load_ptr, ldV_some, cellAt_cells, List.getElem?_cons_zero, List.getElem?_cons_succ, store_ptr, stO_some, setAt_0, setAt_1, setAt_2, setAt_3, setAt_4, setAt_5, setAt_6, setAt_7, setAt_8, setAt_9, setAt_10, setAt_11, setAt_12, cells_int, cells_bool, cells_str, cells_nils, cells_nilp, cells_ptr, cells_sl, cells_u8, cells_u16, cells_agg, get_upd_is, Option.isSome_some, upd_upd, ev1_nchkV, ev1_faV, nchkV_ptr, faV_ptr, ev1_extV, extV_tup, eqptr_nil, eqptr_ptr, Nat.zero_add, Nat.add_zero]
      rfl
    · have qq : ((N : Int) ≤ 64) = False := eq_false q
      have hm : (Fr.mk 0 0 false (.i 0 0 false) body).may = false := by
        simp [Fr.may, Ct.may, Ct.isS, few0, few3, hle, hb0, q]
      obtain ⟨s3, o1⟩ := of_no_i 994 0 0 false 0 0 0 false body hm (s2.new (.cells 0 [.int .i64 0, .int .i64 0, .bool false, .int .i64 1, .int .i64 0, .int .i64 0, .int .i64 0, .bool false, .str body]))
      simp only [pcells] at o1
      simp only [M16, hb, a1, a2, d1, d2, w1, w2, w3, h, ev1_mksV', mk, ev1_conv, evR_conv, convP_hs, evRc_hs, hst, ev1_build, fill9_3, fill9_8, store_agg, get_new_eq, stA_9, stA_5, new_upd, n21, n23, m12, m22, m32, beq_self_eq_true, load_ptrN, cutO_9, freeze_agg, o1, Fr.cells, hfb, qq, env0, List.length_cons, List.length_nil, Nat.reduceAdd, Nat.reduceSub, List.replicate, List.cons_append, List.nil_append, evC_seq, evC_reg, evC_skip, evC_exit, evC_ret, evC_block, evC_condX, condX_true, condX_false, evOps_nil, evOps_one, contR_some, evOps_gd, gdR_tt, gdR_ft, gdR_tf, gdR_ff, gdR_un, bq_true, bq_false, ev1_mv, ev1_pick, ev1_bin, ev1_eqv, ev1_un, un_not, ev1_mki, ev1_slc, ev1_lenV, ev1_ixaV, ev1_appV, ev1_load, ev1_call, ev1_mn, ev1_mx, ev1_conv, ev1_alloc, ev1_storeV, ev1_bslR, bslR_sl, bslR_hs, fill_nil, fill_cons, fill1_u8a, fill1_u8b, fill1_ca, fill1_cb, thenO_some, loadR_rp, opd, Env.put, Env.at, seqR_nrm, seqR_exit, seqR_ret, regR_some, List.set_cons_zero, List.set_cons_succ, List.getD_cons_zero, List.getD_cons_succ, pR_some, wR_some, callR_some, freezeL, freeze_int, freeze_bool, freeze_str, freeze_u16, freeze_u8, freeze_ptr, freeze_nils, boolR_true, boolR_false, blockR_nrm, blockR_exit, blockR_ret, outR_ret, outR_nrm, resVs, resV_tmp, oneOr, Option.map_some, Option.map_none, List.map_cons, List.map_nil, if_true, if_false, Bool.not_true, Bool.not_false, Bool.false_eq_true, reduceIte, decide_true, decide_false, i64_lss, i64_leq, i64_gtr, i64_geq, i64_eql, i64_neq, i64_add, i64_sub, load_ptr, ldV_some, cellAt_cells, List.getElem?_cons_zero, List.getElem?_cons_succ, store_ptr, stO_some, setAt_0, setAt_1, setAt_2, setAt_3, setAt_4, setAt_5, setAt_6, setAt_7, setAt_8, setAt_9, setAt_10, setAt_11, setAt_12, cells_int, cells_bool, cells_str, cells_nils, cells_nilp, cells_ptr, cells_sl, cells_u8, cells_u16, cells_agg, get_upd_is, Option.isSome_some, upd_upd, ev1_nchkV, ev1_faV, nchkV_ptr, faV_ptr, ev1_extV, extV_tup, eqptr_nil, eqptr_ptr, Nat.zero_add, Nat.add_zero]
      rfl
  · rw [h] at w3
    by_cases q : (N : Int) ≤ 64
    · have qq : ((N : Int) ≤ 64) = True := eq_true q
      cases z : ((N : Int) == 0) with
      | true =>
        have hm : (Fr.mk 0 0 false (.s 0 0 false) body).may = true := by
          simp [Fr.may, Ct.may, Ct.isS, few0, few3, hle, hb0, q, z]
        obtain ⟨s3, o1⟩ := of_yes_s 994 0 0 false 0 0 false body hm (s2.new (.cells 0 [.int .i64 0, .int .i64 0, .bool false, .int .i64 2, .int .i64 0, .int .i64 0, .int .i64 0, .bool false, .str body]))
        simp only [pcells] at o1
        simp only [M16, hb, a1, a2, d1, d2, w1, w2, w3, h, ev1_mksV', mk, ev1_conv, evR_conv, convP_hs, evRc_hs, hst, ev1_build, fill9_3, fill9_8, store_agg, get_new_eq, stA_9, stA_5, new_upd, n21, n23, m12, m22, m32, beq_self_eq_true, load_ptrN, cutO_9, freeze_agg, o1, Fr.cells, hfb, qq, z, env0, List.length_cons, List.length_nil, Nat.reduceAdd, Nat.reduceSub, List.replicate, List.cons_append, List.nil_append, evC_seq, evC_reg, evC_skip, evC_exit, evC_ret, evC_block, evC_condX, condX_true, condX_false, evOps_nil, evOps_one, contR_some, evOps_gd, gdR_tt, gdR_ft, gdR_tf, gdR_ff, gdR_un, bq_true, bq_false, ev1_mv, ev1_pick, ev1_bin, ev1_eqv, ev1_un, un_not, ev1_mki, ev1_slc, ev1_lenV, ev1_ixaV, ev1_appV, ev1_load, ev1_call, ev1_mn, ev1_mx, ev1_conv, ev1_alloc, ev1_storeV, ev1_bslR, bslR_sl, bslR_hs, fill_nil, fill_cons, fill1_u8a, fill1_u8b, fill1_ca, fill1_cb, thenO_some, loadR_rp, opd, Env.put, Env.at, seqR_nrm, seqR_exit, seqR_ret, regR_some, List.set_cons_zero, List.set_cons_succ, List.getD_cons_zero, List.getD_cons_succ, pR_some, wR_some, callR_some, freezeL, freeze_int, freeze_bool, freeze_str, freeze_u16, freeze_u8, freeze_ptr, freeze_nils, boolR_true, boolR_false, blockR_nrm, blockR_exit, blockR_ret, outR_ret, outR_nrm, resVs, resV_tmp, oneOr, Option.map_some, Option.map_none, List.map_cons, List.map_nil, if_true, if_false, Bool.not_true, Bool.not_false, Bool.false_eq_true, reduceIte, decide_true, decide_false, i64_lss, i64_leq, i64_gtr, i64_geq, i64_eql, i64_neq, i64_add, i64_sub, load_ptr, ldV_some, cellAt_cells, List.getElem?_cons_zero, List.getElem?_cons_succ, store_ptr, stO_some, setAt_0, setAt_1, setAt_2, setAt_3, setAt_4, setAt_5, setAt_6, setAt_7, setAt_8, setAt_9, setAt_10, setAt_11, setAt_12, cells_int, cells_bool, cells_str, cells_nils, cells_nilp, cells_ptr, cells_sl, cells_u8, cells_u16, cells_agg, get_upd_is, Option.isSome_some, upd_upd, ev1_nchkV, ev1_faV, nchkV_ptr, faV_ptr, ev1_extV, extV_tup, eqptr_nil, eqptr_ptr, Nat.zero_add, Nat.add_zero]
        rfl
      | false =>
        have hm : (Fr.mk 0 0 false (.s 0 0 false) body).may = false := by
          simp [Fr.may, Ct.may, Ct.isS, few0, few3, hle, hb0, q, z]
        obtain ⟨s3, o1⟩ := of_no_s 994 0 0 false 0 0 0 false body hm (s2.new (.cells 0 [.int .i64 0, .int .i64 0, .bool false, .int .i64 2, .int .i64 0, .int .i64 0, .int .i64 0, .bool false, .str body]))
        simp only [pcells] at o1
        simp only [M16, hb, a1, a2, d1, d2, w1, w2, w3, h, ev1_mksV', mk, ev1_conv, evR_conv, convP_hs, evRc_hs, hst, ev1_build, fill9_3, fill9_8, store_agg, get_new_eq, stA_9, stA_5, new_upd, n21, n23, m12, m22, m32, beq_self_eq_true, load_ptrN, cutO_9, freeze_agg, o1, Fr.cells, hfb, qq, z, env0, List.length_cons, List.length_nil, Nat.reduceAdd, Nat.reduceSub, List.replicate, List.cons_append, List.nil_append, evC_seq, evC_reg, evC_skip, evC_exit, evC_ret, evC_block, evC_condX, condX_true, condX_false, evOps_nil, evOps_one, contR_some, evOps_gd, gdR_tt, gdR_ft, gdR_tf, gdR_ff, gdR_un, bq_true, bq_false, ev1_mv, ev1_pick, ev1_bin, ev1_eqv, ev1_un, un_not, ev1_mki, ev1_slc, ev1_lenV, ev1_ixaV, ev1_appV, ev1_load, ev1_call, ev1_mn, ev1_mx, ev1_conv, ev1_alloc, ev1_storeV, ev1_bslR, bslR_sl, bslR_hs, fill_nil, fill_cons, fill1_u8a, fill1_u8b, fill1_ca, fill1_cb, thenO_some, loadR_rp, opd, Env.put, Env.at, seqR_nrm, seqR_exit, seqR_ret, regR_some, List.set_cons_zero, List.set_cons_succ, List.getD_cons_zero, List.getD_cons_succ, pR_some, wR_some, callR_some, freezeL, freeze_int, freeze_bool, freeze_str, freeze_u16, freeze_u8, freeze_ptr, freeze_nils, boolR_true, boolR_false, blockR_nrm, blockR_exit, blockR_ret, outR_ret, outR_nrm, resVs, resV_tmp, oneOr, Option.map_some, Option.map_none, List.map_cons, List.map_nil, if_true, if_false, Bool.not_true, Bool.not_false, Bool.false_eq_true, reduceIte, decide_true, decide_false, i64_lss, i64_leq, i64_gtr, i64_geq, i64_eql, i64_neq, i64_add, i64_sub, load_ptr, ldV_some, cellAt_cells, List.getElem?_cons_zero, List.getElem?_cons_succ, store_ptr, stO_some, setAt_0, setAt_1, setAt_2, setAt_3, setAt_4, setAt_5, setAt_6, setAt_7, setAt_8, setAt_9, setAt_10, setAt_11, setAt_12, cells_int, cells_bool, cells_str, cells_nils, cells_nilp, cells_ptr, cells_sl, cells_u8, cells_u16, cells_agg, get_upd_is, Option.isSome_some, upd_upd, ev1_nchkV, ev1_faV, nchkV_ptr, faV_ptr, ev1_extV, extV_tup, eqptr_nil, eqptr_ptr, Nat.zero_add, Nat.add_zero]
        rfl
    · have qq : ((N : Int) ≤ 64) = False := eq_false q
      have hm : (Fr.mk 0 0 false (.s 0 0 false) body).may = false := by
        simp [Fr.may, Ct.may, Ct.isS, few0, few3, hle, hb0, q]
      obtain ⟨s3, o1⟩ := of_no_s 994 0 0 false 0 0 0 false body hm (s2.new (.cells 0 [.int .i64 0, .int .i64 0, .bool false, .int .i64 2, .int .i64 0, .int .i64 0, .int .i64 0, .bool false, .str body]))
      simp only [pcells] at o1
      simp only [M16, hb, a1, a2, d1, d2, w1, w2, w3, h, ev1_mksV', mk, ev1_conv, evR_conv, convP_hs, evRc_hs, hst, ev1_build, fill9_3, fill9_8, store_agg, get_new_eq, stA_9, stA_5, new_upd, n21, n23, m12, m22, m32, beq_self_eq_true, load_ptrN, cutO_9, freeze_agg, o1, Fr.cells, hfb, qq, env0, List.length_cons, List.length_nil, Nat.reduceAdd, Nat.reduceSub, List.replicate, List.cons_append, List.nil_append, evC_seq, evC_reg, evC_skip, evC_exit, evC_ret, evC_block, evC_condX, condX_true, condX_false, evOps_nil, evOps_one, contR_some, evOps_gd, gdR_tt, gdR_ft, gdR_tf, gdR_ff, gdR_un, bq_true, bq_false, ev1_mv, ev1_pick, ev1_bin, ev1_eqv, ev1_un, un_not, ev1_mki, ev1_slc, ev1_lenV, ev1_ixaV, ev1_appV, ev1_load, ev1_call, ev1_mn, ev1_mx, ev1_conv, ev1_alloc, ev1_storeV, ev1_bslR, bslR_sl, bslR_hs, fill_nil, fill_cons, fill1_u8a, fill1_u8b, fill1_ca, fill1_cb, thenO_some, loadR_rp, opd, Env.put, Env.at, seqR_nrm, seqR_exit, seqR_ret, regR_some, List.set_cons_zero, List.set_cons_succ, List.getD_cons_zero, List.getD_cons_succ, pR_some, wR_some, callR_some, freezeL, freeze_int, freeze_bool, freeze_str, freeze_u16, freeze_u8, freeze_ptr, freeze_nils, boolR_true, boolR_false, blockR_nrm, blockR_exit, blockR_ret, outR_ret, outR_nrm, resVs, resV_tmp, oneOr, Option.map_some, Option.map_none, List.map_cons, List.map_nil, if_true, if_false, Bool.not_true, Bool.not_false, Bool.false_eq_true, reduceIte, decide_true, decide_false, i64_lss, i64_leq, i64_gtr, i64_geq, i64_eql, i64_neq, i64_add, i64_sub, load_ptr, ldV_some, cellAt_cells, List.getElem?_cons_zero, List.getElem?_cons_succ, store_ptr, stO_some, setAt_0, setAt_1, setAt_2, setAt_3, setAt_4, setAt_5, setAt_6, setAt_7, setAt_8, setAt_9, setAt_10, setAt_11, setAt_12, cells_int, cells_bool, cells_str, cells_nils, cells_nilp, cells_ptr, cells_sl, cells_u8, cells_u16, cells_agg, get_upd_is, Option.isSome_some, upd_upd, ev1_nchkV, ev1_faV, nchkV_ptr, faV_ptr, ev1_extV, extV_tup, eqptr_nil, eqptr_ptr, Nat.zero_add, Nat.add_zero]
      rfl
  · rw [h] at w3
    by_cases q : (N : Int) ≤ 64
    · have qq : ((N : Int) ≤ 64) = True := eq_true q
      have hm : (Fr.mk 0 0 false (.u 1 false) body).may = true := by
        simp [Fr.may, Ct.may, Ct.isS, few0, few3, hle, hb0, q]
      obtain ⟨s3, o1⟩ := of_yes_u 994 0 0 false 1 false body hm (s2.new (.cells 0 [.int .i64 0, .int .i64 0, .bool false, .int .i64 3, .int .i64 1, .int .i64 0, .int .i64 0, .bool false, .str body]))
      simp only [pcells] at o1
      simp only [M16, hb, a1, a2, d1, d2, w1, w2, w3, h, ev1_mksV', mk, ev1_conv, evR_conv, convP_hs, evRc_hs, hst, ev1_build, fill9_3, fill9_8, store_agg, get_new_eq, stA_9, stA_5, new_upd, n21, n23, m12, m22, m32, beq_self_eq_true, load_ptrN, cutO_9, freeze_agg, o1, Fr.cells, hfb, qq, env0, List.length_cons, List.length_nil, Nat.reduceAdd, Nat.reduceSub, List.replicate, List.cons_append, List.nil_append, evC_seq, evC_reg, evC_skip, evC_exit, evC_ret, evC_block, evC_condX, condX_true, condX_false, evOps_nil, evOps_one, contR_some, evOps_gd, gdR_tt, gdR_ft, gdR_tf, gdR_ff, gdR_un, bq_true, bq_false, ev1_mv, ev1_pick, ev1_bin, ev1_eqv, ev1_un, un_not, ev1_mki, ev1_slc, ev1_lenV, ev1_ixaV, ev1_appV, ev1_load, ev1_call, ev1_mn, ev1_mx, ev1_conv, ev1_alloc, ev1_storeV, ev1_bslR, bslR_sl, bslR_hs, fill_nil, fill_cons, fill1_u8a, fill1_u8b, fill1_ca, fill1_cb, thenO_some, loadR_rp, opd, Env.put, Env.at, seqR_nrm, seqR_exit, seqR_ret, regR_some, List.set_cons_zero, List.set_cons_succ, List.getD_cons_zero, List.getD_cons_succ, pR_some, wR_some, callR_some, freezeL, freeze_int, freeze_bool, freeze_str, freeze_u16, freeze_u8, freeze_ptr, freeze_nils, boolR_true, boolR_false, blockR_nrm, blockR_exit, blockR_ret, outR_ret, outR_nrm, resVs, resV_tmp, oneOr, Option.map_some, Option.map_none, List.map_cons, List.map_nil, if_true, if_false, Bool.not_true, Bool.not_false, Bool.false_eq_true, reduceIte, decide_true, decide_false, i64_lss, i64_leq, i64_gtr, i64_geq, i64_eql, i64_neq, i64_add, i64_sub, load_ptr, ldV_some, cellAt_cells, List.getElem?_cons_zero, List.getElem?_cons_succ, store_ptr, stO_some, setAt_0, setAt_1, setAt_2, setAt_3, setAt_4, setAt_5, setAt_6, setAt_7, setAt_8, setAt_9, setAt_10, setAt_11, setAt_12, cells_int, cells_bool, cells_str, cells_nils, cells_nilp, cells_ptr, cells_sl, cells_u8, cells_u16, cells_agg, get_upd_is, Option.isSome_some, upd_upd, ev1_nchkV, ev1_faV, nchkV_ptr, faV_ptr, ev1_extV, extV_tup, eqptr_nil, eqptr_ptr, Nat.zero_add, Nat.add_zero]
      rfl
    · have qq : ((N : Int) ≤ 64) = False := eq_false q
      have hm : (Fr.mk 0 0 false (.u 1 false) body).may = false := by
        simp [Fr.may, Ct.may, Ct.isS, few0, few3, hle, hb0, q]
      obtain ⟨s3, o1⟩ := of_no_u 994 0 0 false 1 0 0 false body hm (s2.new (.cells 0 [.int .i64 0, .int .i64 0, .bool false, .int .i64 3, .int .i64 1, .int .i64 0, .int .i64 0, .bool false, .str body]))
      simp only [pcells] at o1
      simp only [M16, hb, a1, a2, d1, d2, w1, w2, w3, h, ev1_mksV', mk, ev1_conv, evR_conv, convP_hs, evRc_hs, hst, ev1_build, fill9_3, fill9_8, store_agg, get_new_eq, stA_9, stA_5, new_upd, n21, n23, m12, m22, m32, beq_self_eq_true, load_ptrN, cutO_9, freeze_agg, o1, Fr.cells, hfb, qq, env0, List.length_cons, List.length_nil, Nat.reduceAdd, Nat.reduceSub, List.replicate, List.cons_append, List.nil_append, evC_seq, evC_reg, evC_skip, evC_exit, evC_ret, evC_block, evC_condX, condX_true, condX_false, evOps_nil, evOps_one, contR_some, evOps_gd, gdR_tt, gdR_ft, gdR_tf, gdR_ff, gdR_un, bq_true, bq_false, ev1_mv, ev1_pick, ev1_bin, ev1_eqv, ev1_un, un_not, ev1_mki, ev1_slc, ev1_lenV, ev1_ixaV, ev1_appV, ev1_load, ev1_call, ev1_mn, ev1_mx, ev1_conv, ev1_alloc, ev1_storeV, ev1_bslR, bslR_sl, bslR_hs, fill_nil, fill_cons, fill1_u8a, fill1_u8b, fill1_ca, fill1_cb, thenO_some, loadR_rp, opd, Env.put, Env.at, seqR_nrm, seqR_exit, seqR_ret, regR_some, List.set_cons_zero, List.set_cons_succ, List.getD_cons_zero, List.getD_cons_succ, pR_some, wR_some, callR_some, freezeL, freeze_int, freeze_bool, freeze_str, freeze_u16, freeze_u8, freeze_ptr, freeze_nils, boolR_true, boolR_false, blockR_nrm, blockR_exit, blockR_ret, outR_ret, outR_nrm, resVs, resV_tmp, oneOr, Option.map_some, Option.map_none, List.map_cons, List.map_nil, if_true, if_false, Bool.not_true, Bool.not_false, Bool.false_eq_true, reduceIte, decide_true, decide_false, i64_lss, i64_leq, i64_gtr, i64_geq, i64_eql, i64_neq, i64_add, i64_sub, load_ptr, ldV_some, cellAt_cells, List.getElem?_cons_zero, List.getElem?_cons_succ, store_ptr, stO_some, setAt_0, setAt_1, setAt_2, setAt_3, setAt_4, setAt_5, setAt_6, setAt_7, setAt_8, setAt_9, setAt_10, setAt_11, setAt_12, cells_int, cells_bool, cells_str, cells_nils, cells_nilp, cells_ptr, cells_sl, cells_u8, cells_u16, cells_agg, get_upd_is, Option.isSome_some, upd_upd, ev1_nchkV, ev1_faV, nchkV_ptr, faV_ptr, ev1_extV, extV_tup, eqptr_nil, eqptr_ptr, Nat.zero_add, Nat.add_zero]
      rfl
end Go.Proofs.YthcblggiojpmcaaDoor.frameBody
