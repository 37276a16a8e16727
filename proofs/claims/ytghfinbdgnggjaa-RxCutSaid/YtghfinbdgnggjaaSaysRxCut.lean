/- What the evaluator says of the law RxCut: true. No conditions. -/
import Derived.Test.YtghfinbdgnggjaaBegun
import Derived.Test.YtghfinbdgnggjaaPRx
import Derived.Test.YtghfinbdgnggjaaWrap
namespace Go.Proofs.Ytghfinbdgnggjaa.rxCut
open Go Go.Ab
set_option linter.unusedVariables false
set_option linter.unusedSimpArgs false
set_option maxRecDepth 100000 in
theorem says (b0 : List UInt8) {x0 : Ab.AV} (hx0 : Ab.IsBytes x0 b0) (b1 : List UInt8) {x1 : Ab.AV} (hx1 : Ab.IsBytes x1 b1) (n2 : Int) (hn2 : -9223372036854775808 ≤ n2 ∧ n2 ≤ 9223372036854775807) : Ab.saysTrue (ev 1000 17 [x0, x1, .int .i64 n2] Ab.St.nil) = true := by
  obtain ⟨s1, hb⟩ := begun_ev
  obtain ⟨y, s2, h1, h2, h3⟩ : ∃ y s', ev 999 20 [x0, .int .i64 40] s1 = some (y, s') ∧ Own s1 s' y (b0.take 40) ∧ Ext s1 s' := short_ev hx0.bys 998 40 (by omega) s1
  obtain ⟨z, s3, g1, g2, g3⟩ : ∃ y s', ev 999 20 [x1, .int .i64 40] s2 = some (y, s') ∧ Own s2 s' y (b1.take 40) ∧ Ext s2 s' := short_ev hx1.bys 998 40 (by omega) s2
  have hlen : (b0.take 40).length ≤ 40 := by simp; omega
  have hlen' : (b1.take 40).length ≤ 40 := by simp; omega
  generalize b0.take 40 = a at h2 hlen
  generalize b1.take 40 = b at g2 hlen'
  have hy := h2.bys
  have hz := g2.bys
  obtain ⟨w, s4, p1, p2, p3⟩ : ∃ y' s', ev 999 29 [y, .int .i64 1] s3 = some (y', s') ∧ Own s3 s' y' (wrapB a 1) ∧ Ext s3 s' := wrap_ev hy 1 968 (by omega) (by omega) s3
  have hw := p2.bys
  have e1 := esc_length (crcPut a)
  have e2 := esc_length (crcPut b)
  rw [crcPut_length] at e1 e2
  have hwl : (wrapB a 1).length = ahead 1 + 2 + (esc (crcPut a)).length := by simp [wrapB]; omega
  have hbl : (wrapB b 0).length = ahead 0 + 2 + (esc (crcPut b)).length := by simp [wrapB]; omega
  have ha1 := ahead_le 1
  have ha0 := ahead_le 0
  rw [show (1000 : Nat) = 999 + 1 from rfl, ev_in rfl tab17]
  by_cases hbn : b.length = 0
  · have h0 : ((b.length : Int) == 0) = true := by simp [hbn]
    simp only [M17, hb, hx0.bys.freeze, hx1.bys.freeze, h1, g1, hy.freeze, hz.len, p1, h0, env0, List.length_cons, List.length_nil, Nat.reduceAdd, Nat.reduceSub, List.replicate, List.cons_append, List.nil_append, evC_seq, evC_reg, evC_skip, evC_exit, evC_ret, evC_block, evC_condX, condX_true, condX_false, evOps_nil, evOps_one, contR_some, evOps_gd, gdR_tt, gdR_ft, gdR_tf, gdR_ff, gdR_un, bq_true, bq_false, ev1_mv, ev1_pick, ev1_bin, ev1_eqv, ev1_un, un_not, ev1_mki, ev1_slc, ev1_lenV, ev1_ixaV, ev1_appV, ev1_load, ev1_call, ev1_mn, ev1_mx, ev1_conv, ev1_alloc, ev1_storeV, ev1_bslR, bslR_sl, bslR_hs, fill_nil, fill_cons, fill1_u8a, fill1_u8b, fill1_ca, fill1_cb, thenO_some, loadR_rp, opd, Env.put, Env.at, seqR_nrm, seqR_exit, seqR_ret, regR_some, List.set_cons_zero, List.set_cons_succ, List.getD_cons_zero, List.getD_cons_succ, pR_some, wR_some, callR_some, freezeL, freeze_int, freeze_bool, freeze_str, freeze_u16, freeze_u8, freeze_ptr, freeze_nils, boolR_true, boolR_false, blockR_nrm, blockR_exit, blockR_ret, outR_ret, outR_nrm, resVs, resV_tmp, oneOr, Option.map_some, Option.map_none, List.map_cons, List.map_nil, if_true, if_false, Bool.not_true, Bool.not_false, Bool.false_eq_true, reduceIte, decide_true, decide_false, i64_lss, i64_leq, i64_gtr, i64_geq, i64_eql, i64_neq, i64_add, i64_sub]
    rfl
  have h0 : ((b.length : Int) == 0) = false := by simp; exact fun e => hbn (by simp [e])
  by_cases hn : n2 < 0
  · have h0' : (n2 < 0) = True := eq_true hn
    simp only [M17, hb, hx0.bys.freeze, hx1.bys.freeze, h1, g1, hy.freeze, hz.len, p1, h0, h0', env0, List.length_cons, List.length_nil, Nat.reduceAdd, Nat.reduceSub, List.replicate, List.cons_append, List.nil_append, evC_seq, evC_reg, evC_skip, evC_exit, evC_ret, evC_block, evC_condX, condX_true, condX_false, evOps_nil, evOps_one, contR_some, evOps_gd, gdR_tt, gdR_ft, gdR_tf, gdR_ff, gdR_un, bq_true, bq_false, ev1_mv, ev1_pick, ev1_bin, ev1_eqv, ev1_un, un_not, ev1_mki, ev1_slc, ev1_lenV, ev1_ixaV, ev1_appV, ev1_load, ev1_call, ev1_mn, ev1_mx, ev1_conv, ev1_alloc, ev1_storeV, ev1_bslR, bslR_sl, bslR_hs, fill_nil, fill_cons, fill1_u8a, fill1_u8b, fill1_ca, fill1_cb, thenO_some, loadR_rp, opd, Env.put, Env.at, seqR_nrm, seqR_exit, seqR_ret, regR_some, List.set_cons_zero, List.set_cons_succ, List.getD_cons_zero, List.getD_cons_succ, pR_some, wR_some, callR_some, freezeL, freeze_int, freeze_bool, freeze_str, freeze_u16, freeze_u8, freeze_ptr, freeze_nils, boolR_true, boolR_false, blockR_nrm, blockR_exit, blockR_ret, outR_ret, outR_nrm, resVs, resV_tmp, oneOr, Option.map_some, Option.map_none, List.map_cons, List.map_nil, if_true, if_false, Bool.not_true, Bool.not_false, Bool.false_eq_true, reduceIte, decide_true, decide_false, i64_lss, i64_leq, i64_gtr, i64_geq, i64_eql, i64_neq, i64_add, i64_sub]
    rfl
  have hn' : (n2 < 0) = False := eq_false hn
  obtain ⟨m, rfl⟩ : ∃ m : Nat, n2 = (m : Int) := ⟨n2.toNat, by omega⟩
  have q1 := i64_remN m (wrapB a 1).length (by omega)
  have hk : m % (wrapB a 1).length < (wrapB a 1).length := Nat.mod_lt _ (by omega)
  generalize m % (wrapB a 1).length = k at q1 hk
  obtain ⟨c, c1, c2⟩ := hw.till k (by omega)
  obtain ⟨y5, s5, d1, d2, d3⟩ := Own.app0 s4 c2 (by simp; omega)
  obtain ⟨y6, s6, f1, f2, f3⟩ : ∃ y' s', ev 999 29 [z, .int .i64 0] s5 = some (y', s') ∧ Own s5 s' y' (wrapB b 0) ∧ Ext s5 s' := wrap_ev hz 0 968 (by omega) (by omega) s5
  obtain ⟨y7, s7, r1, r2, r3⟩ := (d2.ext f3).app f2.bys (d3.trans f3) (by simp; omega)
  obtain ⟨o, s8, ys, t1, t2, t3, t4⟩ : ∃ o s' ys, ev 999 35 [.int .i64 60, y7] s7 = some (o, s') ∧ IsL o ys ∧ AllBys ys (rxAll 60 ((wrapB a 1).take k ++ wrapB b 0)) ∧ Ext s7 s' := rxAll_ev r2.bys 60 964 (by simp; omega) (by simp; omega) s7
  rw [rx_cut a b k (by intro e; rw [e] at hbn; simp at hbn) hlen' hk] at t3
  obtain ⟨v, rfl⟩ : ∃ v, ys = [v] := by
    have := t3.length
    match ys, this with
    | [v], _ => exact ⟨v, rfl⟩
  have hv : Bys v b := t3.1
  have hix : ixaV 1 o (.int .i64 0) = some (.rp [v]) := t2.ixa 0 (by simp)
  have hcut : Ab.cut [v] 0 none = some v := rfl
  simp only [M17, hb, hx0.bys.freeze, hx1.bys.freeze, h1, g1, hy.freeze, hz.len, hz.freeze, hw.len, p1, h0, hn', q1, c1, d1, f1, r1, r2.bys.freeze, t1, t2.len, env0, List.length_cons, List.length_nil, Nat.reduceAdd, Nat.reduceSub, List.replicate, List.cons_append, List.nil_append, evC_seq, evC_reg, evC_skip, evC_exit, evC_ret, evC_block, evC_condX, condX_true, condX_false, evOps_nil, evOps_one, contR_some, evOps_gd, gdR_tt, gdR_ft, gdR_tf, gdR_ff, gdR_un, bq_true, bq_false, ev1_mv, ev1_pick, ev1_bin, ev1_eqv, ev1_un, un_not, ev1_mki, ev1_slc, ev1_lenV, ev1_ixaV, ev1_appV, ev1_load, ev1_call, ev1_mn, ev1_mx, ev1_conv, ev1_alloc, ev1_storeV, ev1_bslR, bslR_sl, bslR_hs, fill_nil, fill_cons, fill1_u8a, fill1_u8b, fill1_ca, fill1_cb, thenO_some, loadR_rp, opd, Env.put, Env.at, seqR_nrm, seqR_exit, seqR_ret, regR_some, List.set_cons_zero, List.set_cons_succ, List.getD_cons_zero, List.getD_cons_succ, pR_some, wR_some, callR_some, freezeL, freeze_int, freeze_bool, freeze_str, freeze_u16, freeze_u8, freeze_ptr, freeze_nils, boolR_true, boolR_false, blockR_nrm, blockR_exit, blockR_ret, outR_ret, outR_nrm, resVs, resV_tmp, oneOr, Option.map_some, Option.map_none, List.map_cons, List.map_nil, if_true, if_false, Bool.not_true, Bool.not_false, Bool.false_eq_true, reduceIte, decide_true, decide_false, i64_lss, i64_leq, i64_gtr, i64_geq, i64_eql, i64_neq, i64_add, i64_sub]
  simp only [t2.len, hix, hcut, hv.str, hz.str, List.length_cons, List.length_nil, Nat.reduceAdd, Int.natCast_one, beq_self_eq_true, env0, List.length_cons, List.length_nil, Nat.reduceAdd, Nat.reduceSub, List.replicate, List.cons_append, List.nil_append, evC_seq, evC_reg, evC_skip, evC_exit, evC_ret, evC_block, evC_condX, condX_true, condX_false, evOps_nil, evOps_one, contR_some, evOps_gd, gdR_tt, gdR_ft, gdR_tf, gdR_ff, gdR_un, bq_true, bq_false, ev1_mv, ev1_pick, ev1_bin, ev1_eqv, ev1_un, un_not, ev1_mki, ev1_slc, ev1_lenV, ev1_ixaV, ev1_appV, ev1_load, ev1_call, ev1_mn, ev1_mx, ev1_conv, ev1_alloc, ev1_storeV, ev1_bslR, bslR_sl, bslR_hs, fill_nil, fill_cons, fill1_u8a, fill1_u8b, fill1_ca, fill1_cb, thenO_some, loadR_rp, opd, Env.put, Env.at, seqR_nrm, seqR_exit, seqR_ret, regR_some, List.set_cons_zero, List.set_cons_succ, List.getD_cons_zero, List.getD_cons_succ, pR_some, wR_some, callR_some, freezeL, freeze_int, freeze_bool, freeze_str, freeze_u16, freeze_u8, freeze_ptr, freeze_nils, boolR_true, boolR_false, blockR_nrm, blockR_exit, blockR_ret, outR_ret, outR_nrm, resVs, resV_tmp, oneOr, Option.map_some, Option.map_none, List.map_cons, List.map_nil, if_true, if_false, Bool.not_true, Bool.not_false, Bool.false_eq_true, reduceIte, decide_true, decide_false, i64_lss, i64_leq, i64_gtr, i64_geq, i64_eql, i64_neq, i64_add, i64_sub, evC_draw, evLoud_nil, evLoud_one, az_mv, az_pick, az_bin, az_eqv, az_un, az_conv, az_mki, az_slc, az_sls, az_lens, az_ixs, az_fa, az_fld, az_ixa, az_ixp, az_ix, az_load, az_store, az_nchk, az_tas, az_ext, az_call, az_len, az_mn, az_mx, az_app, az_build, az_bsl, az_box, az_mks, az_cpy, az_rng, az_nxt, bk_mv, bk_pick, bk_bin, bk_eqv, bk_un, bk_mki, bk_slc, bk_sls, bk_lens, bk_ixs, bk_fa, bk_fld, bk_ixa, bk_ixp, bk_ix, bk_store, bk_nchk, bk_tas, bk_ext, bk_call, bk_len, bk_mn, bk_mx, bk_app, bk_build, bk_bsl, bk_box, bk_mks, bk_cpy, bk_rng, bk_nxt, bk_alloc, reserve_nil, reserve_none, reserve_gd, reserve_alloc, contL_some, evLoud_gd, gdL_tt, gdL_ft, gdL_tf, gdL_ff, gdL_un, evLoud_alloc, placeR, b16_not, b16_eql, str_eql, str_neq, u8_eql, u8_neq, eqAV, eqFl, eqSc, beq_self_eq_true]
  rw [drawR_ok]; case h => exact calm_quiet (by simp only [List.map_cons, List.map_nil]; decide +kernel)
  simp only [env0, List.length_cons, List.length_nil, Nat.reduceAdd, Nat.reduceSub, List.replicate, List.cons_append, List.nil_append, evC_seq, evC_reg, evC_skip, evC_exit, evC_ret, evC_block, evC_condX, condX_true, condX_false, evOps_nil, evOps_one, contR_some, evOps_gd, gdR_tt, gdR_ft, gdR_tf, gdR_ff, gdR_un, bq_true, bq_false, ev1_mv, ev1_pick, ev1_bin, ev1_eqv, ev1_un, un_not, ev1_mki, ev1_slc, ev1_lenV, ev1_ixaV, ev1_appV, ev1_load, ev1_call, ev1_mn, ev1_mx, ev1_conv, ev1_alloc, ev1_storeV, ev1_bslR, bslR_sl, bslR_hs, fill_nil, fill_cons, fill1_u8a, fill1_u8b, fill1_ca, fill1_cb, thenO_some, loadR_rp, opd, Env.put, Env.at, seqR_nrm, seqR_exit, seqR_ret, regR_some, List.set_cons_zero, List.set_cons_succ, List.getD_cons_zero, List.getD_cons_succ, pR_some, wR_some, callR_some, freezeL, freeze_int, freeze_bool, freeze_str, freeze_u16, freeze_u8, freeze_ptr, freeze_nils, boolR_true, boolR_false, blockR_nrm, blockR_exit, blockR_ret, outR_ret, outR_nrm, resVs, resV_tmp, oneOr, Option.map_some, Option.map_none, List.map_cons, List.map_nil, if_true, if_false, Bool.not_true, Bool.not_false, Bool.false_eq_true, reduceIte, decide_true, decide_false, i64_lss, i64_leq, i64_gtr, i64_geq, i64_eql, i64_neq, i64_add, i64_sub]
  rfl
end Go.Proofs.Ytghfinbdgnggjaa.rxCut
