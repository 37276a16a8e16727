/- What the evaluator says of the law SirEscape: true. No conditions. -/
import Derived.Test.YtghfinbdgnggjaaBegun
import Derived.Test.YtghfinbdgnggjaaLoop15
namespace Go.Proofs.Ytghfinbdgnggjaa.sirEscape
open Go Go.Ab
set_option linter.unusedVariables false
set_option linter.unusedSimpArgs false
set_option maxRecDepth 100000 in
theorem says (b0 : List UInt8) {x0 : Ab.AV} (hx0 : Ab.IsBytes x0 b0) (b1 : List UInt8) {x1 : Ab.AV} (hx1 : Ab.IsBytes x1 b1) : Ab.saysTrue (ev 1000 15 [x0, x1] Ab.St.nil) = true := by
  obtain ⟨s1, hb⟩ := begun_ev
  obtain ⟨y, s2, h1, h2, h3⟩ : ∃ y s', ev 999 20 [x0, .int .i64 60] s1 = some (y, s') ∧ Own s1 s' y (b0.take 60) ∧ Ext s1 s' := short_ev hx0.bys 998 60 (by omega) s1
  obtain ⟨z, s3, g1, g2, g3⟩ : ∃ y s', ev 999 20 [x1, .int .i64 60] s2 = some (y, s') ∧ Own s2 s' y (b1.take 60) ∧ Ext s2 s' := short_ev hx1.bys 998 60 (by omega) s2
  have hlen : (b0.take 60).length ≤ 60 := by simp; omega
  have hlen' : (b1.take 60).length ≤ 60 := by simp; omega
  generalize b0.take 60 = a at h2 hlen
  generalize b1.take 60 = b at g2 hlen'
  have hy := h2.bys
  have hz := g2.bys
  obtain ⟨zc, s4, c1, c2, c3⟩ := Own.app0 s3 hy (by omega)
  obtain ⟨zd, s5, d1, d2, d3⟩ := c2.app hz c3 (by omega)
  obtain ⟨ze, s6, e1, e2, e3⟩ : ∃ y' s', ev 999 31 [zd] s5 = some (y', s') ∧ Own s5 s' y' (esc (a ++ b)) ∧ Ext s5 s' := escape_ev d2.bys 998 (by simp; omega) (by simp; omega) s5
  obtain ⟨zf, s7, f1, f2, f3⟩ : ∃ y' s', ev 999 31 [y] s6 = some (y', s') ∧ Own s6 s' y' (esc a) ∧ Ext s6 s' := escape_ev hy 998 (by omega) (by omega) s6
  obtain ⟨zg, s8, k1, k2, k3⟩ : ∃ y' s', ev 999 31 [z] s7 = some (y', s') ∧ Own s7 s' y' (esc b) ∧ Ext s7 s' := escape_ev hz 998 (by omega) (by omega) s7
  have l1 := esc_length a
  have l2 := esc_length b
  have l3 := esc_length (a ++ b)
  rw [List.length_append] at l3
  obtain ⟨zh, s9, m1, m2, m3⟩ := (f2.ext k3).app k2.bys (f3.trans k3) (by omega)
  have happ : esc (a ++ b) = esc a ++ esc b := by simp [esc]
  have loop := loop15 y z e2.bys (by omega) s6
  rw [show (1000 : Nat) = 999 + 1 from rfl, ev_in rfl tab15]
  simp only [M15, hb, hx0.bys.freeze, hx1.bys.freeze, h1, g1, hy.freeze, hz.freeze, c1, d1, d2.bys.freeze, e1, e2.bys.len, evC_loop, env0, List.length_cons, List.length_nil, Nat.reduceAdd, Nat.reduceSub, List.replicate, List.cons_append, List.nil_append, evC_seq, evC_reg, evC_skip, evC_exit, evC_ret, evC_block, evC_condX, condX_true, condX_false, evOps_nil, evOps_one, contR_some, evOps_gd, gdR_tt, gdR_ft, gdR_tf, gdR_ff, gdR_un, bq_true, bq_false, ev1_mv, ev1_pick, ev1_bin, ev1_eqv, ev1_un, un_not, ev1_mki, ev1_slc, ev1_lenV, ev1_ixaV, ev1_appV, ev1_load, ev1_call, ev1_mn, ev1_mx, ev1_conv, ev1_alloc, ev1_storeV, ev1_bslR, bslR_sl, bslR_hs, fill_nil, fill_cons, fill1_u8a, fill1_u8b, fill1_ca, fill1_cb, thenO_some, loadR_rp, opd, Env.put, Env.at, seqR_nrm, seqR_exit, seqR_ret, regR_some, List.set_cons_zero, List.set_cons_succ, List.getD_cons_zero, List.getD_cons_succ, pR_some, wR_some, callR_some, freezeL, freeze_int, freeze_bool, freeze_str, freeze_u16, freeze_u8, freeze_ptr, freeze_nils, boolR_true, boolR_false, blockR_nrm, blockR_exit, blockR_ret, outR_ret, outR_nrm, resVs, resV_tmp, oneOr, Option.map_some, Option.map_none, List.map_cons, List.map_nil, if_true, if_false, Bool.not_true, Bool.not_false, Bool.false_eq_true, reduceIte, decide_true, decide_false, i64_lss, i64_leq, i64_gtr, i64_geq, i64_eql, i64_neq, i64_add, i64_sub]
  rw [loop _ rfl]
  simp only [M15b0, E15, Int.lt_irrefl, e2.bys.str, hy.freeze, hz.freeze, f1, k1, m1, m2.bys.str, happ, env0, List.length_cons, List.length_nil, Nat.reduceAdd, Nat.reduceSub, List.replicate, List.cons_append, List.nil_append, evC_seq, evC_reg, evC_skip, evC_exit, evC_ret, evC_block, evC_condX, condX_true, condX_false, evOps_nil, evOps_one, contR_some, evOps_gd, gdR_tt, gdR_ft, gdR_tf, gdR_ff, gdR_un, bq_true, bq_false, ev1_mv, ev1_pick, ev1_bin, ev1_eqv, ev1_un, un_not, ev1_mki, ev1_slc, ev1_lenV, ev1_ixaV, ev1_appV, ev1_load, ev1_call, ev1_mn, ev1_mx, ev1_conv, ev1_alloc, ev1_storeV, ev1_bslR, bslR_sl, bslR_hs, fill_nil, fill_cons, fill1_u8a, fill1_u8b, fill1_ca, fill1_cb, thenO_some, loadR_rp, opd, Env.put, Env.at, seqR_nrm, seqR_exit, seqR_ret, regR_some, List.set_cons_zero, List.set_cons_succ, List.getD_cons_zero, List.getD_cons_succ, pR_some, wR_some, callR_some, freezeL, freeze_int, freeze_bool, freeze_str, freeze_u16, freeze_u8, freeze_ptr, freeze_nils, boolR_true, boolR_false, blockR_nrm, blockR_exit, blockR_ret, outR_ret, outR_nrm, resVs, resV_tmp, oneOr, Option.map_some, Option.map_none, List.map_cons, List.map_nil, if_true, if_false, Bool.not_true, Bool.not_false, Bool.false_eq_true, reduceIte, decide_true, decide_false, i64_lss, i64_leq, i64_gtr, i64_geq, i64_eql, i64_neq, i64_add, i64_sub, evC_draw, evLoud_nil, evLoud_one, az_mv, az_pick, az_bin, az_eqv, az_un, az_conv, az_mki, az_slc, az_sls, az_lens, az_ixs, az_fa, az_fld, az_ixa, az_ixp, az_ix, az_load, az_store, az_nchk, az_tas, az_ext, az_call, az_len, az_mn, az_mx, az_app, az_build, az_bsl, az_box, az_mks, az_cpy, az_rng, az_nxt, bk_mv, bk_pick, bk_bin, bk_eqv, bk_un, bk_mki, bk_slc, bk_sls, bk_lens, bk_ixs, bk_fa, bk_fld, bk_ixa, bk_ixp, bk_ix, bk_store, bk_nchk, bk_tas, bk_ext, bk_call, bk_len, bk_mn, bk_mx, bk_app, bk_build, bk_bsl, bk_box, bk_mks, bk_cpy, bk_rng, bk_nxt, bk_alloc, reserve_nil, reserve_none, reserve_gd, reserve_alloc, contL_some, evLoud_gd, gdL_tt, gdL_ft, gdL_tf, gdL_ff, gdL_un, evLoud_alloc, placeR, b16_not, b16_eql, str_eql, str_neq, u8_eql, u8_neq, eqAV, eqFl, eqSc, beq_self_eq_true]
  rw [drawR_ok]; case h => exact calm_quiet (by simp only [List.map_cons, List.map_nil]; decide +kernel)
  simp only [env0, List.length_cons, List.length_nil, Nat.reduceAdd, Nat.reduceSub, List.replicate, List.cons_append, List.nil_append, evC_seq, evC_reg, evC_skip, evC_exit, evC_ret, evC_block, evC_condX, condX_true, condX_false, evOps_nil, evOps_one, contR_some, evOps_gd, gdR_tt, gdR_ft, gdR_tf, gdR_ff, gdR_un, bq_true, bq_false, ev1_mv, ev1_pick, ev1_bin, ev1_eqv, ev1_un, un_not, ev1_mki, ev1_slc, ev1_lenV, ev1_ixaV, ev1_appV, ev1_load, ev1_call, ev1_mn, ev1_mx, ev1_conv, ev1_alloc, ev1_storeV, ev1_bslR, bslR_sl, bslR_hs, fill_nil, fill_cons, fill1_u8a, fill1_u8b, fill1_ca, fill1_cb, thenO_some, loadR_rp, opd, Env.put, Env.at, seqR_nrm, seqR_exit, seqR_ret, regR_some, List.set_cons_zero, List.set_cons_succ, List.getD_cons_zero, List.getD_cons_succ, pR_some, wR_some, callR_some, freezeL, freeze_int, freeze_bool, freeze_str, freeze_u16, freeze_u8, freeze_ptr, freeze_nils, boolR_true, boolR_false, blockR_nrm, blockR_exit, blockR_ret, outR_ret, outR_nrm, resVs, resV_tmp, oneOr, Option.map_some, Option.map_none, List.map_cons, List.map_nil, if_true, if_false, Bool.not_true, Bool.not_false, Bool.false_eq_true, reduceIte, decide_true, decide_false, i64_lss, i64_leq, i64_gtr, i64_geq, i64_eql, i64_neq, i64_add, i64_sub]
  rfl
end Go.Proofs.Ytghfinbdgnggjaa.sirEscape
