/- What the evaluator says of the law CrcAll: true. No conditions. -/
import Derived.Test.YtghfinbdgnggjaaBegun
import Derived.Test.YtghfinbdgnggjaaMb
namespace Go.Proofs.Ytghfinbdgnggjaa.crcAll
open Go Go.Ab
set_option linter.unusedVariables false
set_option linter.unusedSimpArgs false
set_option maxRecDepth 100000 in
theorem says (b0 : List UInt8) {x0 : Ab.AV} (hx0 : Ab.IsBytes x0 b0) (c1 : BitVec 16) (c2 : UInt8) : Ab.saysTrue (ev 1000 4 [x0, Ab.u16 c1, Ab.u8v c2] Ab.St.nil) = true := by
  obtain ⟨s1, hb⟩ := begun_ev
  obtain ⟨y, s2, h1, h2, h3⟩ : ∃ y s', ev 999 20 [x0, .int .i64 200] s1 = some (y, s') ∧ Own s1 s' y (b0.take 200) ∧ Ext s1 s' := short_ev hx0.bys 998 200 (by omega) s1
  have hlen : (b0.take 200).length ≤ 200 := by simp; omega
  generalize b0.take 200 = b at h2 hlen
  have hy := h2.bys
  have o1 : ∀ s, ev 999 21 [y] s = some (u16 (crcOf b), s) := fun s => ofB hy 978 (by omega) (by omega) s
  have o2 : ∀ s, ev 999 22 [y] s = some (u16 (crcOf b), s) := fun s => refOfB hy 978 (by omega) (by omega) s
  have a1 : ∀ s, ev 999 23 [u16 c1, u8v c2] s = some (u16 (crcAdd c1 c2), s) := fun s => add_ev 979 c1 c2 s
  have a2 : ∀ s, ev 999 24 [u16 c1, u8v c2] s = some (u16 (crcAdd c1 c2), s) := fun s => refAdd_ev 979 c1 c2 s
  obtain ⟨z3, s3, p1, p2, p3⟩ : ∃ y' s', ev 999 25 [y] s2 = some (y', s') ∧ Own s2 s' y' (crcPut b) ∧ Ext s2 s' := put_ev hy 969 (by omega) (by omega) s2
  obtain ⟨z4, s4, q1, q2, q3⟩ : ∃ y' s', ev 999 26 [y] s3 = some (y', s') ∧ Own s3 s' y' (crcPut b) ∧ Ext s3 s' := refPut_ev hy 969 (by omega) (by omega) s3
  obtain ⟨z5, s5, r1, r2, r3⟩ : ∃ y' s', ev 999 25 [y] s4 = some (y', s') ∧ Own s4 s' y' (crcPut b) ∧ Ext s4 s' := put_ev hy 969 (by omega) (by omega) s4
  obtain ⟨s6, t1, t3⟩ : ∃ s', ev 999 27 [z5] s5 = some (.bool (crcFine (crcPut b)), s') ∧ Ext s5 s' := fine_ev r2.bys 968 (by rw [crcPut_length]; omega) (by rw [crcPut_length]; omega) s5
  obtain ⟨s7, f1, f3⟩ : ∃ s', ev 999 27 [y] s6 = some (.bool (crcFine b), s') ∧ Ext s6 s' := fine_ev hy 968 (by omega) (by omega) s6
  obtain ⟨s8, g1, g3⟩ : ∃ s', ev 999 28 [y] s7 = some (.bool (crcFine b), s') ∧ Ext s7 s' := refFine_ev hy 968 (by omega) (by omega) s7
  rw [crcFine_put] at t1
  rw [show (1000 : Nat) = 999 + 1 from rfl, ev_in rfl tab4]
  simp only [M4, hb, hx0.bys.freeze, h1, hy.freeze, o1, o2, a1, a2, p1, q1, r1, t1, f1, g1, p2.bys.str, q2.bys.str, p2.bys.freeze, r2.bys.freeze, b16_eql, str_eql, eqAV, eqFl, eqSc, beq_self_eq_true, env0, List.length_cons, List.length_nil, Nat.reduceAdd, Nat.reduceSub, List.replicate, List.cons_append, List.nil_append, evC_seq, evC_reg, evC_skip, evC_exit, evC_ret, evC_block, evC_condX, condX_true, condX_false, evOps_nil, evOps_one, contR_some, evOps_gd, gdR_tt, gdR_ft, gdR_tf, gdR_ff, gdR_un, bq_true, bq_false, ev1_mv, ev1_pick, ev1_bin, ev1_eqv, ev1_un, un_not, ev1_mki, ev1_slc, ev1_lenV, ev1_ixaV, ev1_appV, ev1_load, ev1_call, ev1_mn, ev1_mx, ev1_conv, ev1_alloc, ev1_storeV, ev1_bslR, bslR_sl, bslR_hs, fill_nil, fill_cons, fill1_u8a, fill1_u8b, fill1_ca, fill1_cb, thenO_some, loadR_rp, opd, Env.put, Env.at, seqR_nrm, seqR_exit, seqR_ret, regR_some, List.set_cons_zero, List.set_cons_succ, List.getD_cons_zero, List.getD_cons_succ, pR_some, wR_some, callR_some, freezeL, freeze_int, freeze_bool, freeze_str, freeze_u16, freeze_u8, freeze_ptr, freeze_nils, boolR_true, boolR_false, blockR_nrm, blockR_exit, blockR_ret, outR_ret, outR_nrm, resVs, resV_tmp, oneOr, Option.map_some, Option.map_none, List.map_cons, List.map_nil, if_true, if_false, Bool.not_true, Bool.not_false, Bool.false_eq_true, reduceIte, decide_true, decide_false, i64_lss, i64_leq, i64_gtr, i64_geq, i64_eql, i64_neq, i64_add, i64_sub, evC_draw, evLoud_nil, evLoud_one, az_mv, az_pick, az_bin, az_eqv, az_un, az_conv, az_mki, az_slc, az_sls, az_lens, az_ixs, az_fa, az_fld, az_ixa, az_ixp, az_ix, az_load, az_store, az_nchk, az_tas, az_ext, az_call, az_len, az_mn, az_mx, az_app, az_build, az_bsl, az_box, az_mks, az_cpy, az_rng, az_nxt, bk_mv, bk_pick, bk_bin, bk_eqv, bk_un, bk_mki, bk_slc, bk_sls, bk_lens, bk_ixs, bk_fa, bk_fld, bk_ixa, bk_ixp, bk_ix, bk_store, bk_nchk, bk_tas, bk_ext, bk_call, bk_len, bk_mn, bk_mx, bk_app, bk_build, bk_bsl, bk_box, bk_mks, bk_cpy, bk_rng, bk_nxt, bk_alloc, reserve_nil, reserve_none, reserve_gd, reserve_alloc, contL_some, evLoud_gd, gdL_tt, gdL_ft, gdL_tf, gdL_ff, gdL_un, evLoud_alloc, placeR]
  rw [drawR_ok]; case h => exact calm_quiet (by simp only [List.map_cons, List.map_nil]; decide +kernel)
  simp only [env0, List.length_cons, List.length_nil, Nat.reduceAdd, Nat.reduceSub, List.replicate, List.cons_append, List.nil_append, evC_seq, evC_reg, evC_skip, evC_exit, evC_ret, evC_block, evC_condX, condX_true, condX_false, evOps_nil, evOps_one, contR_some, evOps_gd, gdR_tt, gdR_ft, gdR_tf, gdR_ff, gdR_un, bq_true, bq_false, ev1_mv, ev1_pick, ev1_bin, ev1_eqv, ev1_un, un_not, ev1_mki, ev1_slc, ev1_lenV, ev1_ixaV, ev1_appV, ev1_load, ev1_call, ev1_mn, ev1_mx, ev1_conv, ev1_alloc, ev1_storeV, ev1_bslR, bslR_sl, bslR_hs, fill_nil, fill_cons, fill1_u8a, fill1_u8b, fill1_ca, fill1_cb, thenO_some, loadR_rp, opd, Env.put, Env.at, seqR_nrm, seqR_exit, seqR_ret, regR_some, List.set_cons_zero, List.set_cons_succ, List.getD_cons_zero, List.getD_cons_succ, pR_some, wR_some, callR_some, freezeL, freeze_int, freeze_bool, freeze_str, freeze_u16, freeze_u8, freeze_ptr, freeze_nils, boolR_true, boolR_false, blockR_nrm, blockR_exit, blockR_ret, outR_ret, outR_nrm, resVs, resV_tmp, oneOr, Option.map_some, Option.map_none, List.map_cons, List.map_nil, if_true, if_false, Bool.not_true, Bool.not_false, Bool.false_eq_true, reduceIte, decide_true, decide_false, i64_lss, i64_leq, i64_gtr, i64_geq, i64_eql, i64_neq, i64_add, i64_sub]
  rfl
end Go.Proofs.Ytghfinbdgnggjaa.crcAll
