/- What the evaluator says of the law SirBack: true. No conditions. -/
import Derived.Test.YtghfinbdgnggjaaBegun
import Derived.Test.YtghfinbdgnggjaaLoop8
namespace Go.Proofs.Ytghfinbdgnggjaa.sirBack
open Go Go.Ab
set_option linter.unusedVariables false
set_option linter.unusedSimpArgs false
set_option maxRecDepth 100000 in
theorem says (b0 : List UInt8) {x0 : Ab.AV} (hx0 : Ab.IsBytes x0 b0) (b1 : List UInt8) {x1 : Ab.AV} (hx1 : Ab.IsBytes x1 b1) (b2 : List UInt8) {x2 : Ab.AV} (hx2 : Ab.IsBytes x2 b2) (n3 : Int) (hn3 : -9223372036854775808 ≤ n3 ∧ n3 ≤ 9223372036854775807) : Ab.saysTrue (ev 1000 8 [x0, x1, x2, .int .i64 n3] Ab.St.nil) = true := by
  obtain ⟨s1, hb⟩ := begun_ev
  obtain ⟨y, s2, h1, h2, h3⟩ : ∃ y s', ev 999 20 [x0, .int .i64 90] s1 = some (y, s') ∧ Own s1 s' y (b0.take 90) ∧ Ext s1 s' := short_ev hx0.bys 998 90 (by omega) s1
  obtain ⟨z, s3, g1, g2, g3⟩ : ∃ y s', ev 999 20 [x1, .int .i64 30] s2 = some (y, s') ∧ Own s2 s' y (b1.take 30) ∧ Ext s2 s' := short_ev hx1.bys 998 30 (by omega) s2
  obtain ⟨u, s4, u1, u2, u3⟩ : ∃ y s', ev 999 20 [x2, .int .i64 30] s3 = some (y, s') ∧ Own s3 s' y (b2.take 30) ∧ Ext s3 s' := short_ev hx2.bys 998 30 (by omega) s3
  have hlen : (b0.take 90).length ≤ 90 := by simp; omega
  have hlen' : (b1.take 30).length ≤ 30 := by simp; omega
  have hlen'' : (b2.take 30).length ≤ 30 := by simp; omega
  generalize b0.take 90 = b at h2 hlen
  generalize b1.take 30 = a at g2 hlen'
  generalize b2.take 30 = c at u2 hlen''
  have hy := h2.bys
  have hz := g2.bys
  have hu := u2.bys
  obtain ⟨w, s5, p1, p2, p3⟩ : ∃ y' s', ev 999 29 [y, .int .i64 n3] s4 = some (y', s') ∧ Own s4 s' y' (wrapB b n3) ∧ Ext s4 s' := wrap_ev hy n3 968 (by omega) (by omega) s4
  have hw := p2.bys
  have e1 := esc_length (crcPut b)
  have e2 := esc_length b
  rw [crcPut_length] at e1
  have hwl : (wrapB b n3).length = ahead n3 + 2 + (esc (crcPut b)).length := by simp [wrapB]; omega
  have hal := ahead_le n3
  obtain ⟨y5, s6, d1, d2, d3⟩ := Own.app0 s5 hz (by omega)
  obtain ⟨y6, s7, f1, f2, f3⟩ := d2.app hw d3 (by omega)
  obtain ⟨y7, s8, r1, r2, r3⟩ := f2.app hu f3 (by simp; omega)
  obtain ⟨o, s9, ys, t1, t2, t3, t4⟩ : ∃ o s' ys, ev 999 35 [.int .i64 100, y7] s8 = some (o, s') ∧ IsL o ys ∧ AllBys ys (rxAll 100 (a ++ wrapB b n3 ++ c)) ∧ Ext s8 s' := rxAll_ev r2.bys 100 964 (by simp; omega) (by simp; omega) s8
  have hys : ys.length ≤ 900 := by
    rw [t3.length]
    have := rxAll_le 100 (a ++ wrapB b n3 ++ c)
    simp only [List.length_append] at this
    omega
  obtain ⟨y8, s10, k1, k2, k3⟩ : ∃ y' s', ev 999 33 [y] s9 = some (y', s') ∧ Own s9 s' y' (abortB b) ∧ Ext s9 s' := abort_ev hy 968 (by omega) (by omega) s9
  obtain ⟨o2, s11, ys2, v1, v2, v3, v4⟩ : ∃ o s' ys, ev 999 35 [.int .i64 100, y8] s10 = some (o, s') ∧ IsL o ys ∧ AllBys ys (rxAll 100 (abortB b)) ∧ Ext s10 s' := rxAll_ev k2.bys 100 964 (by simp [abortB]; omega) (by simp [abortB]; omega) s10
  have hys2 : ys2.length = 0 := by rw [v3.length, rx_abort b (by omega)]; rfl
  have q0 : (((b.length : Nat) : Int) > 0) = (0 < b.length) := by apply propext; omega
  have q3 : (((2 : Nat) : Int) == 2) = true := rfl
  have q4 : (((0 : Nat) : Int) == 0) = true := rfl
  have q1 := rx_back a c b n3 hlen
  have q2 := ends_count b n3
  have lp1 := loop8a hy w t2 t3 hys s9
  have lp2 := loop8b y hw (decide (0 < b.length)) (by omega) s9
  rw [q1] at lp1
  rw [q2] at lp2
  rw [show (1000 : Nat) = 999 + 1 from rfl, ev_in rfl tab8]
  simp only [M8, hb, hx0.bys.freeze, hx1.bys.freeze, hx2.bys.freeze, h1, g1, u1, hy.freeze, p1, d1, f1, r1, r2.bys.freeze, t1, t2.len, evC_loop, env0, List.length_cons, List.length_nil, Nat.reduceAdd, Nat.reduceSub, List.replicate, List.cons_append, List.nil_append, evC_seq, evC_reg, evC_skip, evC_exit, evC_ret, evC_block, evC_condX, condX_true, condX_false, evOps_nil, evOps_one, contR_some, evOps_gd, gdR_tt, gdR_ft, gdR_tf, gdR_ff, gdR_un, bq_true, bq_false, ev1_mv, ev1_pick, ev1_bin, ev1_eqv, ev1_un, un_not, ev1_mki, ev1_slc, ev1_lenV, ev1_ixaV, ev1_appV, ev1_load, ev1_call, ev1_mn, ev1_mx, ev1_conv, ev1_alloc, ev1_storeV, ev1_bslR, bslR_sl, bslR_hs, fill_nil, fill_cons, fill1_u8a, fill1_u8b, fill1_ca, fill1_cb, thenO_some, loadR_rp, opd, Env.put, Env.at, seqR_nrm, seqR_exit, seqR_ret, regR_some, List.set_cons_zero, List.set_cons_succ, List.getD_cons_zero, List.getD_cons_succ, pR_some, wR_some, callR_some, freezeL, freeze_int, freeze_bool, freeze_str, freeze_u16, freeze_u8, freeze_ptr, freeze_nils, boolR_true, boolR_false, blockR_nrm, blockR_exit, blockR_ret, outR_ret, outR_nrm, resVs, resV_tmp, oneOr, Option.map_some, Option.map_none, List.map_cons, List.map_nil, if_true, if_false, Bool.not_true, Bool.not_false, Bool.false_eq_true, reduceIte, decide_true, decide_false, i64_lss, i64_leq, i64_gtr, i64_geq, i64_eql, i64_neq, i64_add, i64_sub]
  rw [lp1 _ rfl]
  simp only [M8b1, E8a, List.replicate, List.cons_append, List.nil_append, Int.lt_irrefl, hw.len, evC_loop, env0, List.length_cons, List.length_nil, Nat.reduceAdd, Nat.reduceSub, List.replicate, List.cons_append, List.nil_append, evC_seq, evC_reg, evC_skip, evC_exit, evC_ret, evC_block, evC_condX, condX_true, condX_false, evOps_nil, evOps_one, contR_some, evOps_gd, gdR_tt, gdR_ft, gdR_tf, gdR_ff, gdR_un, bq_true, bq_false, ev1_mv, ev1_pick, ev1_bin, ev1_eqv, ev1_un, un_not, ev1_mki, ev1_slc, ev1_lenV, ev1_ixaV, ev1_appV, ev1_load, ev1_call, ev1_mn, ev1_mx, ev1_conv, ev1_alloc, ev1_storeV, ev1_bslR, bslR_sl, bslR_hs, fill_nil, fill_cons, fill1_u8a, fill1_u8b, fill1_ca, fill1_cb, thenO_some, loadR_rp, opd, Env.put, Env.at, seqR_nrm, seqR_exit, seqR_ret, regR_some, List.set_cons_zero, List.set_cons_succ, List.getD_cons_zero, List.getD_cons_succ, pR_some, wR_some, callR_some, freezeL, freeze_int, freeze_bool, freeze_str, freeze_u16, freeze_u8, freeze_ptr, freeze_nils, boolR_true, boolR_false, blockR_nrm, blockR_exit, blockR_ret, outR_ret, outR_nrm, resVs, resV_tmp, oneOr, Option.map_some, Option.map_none, List.map_cons, List.map_nil, if_true, if_false, Bool.not_true, Bool.not_false, Bool.false_eq_true, reduceIte, decide_true, decide_false, i64_lss, i64_leq, i64_gtr, i64_geq, i64_eql, i64_neq, i64_add, i64_sub]
  rw [lp2 _ rfl]
  simp only [M8b0, E8b, List.replicate, List.cons_append, List.nil_append, Int.lt_irrefl, hy.len, hy.freeze, q0, k1, k2.bys.freeze, v1, v2.len, hys2, q3, q4, env0, List.length_cons, List.length_nil, Nat.reduceAdd, Nat.reduceSub, List.replicate, List.cons_append, List.nil_append, evC_seq, evC_reg, evC_skip, evC_exit, evC_ret, evC_block, evC_condX, condX_true, condX_false, evOps_nil, evOps_one, contR_some, evOps_gd, gdR_tt, gdR_ft, gdR_tf, gdR_ff, gdR_un, bq_true, bq_false, ev1_mv, ev1_pick, ev1_bin, ev1_eqv, ev1_un, un_not, ev1_mki, ev1_slc, ev1_lenV, ev1_ixaV, ev1_appV, ev1_load, ev1_call, ev1_mn, ev1_mx, ev1_conv, ev1_alloc, ev1_storeV, ev1_bslR, bslR_sl, bslR_hs, fill_nil, fill_cons, fill1_u8a, fill1_u8b, fill1_ca, fill1_cb, thenO_some, loadR_rp, opd, Env.put, Env.at, seqR_nrm, seqR_exit, seqR_ret, regR_some, List.set_cons_zero, List.set_cons_succ, List.getD_cons_zero, List.getD_cons_succ, pR_some, wR_some, callR_some, freezeL, freeze_int, freeze_bool, freeze_str, freeze_u16, freeze_u8, freeze_ptr, freeze_nils, boolR_true, boolR_false, blockR_nrm, blockR_exit, blockR_ret, outR_ret, outR_nrm, resVs, resV_tmp, oneOr, Option.map_some, Option.map_none, List.map_cons, List.map_nil, if_true, if_false, Bool.not_true, Bool.not_false, Bool.false_eq_true, reduceIte, decide_true, decide_false, i64_lss, i64_leq, i64_gtr, i64_geq, i64_eql, i64_neq, i64_add, i64_sub, b16_not, b16_eql, str_eql, str_neq, u8_eql, u8_neq, eqAV, eqFl, eqSc, beq_self_eq_true]
  rfl
end Go.Proofs.Ytghfinbdgnggjaa.sirBack
