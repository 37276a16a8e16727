/- What the evaluator says of the law CrcJoin: true. No conditions. -/
import Derived.Test.YtghfinbdgnggjaaBegun
import Derived.Test.YtghfinbdgnggjaaLoop6
namespace Go.Proofs.Ytghfinbdgnggjaa.crcJoin
open Go Go.Ab
set_option linter.unusedVariables false
set_option linter.unusedSimpArgs false
set_option maxRecDepth 100000 in
theorem says (b0 : List UInt8) {x0 : Ab.AV} (hx0 : Ab.IsBytes x0 b0) (b1 : List UInt8) {x1 : Ab.AV} (hx1 : Ab.IsBytes x1 b1) : Ab.saysTrue (ev 1000 6 [x0, x1] Ab.St.nil) = true := by
  obtain ⟨s1, hb⟩ := begun_ev
  obtain ⟨y, s2, h1, h2, h3⟩ : ∃ y s', ev 999 20 [x0, .int .i64 60] s1 = some (y, s') ∧ Own s1 s' y (b0.take 60) ∧ Ext s1 s' := short_ev hx0.bys 998 60 (by omega) s1
  obtain ⟨z, s3, g1, g2, g3⟩ : ∃ y s', ev 999 20 [x1, .int .i64 60] s2 = some (y, s') ∧ Own s2 s' y (b1.take 60) ∧ Ext s2 s' := short_ev hx1.bys 998 60 (by omega) s2
  have hlen : (b0.take 60).length ≤ 60 := by simp; omega
  have hlen' : (b1.take 60).length ≤ 60 := by simp; omega
  generalize b0.take 60 = a at h2 hlen
  generalize b1.take 60 = b at g2 hlen'
  have hy := h2.bys
  have hz := g2.bys
  obtain ⟨zc, s4, c1, c2, c3⟩ := Own.app0 s3 hy (by omega)
  obtain ⟨zd, s5, d1, d2, d3⟩ := c2.app hz c3 (by omega)
  have of' : ∀ {x : AV} {xs : List UInt8} (hx : Bys x xs) (hl : xs.length ≤ 900) (s : St), ev 999 21 [x] s = some (u16 (crcOf xs), s) := fun hx hl s => ofB hx 978 (by omega) (by omega) s
  have o1 := of' hy (by omega)
  have o2 := of' d2.bys (by simp; omega)
  have e2 : ~~~(crcFold (~~~crcOf a) b) = crcOf (a ++ b) := by
    simp only [crcOf, crcFold, List.foldl_append, BitVec.not_not]
  rw [show (1000 : Nat) = 999 + 1 from rfl, ev_in rfl tab6]
  simp only [M6, hb, hx0.bys.freeze, hx1.bys.freeze, h1, g1, hy.freeze, hz.len, o1, b16_not, evC_loop, env0, List.length_cons, List.length_nil, Nat.reduceAdd, Nat.reduceSub, List.replicate, List.cons_append, List.nil_append, evC_seq, evC_reg, evC_skip, evC_exit, evC_ret, evC_block, evC_condX, condX_true, condX_false, evOps_nil, evOps_one, contR_some, evOps_gd, gdR_tt, gdR_ft, gdR_tf, gdR_ff, gdR_un, bq_true, bq_false, ev1_mv, ev1_pick, ev1_bin, ev1_eqv, ev1_un, un_not, ev1_mki, ev1_slc, ev1_lenV, ev1_ixaV, ev1_appV, ev1_load, ev1_call, ev1_mn, ev1_mx, ev1_conv, ev1_alloc, ev1_storeV, ev1_bslR, bslR_sl, bslR_hs, fill_nil, fill_cons, fill1_u8a, fill1_u8b, fill1_ca, fill1_cb, thenO_some, loadR_rp, opd, Env.put, Env.at, seqR_nrm, seqR_exit, seqR_ret, regR_some, List.set_cons_zero, List.set_cons_succ, List.getD_cons_zero, List.getD_cons_succ, pR_some, wR_some, callR_some, freezeL, freeze_int, freeze_bool, freeze_str, freeze_u16, freeze_u8, freeze_ptr, freeze_nils, boolR_true, boolR_false, blockR_nrm, blockR_exit, blockR_ret, outR_ret, outR_nrm, resVs, resV_tmp, oneOr, Option.map_some, Option.map_none, List.map_cons, List.map_nil, if_true, if_false, Bool.not_true, Bool.not_false, Bool.false_eq_true, reduceIte, decide_true, decide_false, i64_lss, i64_leq, i64_gtr, i64_geq, i64_eql, i64_neq, i64_add, i64_sub]
  rw [loop6 y z b hz hlen' _ _ _ _ rfl]
  simp only [M6b0, E6, Int.lt_irrefl, hy.freeze, c1, d1, d2.bys.freeze, o2, b16_not, b16_eql, e2, beq_self_eq_true, env0, List.length_cons, List.length_nil, Nat.reduceAdd, Nat.reduceSub, List.replicate, List.cons_append, List.nil_append, evC_seq, evC_reg, evC_skip, evC_exit, evC_ret, evC_block, evC_condX, condX_true, condX_false, evOps_nil, evOps_one, contR_some, evOps_gd, gdR_tt, gdR_ft, gdR_tf, gdR_ff, gdR_un, bq_true, bq_false, ev1_mv, ev1_pick, ev1_bin, ev1_eqv, ev1_un, un_not, ev1_mki, ev1_slc, ev1_lenV, ev1_ixaV, ev1_appV, ev1_load, ev1_call, ev1_mn, ev1_mx, ev1_conv, ev1_alloc, ev1_storeV, ev1_bslR, bslR_sl, bslR_hs, fill_nil, fill_cons, fill1_u8a, fill1_u8b, fill1_ca, fill1_cb, thenO_some, loadR_rp, opd, Env.put, Env.at, seqR_nrm, seqR_exit, seqR_ret, regR_some, List.set_cons_zero, List.set_cons_succ, List.getD_cons_zero, List.getD_cons_succ, pR_some, wR_some, callR_some, freezeL, freeze_int, freeze_bool, freeze_str, freeze_u16, freeze_u8, freeze_ptr, freeze_nils, boolR_true, boolR_false, blockR_nrm, blockR_exit, blockR_ret, outR_ret, outR_nrm, resVs, resV_tmp, oneOr, Option.map_some, Option.map_none, List.map_cons, List.map_nil, if_true, if_false, Bool.not_true, Bool.not_false, Bool.false_eq_true, reduceIte, decide_true, decide_false, i64_lss, i64_leq, i64_gtr, i64_geq, i64_eql, i64_neq, i64_add, i64_sub]
  rfl
end Go.Proofs.Ytghfinbdgnggjaa.crcJoin
