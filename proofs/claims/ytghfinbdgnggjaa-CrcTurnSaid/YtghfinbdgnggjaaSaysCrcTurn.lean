/- What the evaluator says of the law CrcTurn: true. No conditions. -/
import Derived.Test.YtghfinbdgnggjaaBegun
import Derived.Test.YtghfinbdgnggjaaLoop5
namespace Go.Proofs.Ytghfinbdgnggjaa.crcTurn
open Go Go.Ab
set_option linter.unusedVariables false
set_option linter.unusedSimpArgs false
set_option maxRecDepth 100000 in
theorem says (b0 : List UInt8) {x0 : Ab.AV} (hx0 : Ab.IsBytes x0 b0) (n1 : Int) (hn1 : -9223372036854775808 ≤ n1 ∧ n1 ≤ 9223372036854775807) (c2 : BitVec 16) : Ab.saysTrue (ev 1000 5 [x0, .int .i64 n1, Ab.u16 c2] Ab.St.nil) = true := by
  obtain ⟨s1, hb⟩ := begun_ev
  obtain ⟨y, s2, h1, h2, h3⟩ : ∃ y s', ev 999 20 [x0, .int .i64 100] s1 = some (y, s') ∧ Own s1 s' y (b0.take 100) ∧ Ext s1 s' := short_ev hx0.bys 998 100 (by omega) s1
  have hlen : (b0.take 100).length ≤ 100 := by simp; omega
  generalize b0.take 100 = b at h2 hlen
  have hy := h2.bys
  obtain ⟨z, s3, p1, p2, p3⟩ : ∃ y' s', ev 999 25 [y] s2 = some (y', s') ∧ Own s2 s' y' (crcPut b) ∧ Ext s2 s' := put_ev hy 969 (by omega) (by omega) s2
  have hz := p2.bys
  have hf := crcFine_put b
  have hpl := crcPut_length b
  generalize crcPut b = p at p2 hz hf hpl
  obtain ⟨s4, f1, f3⟩ : ∃ s', ev 999 27 [z] s3 = some (.bool (crcFine p), s') ∧ Ext s3 s' := fine_ev hz 968 (by omega) (by omega) s3
  rw [hf] at f1
  have e0 : binV .eql (u16 c2) (.int .u16 0) = some (.bool (c2 == 0#16)) := b16_eql c2 0#16
  rw [show (1000 : Nat) = 999 + 1 from rfl, ev_in rfl tab5]
  by_cases hn : n1 < 0
  · have h0 : (n1 < 0) = True := eq_true hn
    simp only [M5, hb, hx0.bys.freeze, h1, hy.freeze, p1, h0, hz.freeze, f1, env0, List.length_cons, List.length_nil, Nat.reduceAdd, Nat.reduceSub, List.replicate, List.cons_append, List.nil_append, evC_seq, evC_reg, evC_skip, evC_exit, evC_ret, evC_block, evC_condX, condX_true, condX_false, evOps_nil, evOps_one, contR_some, evOps_gd, gdR_tt, gdR_ft, gdR_tf, gdR_ff, gdR_un, bq_true, bq_false, ev1_mv, ev1_pick, ev1_bin, ev1_eqv, ev1_un, un_not, ev1_mki, ev1_slc, ev1_lenV, ev1_ixaV, ev1_appV, ev1_load, ev1_call, ev1_mn, ev1_mx, ev1_conv, ev1_alloc, ev1_storeV, ev1_bslR, bslR_sl, bslR_hs, fill_nil, fill_cons, fill1_u8a, fill1_u8b, fill1_ca, fill1_cb, thenO_some, loadR_rp, opd, Env.put, Env.at, seqR_nrm, seqR_exit, seqR_ret, regR_some, List.set_cons_zero, List.set_cons_succ, List.getD_cons_zero, List.getD_cons_succ, pR_some, wR_some, callR_some, freezeL, freeze_int, freeze_bool, freeze_str, freeze_u16, freeze_u8, freeze_ptr, freeze_nils, boolR_true, boolR_false, blockR_nrm, blockR_exit, blockR_ret, outR_ret, outR_nrm, resVs, resV_tmp, oneOr, Option.map_some, Option.map_none, List.map_cons, List.map_nil, if_true, if_false, Bool.not_true, Bool.not_false, Bool.false_eq_true, reduceIte, decide_true, decide_false, i64_lss, i64_leq, i64_gtr, i64_geq, i64_eql, i64_neq, i64_add, i64_sub]
    rfl
  have h0 : (n1 < 0) = False := eq_false hn
  by_cases hc : c2 = 0#16
  · have h0' : (c2 == 0#16) = true := by simp [hc]
    simp only [M5, hb, hx0.bys.freeze, h1, hy.freeze, p1, h0, e0, h0', hz.freeze, f1, env0, List.length_cons, List.length_nil, Nat.reduceAdd, Nat.reduceSub, List.replicate, List.cons_append, List.nil_append, evC_seq, evC_reg, evC_skip, evC_exit, evC_ret, evC_block, evC_condX, condX_true, condX_false, evOps_nil, evOps_one, contR_some, evOps_gd, gdR_tt, gdR_ft, gdR_tf, gdR_ff, gdR_un, bq_true, bq_false, ev1_mv, ev1_pick, ev1_bin, ev1_eqv, ev1_un, un_not, ev1_mki, ev1_slc, ev1_lenV, ev1_ixaV, ev1_appV, ev1_load, ev1_call, ev1_mn, ev1_mx, ev1_conv, ev1_alloc, ev1_storeV, ev1_bslR, bslR_sl, bslR_hs, fill_nil, fill_cons, fill1_u8a, fill1_u8b, fill1_ca, fill1_cb, thenO_some, loadR_rp, opd, Env.put, Env.at, seqR_nrm, seqR_exit, seqR_ret, regR_some, List.set_cons_zero, List.set_cons_succ, List.getD_cons_zero, List.getD_cons_succ, pR_some, wR_some, callR_some, freezeL, freeze_int, freeze_bool, freeze_str, freeze_u16, freeze_u8, freeze_ptr, freeze_nils, boolR_true, boolR_false, blockR_nrm, blockR_exit, blockR_ret, outR_ret, outR_nrm, resVs, resV_tmp, oneOr, Option.map_some, Option.map_none, List.map_cons, List.map_nil, if_true, if_false, Bool.not_true, Bool.not_false, Bool.false_eq_true, reduceIte, decide_true, decide_false, i64_lss, i64_leq, i64_gtr, i64_geq, i64_eql, i64_neq, i64_add, i64_sub]
    rfl
  have h0' : (c2 == 0#16) = false := by simp [hc]
  have g1 : IntKind.i64.wrap ((p.length : Int) * 8) = (p.length : Int) * 8 := wrapI _ (by omega) (by omega)
  have g2 : IntKind.i64.wrap ((p.length : Int) * 8 - 15) = ((8 * p.length - 15 : Nat) : Int) := by rw [wrapI _ (by omega) (by omega)]; omega
  obtain ⟨m, rfl⟩ : ∃ m : Nat, n1 = (m : Int) := ⟨n1.toNat, by omega⟩
  have g3 := i64_remN m (8 * p.length - 15) (by omega)
  have hkb : m % (8 * p.length - 15) + 16 ≤ 8 * p.length := by have := Nat.mod_lt m (show 0 < 8 * p.length - 15 by omega); omega
  generalize m % (8 * p.length - 15) = k at g3 hkb
  have g4 := app_own s3 hz (by intro e; rw [e] at hpl; simp at hpl) (by omega)
  obtain ⟨s5, l1, l2⟩ := loop5 c2 k s3.next p hkb (by omega) (s3.new (.cells 1 (bytesAV p))) (Has.new s3 p)
  simp only [M5, hb, hx0.bys.freeze, h1, hy.freeze, p1, h0, e0, h0', hz.len, i64_mul, g1, g2, g3, g4, evC_loop, env0, List.length_cons, List.length_nil, Nat.reduceAdd, Nat.reduceSub, List.replicate, List.cons_append, List.nil_append, evC_seq, evC_reg, evC_skip, evC_exit, evC_ret, evC_block, evC_condX, condX_true, condX_false, evOps_nil, evOps_one, contR_some, evOps_gd, gdR_tt, gdR_ft, gdR_tf, gdR_ff, gdR_un, bq_true, bq_false, ev1_mv, ev1_pick, ev1_bin, ev1_eqv, ev1_un, un_not, ev1_mki, ev1_slc, ev1_lenV, ev1_ixaV, ev1_appV, ev1_load, ev1_call, ev1_mn, ev1_mx, ev1_conv, ev1_alloc, ev1_storeV, ev1_bslR, bslR_sl, bslR_hs, fill_nil, fill_cons, fill1_u8a, fill1_u8b, fill1_ca, fill1_cb, thenO_some, loadR_rp, opd, Env.put, Env.at, seqR_nrm, seqR_exit, seqR_ret, regR_some, List.set_cons_zero, List.set_cons_succ, List.getD_cons_zero, List.getD_cons_succ, pR_some, wR_some, callR_some, freezeL, freeze_int, freeze_bool, freeze_str, freeze_u16, freeze_u8, freeze_ptr, freeze_nils, boolR_true, boolR_false, blockR_nrm, blockR_exit, blockR_ret, outR_ret, outR_nrm, resVs, resV_tmp, oneOr, Option.map_some, Option.map_none, List.map_cons, List.map_nil, if_true, if_false, Bool.not_true, Bool.not_false, Bool.false_eq_true, reduceIte, decide_true, decide_false, i64_lss, i64_leq, i64_gtr, i64_geq, i64_eql, i64_neq, i64_add, i64_sub]
  rw [l1 _ rfl]
  have fz := l2.freeze
  have hlq := turnBits_length c2 k 16 p
  rw [hlq] at fz
  obtain ⟨s6, q1, q3⟩ : ∃ s', ev 999 27 [.sl (bytesAV (turnBits c2 k 16 p)) p.length none] (s5.upd s3.next (.froz 1 (bytesAV (turnBits c2 k 16 p)))) = some (.bool (crcFine (turnBits c2 k 16 p)), s') ∧ _ := by
    have := fine_ev (Bys.mk (turnBits c2 k 16 p) none) 968 (by omega) (by omega) (s5.upd s3.next (.froz 1 (bytesAV (turnBits c2 k 16 p))))
    rw [hlq] at this
    exact this
  rw [turned_not_fine p hf c2 hc k hkb] at q1
  simp only [M5b0, E5, show ((16 : Int) < 16) = False from by simp, fz, q1, env0, List.length_cons, List.length_nil, Nat.reduceAdd, Nat.reduceSub, List.replicate, List.cons_append, List.nil_append, evC_seq, evC_reg, evC_skip, evC_exit, evC_ret, evC_block, evC_condX, condX_true, condX_false, evOps_nil, evOps_one, contR_some, evOps_gd, gdR_tt, gdR_ft, gdR_tf, gdR_ff, gdR_un, bq_true, bq_false, ev1_mv, ev1_pick, ev1_bin, ev1_eqv, ev1_un, un_not, ev1_mki, ev1_slc, ev1_lenV, ev1_ixaV, ev1_appV, ev1_load, ev1_call, ev1_mn, ev1_mx, ev1_conv, ev1_alloc, ev1_storeV, ev1_bslR, bslR_sl, bslR_hs, fill_nil, fill_cons, fill1_u8a, fill1_u8b, fill1_ca, fill1_cb, thenO_some, loadR_rp, opd, Env.put, Env.at, seqR_nrm, seqR_exit, seqR_ret, regR_some, List.set_cons_zero, List.set_cons_succ, List.getD_cons_zero, List.getD_cons_succ, pR_some, wR_some, callR_some, freezeL, freeze_int, freeze_bool, freeze_str, freeze_u16, freeze_u8, freeze_ptr, freeze_nils, boolR_true, boolR_false, blockR_nrm, blockR_exit, blockR_ret, outR_ret, outR_nrm, resVs, resV_tmp, oneOr, Option.map_some, Option.map_none, List.map_cons, List.map_nil, if_true, if_false, Bool.not_true, Bool.not_false, Bool.false_eq_true, reduceIte, decide_true, decide_false, i64_lss, i64_leq, i64_gtr, i64_geq, i64_eql, i64_neq, i64_add, i64_sub]
  rfl
end Go.Proofs.Ytghfinbdgnggjaa.crcTurn
