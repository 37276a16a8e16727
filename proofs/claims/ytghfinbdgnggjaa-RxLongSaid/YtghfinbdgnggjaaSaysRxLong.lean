/- What the evaluator says of the law RxLong: true. No conditions. -/
import Derived.Test.YtghfinbdgnggjaaBegun
import Derived.Test.YtghfinbdgnggjaaLoop10
namespace Go.Proofs.Ytghfinbdgnggjaa.rxLong
open Go Go.Ab
set_option linter.unusedVariables false
set_option linter.unusedSimpArgs false
set_option maxRecDepth 100000 in
theorem says (n0 : Int) (hn0 : -9223372036854775808 ≤ n0 ∧ n0 ≤ 9223372036854775807) (n1 : Int) (hn1 : -9223372036854775808 ≤ n1 ∧ n1 ≤ 9223372036854775807) (c2 : UInt8) : Ab.saysTrue (ev 1000 10 [.int .i64 n0, .int .i64 n1, Ab.u8v c2] Ab.St.nil) = true := by
  obtain ⟨s1, hb⟩ := begun_ev
  have a1 := i64_rem n0 40 (by omega)
  have a2 := i64_rem (n0.tmod 40 + 40) 40 (by omega)
  have d1 := i64_rem n1 60 (by omega)
  have d2 := i64_rem (n1.tmod 60 + 60) 60 (by omega)
  have r1 := tmodP n0 40 (by omega)
  have r2 := Int.tmod_lt_of_pos n0 (show (0 : Int) < 40 by omega)
  have r3 : 0 ≤ (n0.tmod 40 + 40).tmod 40 := Int.tmod_nonneg _ (by omega)
  have r4 := Int.tmod_lt_of_pos (n0.tmod 40 + 40) (show (0 : Int) < 40 by omega)
  have u1 := tmodP n1 60 (by omega)
  have u2 := Int.tmod_lt_of_pos n1 (show (0 : Int) < 60 by omega)
  have u3 : 0 ≤ (n1.tmod 60 + 60).tmod 60 := Int.tmod_nonneg _ (by omega)
  have u4 := Int.tmod_lt_of_pos (n1.tmod 60 + 60) (show (0 : Int) < 60 by omega)
  have w1 : IntKind.i64.wrap (n0.tmod 40 + 40) = n0.tmod 40 + 40 := wrapI _ (by omega) (by omega)
  have w2 : IntKind.i64.wrap (n1.tmod 60 + 60) = n1.tmod 60 + 60 := wrapI _ (by omega) (by omega)
  obtain ⟨M, hM, hM1, hM2⟩ : ∃ M : Nat, IntKind.i64.wrap (1 + (n0.tmod 40 + 40).tmod 40) = (M : Int) ∧ 1 ≤ M ∧ M ≤ 40 := ⟨(1 + (n0.tmod 40 + 40).tmod 40).toNat, by rw [wrapI _ (by omega) (by omega)]; omega, by omega, by omega⟩
  obtain ⟨N, hN, hN1, hN2⟩ : ∃ N : Nat, IntKind.i64.wrap (1 + (n1.tmod 60 + 60).tmod 60) = (N : Int) ∧ 1 ≤ N ∧ N ≤ 60 := ⟨(1 + (n1.tmod 60 + 60).tmod 60).toNat, by rw [wrapI _ (by omega) (by omega)]; omega, by omega, by omega⟩
  generalize (n0.tmod 40 + 40).tmod 40 = q0 at *
  generalize (n1.tmod 60 + 60).tmod 60 = q1 at *
  have mk := mks_n s1 N (by omega)
  obtain ⟨s2, l1, l2, l3, hlt⟩ := loop10a M N c2 s1.next N (by omega) (s1.new (.cells 1 (bytesAV (List.replicate N 0)))) (Has.new _ _) s1 ((Ext.refl s1).new _) (Nat.le_refl _) (by simp [St.new])
  obtain ⟨s3, n1', n2, n3⟩ : ∃ s', ev 999 36 [.int .i64 (M : Int)] s2 = some (.ptr s2.next 0, s') ∧ RxAt s' s2.next (rxNew M) s2.next ∧ Ext s2 s' := rxNew_ev M 998 s2
  have hA := l2.ext n3 hlt
  have fz := hA.freeze
  rw [List.length_replicate] at fz
  have hR := n2.updc hA (by omega) (.froz 1 (bytesAV (List.replicate N c2)))
  generalize s3.upd s1.next (.froz 1 (bytesAV (List.replicate N c2))) = s4 at fz hR
  obtain ⟨y5, s5, p1, p2, p3⟩ : ∃ y' s', ev 999 29 [.sl (bytesAV (List.replicate N c2)) N none, .int .i64 0] s4 = some (y', s') ∧ Own s4 s' y' (wrapB (List.replicate N c2) 0) ∧ Ext s4 s' := by
    have := wrap_ev (Bys.mk (List.replicate N c2) none) 0 968 (by simp; omega) (by simp; omega) s4
    rw [List.length_replicate] at this
    exact this
  have hB : Has (s5.new (.cells 1 [.int .u8 1])) s5.next [1] := Has.new s5 [1]
  have fz2 : Ab.freeze 1 (s5.new (.cells 1 [.int .u8 1])) (.hs 1 s5.next 0 1) = some (.sl (bytesAV [1]) 1 none, (s5.new (.cells 1 [.int .u8 1])).upd s5.next (.froz 1 (bytesAV [1]))) := hB.freeze
  have e7 : Ext s5 ((s5.new (.cells 1 [.int .u8 1])).upd s5.next (.froz 1 (bytesAV [1]))) := ((Ext.refl s5).new _).upd (Nat.le_refl _) _
  generalize (s5.new (.cells 1 [.int .u8 1])).upd s5.next (.froz 1 (bytesAV [1])) = s7 at fz2 e7
  obtain ⟨y8, s8, t1, t2, t3⟩ : ∃ y' s', ev 999 29 [.sl (bytesAV [1]) 1 none, .int .i64 2] s7 = some (y', s') ∧ Own s7 s' y' (wrapB [1] 2) ∧ Ext s7 s' := wrap_ev (Bys.mk [1] none) 2 968 (by simp) (by simp) s7
  have e58 := e7.trans t3
  have el1 := esc_length (crcPut (List.replicate N c2))
  have el2 := esc_length (crcPut [1])
  rw [crcPut_length] at el1 el2
  rw [List.length_replicate] at el1
  have wl1 : (wrapB (List.replicate N c2) 0).length = ahead 0 + 2 + (esc (crcPut (List.replicate N c2))).length := by simp [wrapB]; omega
  have wl2 : (wrapB [1] 2).length = ahead 2 + 2 + (esc (crcPut [1])).length := by simp [wrapB]; omega
  have ah0 := ahead_le 0
  have ah2 := ahead_le 2
  have hone : ([1] : List UInt8).length = 1 := rfl
  obtain ⟨y9, s9, g1, g2, g3⟩ := app_any (p2.ext e58) (by intro e; rw [e] at wl1; simp at wl1; omega) t2.bys (p3.trans e58) (by omega)
  have hR9 := hR.ext g3
  have hlen9 : (wrapB (List.replicate N c2) 0 ++ wrapB [1] 2).length ≤ 700 := by rw [List.length_append]; omega
  obtain ⟨s10, k1⟩ := loop10b M N g2.bys hlen9 s9 s2.next s2.next (rxNew M) hR9 (by simp [rxNew]) (rxMost_le M)
  have hmost : rxNew (M : Int) = ⟨M, [], false, false⟩ := by
    have : rxMost (M : Int) = M := by unfold rxMost; omega
    simp [rxNew, this]
  rw [hmost, cnt_both M (List.replicate N c2) (by simp; omega) hM1, List.length_replicate] at k1
  have h3 : (((2 : Nat) : Int) == 2) = true := rfl
  have hNM : ((N : Int) ≤ (M : Int)) = (N ≤ M) := by apply propext; omega
  rw [show (1000 : Nat) = 999 + 1 from rfl, ev_in rfl tab10]
  simp only [M10, hb, a1, a2, d1, d2, w1, w2, hM, hN, ev1_mksV, mk, lenV, evC_loop, env0, List.length_cons, List.length_nil, Nat.reduceAdd, Nat.reduceSub, List.replicate, List.cons_append, List.nil_append, evC_seq, evC_reg, evC_skip, evC_exit, evC_ret, evC_block, evC_condX, condX_true, condX_false, evOps_nil, evOps_one, contR_some, evOps_gd, gdR_tt, gdR_ft, gdR_tf, gdR_ff, gdR_un, bq_true, bq_false, ev1_mv, ev1_pick, ev1_bin, ev1_eqv, ev1_un, un_not, ev1_mki, ev1_slc, ev1_lenV, ev1_ixaV, ev1_appV, ev1_load, ev1_call, ev1_mn, ev1_mx, ev1_conv, ev1_alloc, ev1_storeV, ev1_bslR, bslR_sl, bslR_hs, fill_nil, fill_cons, fill1_u8a, fill1_u8b, fill1_ca, fill1_cb, thenO_some, loadR_rp, opd, Env.put, Env.at, seqR_nrm, seqR_exit, seqR_ret, regR_some, List.set_cons_zero, List.set_cons_succ, List.getD_cons_zero, List.getD_cons_succ, pR_some, wR_some, callR_some, freezeL, freeze_int, freeze_bool, freeze_str, freeze_u16, freeze_u8, freeze_ptr, freeze_nils, boolR_true, boolR_false, blockR_nrm, blockR_exit, blockR_ret, outR_ret, outR_nrm, resVs, resV_tmp, oneOr, Option.map_some, Option.map_none, List.map_cons, List.map_nil, if_true, if_false, Bool.not_true, Bool.not_false, Bool.false_eq_true, reduceIte, decide_true, decide_false, i64_lss, i64_leq, i64_gtr, i64_geq, i64_eql, i64_neq, i64_add, i64_sub, load_ptr, ldV_some, cellAt_cells, List.getElem?_cons_zero, List.getElem?_cons_succ, store_ptr, stO_some, setAt_0, setAt_1, setAt_2, setAt_3, setAt_4, setAt_5, setAt_6, setAt_7, setAt_8, setAt_9, setAt_10, setAt_11, setAt_12, cells_int, cells_bool, cells_str, cells_nils, cells_nilp, cells_ptr, cells_sl, cells_u8, cells_u16, cells_agg, get_upd_is, Option.isSome_some, upd_upd, ev1_nchkV, ev1_faV, nchkV_ptr, faV_ptr, ev1_extV, extV_tup, eqptr_nil, eqptr_ptr, Nat.zero_add, Nat.add_zero]
  rw [l1 _ rfl]
  simp only [E10a, List.replicate, List.cons_append, List.nil_append, n1', fz, p1, evC_loop, env0, List.length_cons, List.length_nil, Nat.reduceAdd, Nat.reduceSub, List.replicate, List.cons_append, List.nil_append, evC_seq, evC_reg, evC_skip, evC_exit, evC_ret, evC_block, evC_condX, condX_true, condX_false, evOps_nil, evOps_one, contR_some, evOps_gd, gdR_tt, gdR_ft, gdR_tf, gdR_ff, gdR_un, bq_true, bq_false, ev1_mv, ev1_pick, ev1_bin, ev1_eqv, ev1_un, un_not, ev1_mki, ev1_slc, ev1_lenV, ev1_ixaV, ev1_appV, ev1_load, ev1_call, ev1_mn, ev1_mx, ev1_conv, ev1_alloc, ev1_storeV, ev1_bslR, bslR_sl, bslR_hs, fill_nil, fill_cons, fill1_u8a, fill1_u8b, fill1_ca, fill1_cb, thenO_some, loadR_rp, opd, Env.put, Env.at, seqR_nrm, seqR_exit, seqR_ret, regR_some, List.set_cons_zero, List.set_cons_succ, List.getD_cons_zero, List.getD_cons_succ, pR_some, wR_some, callR_some, freezeL, freeze_int, freeze_bool, freeze_str, freeze_u16, freeze_u8, freeze_ptr, freeze_nils, boolR_true, boolR_false, blockR_nrm, blockR_exit, blockR_ret, outR_ret, outR_nrm, resVs, resV_tmp, oneOr, Option.map_some, Option.map_none, List.map_cons, List.map_nil, if_true, if_false, Bool.not_true, Bool.not_false, Bool.false_eq_true, reduceIte, decide_true, decide_false, i64_lss, i64_leq, i64_gtr, i64_geq, i64_eql, i64_neq, i64_add, i64_sub, load_ptr, ldV_some, cellAt_cells, List.getElem?_cons_zero, List.getElem?_cons_succ, store_ptr, stO_some, setAt_0, setAt_1, setAt_2, setAt_3, setAt_4, setAt_5, setAt_6, setAt_7, setAt_8, setAt_9, setAt_10, setAt_11, setAt_12, cells_int, cells_bool, cells_str, cells_nils, cells_nilp, cells_ptr, cells_sl, cells_u8, cells_u16, cells_agg, get_upd_is, Option.isSome_some, upd_upd, ev1_nchkV, ev1_faV, nchkV_ptr, faV_ptr, ev1_extV, extV_tup, eqptr_nil, eqptr_ptr, Nat.zero_add, Nat.add_zero]
  simp only [fz2, t1, g1, g2.bys.len, evC_loop, env0, List.length_cons, List.length_nil, Nat.reduceAdd, Nat.reduceSub, List.replicate, List.cons_append, List.nil_append, evC_seq, evC_reg, evC_skip, evC_exit, evC_ret, evC_block, evC_condX, condX_true, condX_false, evOps_nil, evOps_one, contR_some, evOps_gd, gdR_tt, gdR_ft, gdR_tf, gdR_ff, gdR_un, bq_true, bq_false, ev1_mv, ev1_pick, ev1_bin, ev1_eqv, ev1_un, un_not, ev1_mki, ev1_slc, ev1_lenV, ev1_ixaV, ev1_appV, ev1_load, ev1_call, ev1_mn, ev1_mx, ev1_conv, ev1_alloc, ev1_storeV, ev1_bslR, bslR_sl, bslR_hs, fill_nil, fill_cons, fill1_u8a, fill1_u8b, fill1_ca, fill1_cb, thenO_some, loadR_rp, opd, Env.put, Env.at, seqR_nrm, seqR_exit, seqR_ret, regR_some, List.set_cons_zero, List.set_cons_succ, List.getD_cons_zero, List.getD_cons_succ, pR_some, wR_some, callR_some, freezeL, freeze_int, freeze_bool, freeze_str, freeze_u16, freeze_u8, freeze_ptr, freeze_nils, boolR_true, boolR_false, blockR_nrm, blockR_exit, blockR_ret, outR_ret, outR_nrm, resVs, resV_tmp, oneOr, Option.map_some, Option.map_none, List.map_cons, List.map_nil, if_true, if_false, Bool.not_true, Bool.not_false, Bool.false_eq_true, reduceIte, decide_true, decide_false, i64_lss, i64_leq, i64_gtr, i64_geq, i64_eql, i64_neq, i64_add, i64_sub, load_ptr, ldV_some, cellAt_cells, List.getElem?_cons_zero, List.getElem?_cons_succ, store_ptr, stO_some, setAt_0, setAt_1, setAt_2, setAt_3, setAt_4, setAt_5, setAt_6, setAt_7, setAt_8, setAt_9, setAt_10, setAt_11, setAt_12, cells_int, cells_bool, cells_str, cells_nils, cells_nilp, cells_ptr, cells_sl, cells_u8, cells_u16, cells_agg, get_upd_is, Option.isSome_some, upd_upd, ev1_nchkV, ev1_faV, nchkV_ptr, faV_ptr, ev1_extV, extV_tup, eqptr_nil, eqptr_ptr, Nat.zero_add, Nat.add_zero]
  rw [k1 _ rfl]
  by_cases hq : N ≤ M
  · rw [if_pos hq]
    have h4 : (((0 : Nat) : Int) == 0) = true := rfl
    simp only [E10b, List.replicate, List.cons_append, List.nil_append, h3, h4, hNM, hq, env0, List.length_cons, List.length_nil, Nat.reduceAdd, Nat.reduceSub, List.replicate, List.cons_append, List.nil_append, evC_seq, evC_reg, evC_skip, evC_exit, evC_ret, evC_block, evC_condX, condX_true, condX_false, evOps_nil, evOps_one, contR_some, evOps_gd, gdR_tt, gdR_ft, gdR_tf, gdR_ff, gdR_un, bq_true, bq_false, ev1_mv, ev1_pick, ev1_bin, ev1_eqv, ev1_un, un_not, ev1_mki, ev1_slc, ev1_lenV, ev1_ixaV, ev1_appV, ev1_load, ev1_call, ev1_mn, ev1_mx, ev1_conv, ev1_alloc, ev1_storeV, ev1_bslR, bslR_sl, bslR_hs, fill_nil, fill_cons, fill1_u8a, fill1_u8b, fill1_ca, fill1_cb, thenO_some, loadR_rp, opd, Env.put, Env.at, seqR_nrm, seqR_exit, seqR_ret, regR_some, List.set_cons_zero, List.set_cons_succ, List.getD_cons_zero, List.getD_cons_succ, pR_some, wR_some, callR_some, freezeL, freeze_int, freeze_bool, freeze_str, freeze_u16, freeze_u8, freeze_ptr, freeze_nils, boolR_true, boolR_false, blockR_nrm, blockR_exit, blockR_ret, outR_ret, outR_nrm, resVs, resV_tmp, oneOr, Option.map_some, Option.map_none, List.map_cons, List.map_nil, if_true, if_false, Bool.not_true, Bool.not_false, Bool.false_eq_true, reduceIte, decide_true, decide_false, i64_lss, i64_leq, i64_gtr, i64_geq, i64_eql, i64_neq, i64_add, i64_sub, b16_not, b16_eql, str_eql, str_neq, u8_eql, u8_neq, eqAV, eqFl, eqSc, beq_self_eq_true]
    rfl
  · rw [if_neg hq]
    have h4 : (((7 : Nat) : Int) == 0) = false := rfl
    have h5 : (((7 : Nat) : Int) == 7) = true := rfl
    simp only [E10b, List.replicate, List.cons_append, List.nil_append, h3, h4, h5, hNM, hq, env0, List.length_cons, List.length_nil, Nat.reduceAdd, Nat.reduceSub, List.replicate, List.cons_append, List.nil_append, evC_seq, evC_reg, evC_skip, evC_exit, evC_ret, evC_block, evC_condX, condX_true, condX_false, evOps_nil, evOps_one, contR_some, evOps_gd, gdR_tt, gdR_ft, gdR_tf, gdR_ff, gdR_un, bq_true, bq_false, ev1_mv, ev1_pick, ev1_bin, ev1_eqv, ev1_un, un_not, ev1_mki, ev1_slc, ev1_lenV, ev1_ixaV, ev1_appV, ev1_load, ev1_call, ev1_mn, ev1_mx, ev1_conv, ev1_alloc, ev1_storeV, ev1_bslR, bslR_sl, bslR_hs, fill_nil, fill_cons, fill1_u8a, fill1_u8b, fill1_ca, fill1_cb, thenO_some, loadR_rp, opd, Env.put, Env.at, seqR_nrm, seqR_exit, seqR_ret, regR_some, List.set_cons_zero, List.set_cons_succ, List.getD_cons_zero, List.getD_cons_succ, pR_some, wR_some, callR_some, freezeL, freeze_int, freeze_bool, freeze_str, freeze_u16, freeze_u8, freeze_ptr, freeze_nils, boolR_true, boolR_false, blockR_nrm, blockR_exit, blockR_ret, outR_ret, outR_nrm, resVs, resV_tmp, oneOr, Option.map_some, Option.map_none, List.map_cons, List.map_nil, if_true, if_false, Bool.not_true, Bool.not_false, Bool.false_eq_true, reduceIte, decide_true, decide_false, i64_lss, i64_leq, i64_gtr, i64_geq, i64_eql, i64_neq, i64_add, i64_sub, b16_not, b16_eql, str_eql, str_neq, u8_eql, u8_neq, eqAV, eqFl, eqSc, beq_self_eq_true]
    rfl
end Go.Proofs.Ytghfinbdgnggjaa.rxLong
