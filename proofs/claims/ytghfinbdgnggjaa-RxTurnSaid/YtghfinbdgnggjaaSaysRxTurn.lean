/- What the evaluator says of the law RxTurn: true. No conditions. -/
import Derived.Test.YtghfinbdgnggjaaBegun
import Derived.Test.YtghfinbdgnggjaaLoop16
namespace Go.Proofs.Ytghfinbdgnggjaa.rxTurn
open Go Go.Ab
set_option linter.unusedVariables false
set_option linter.unusedSimpArgs false
set_option maxRecDepth 100000 in
theorem says (b0 : List UInt8) {x0 : Ab.AV} (hx0 : Ab.IsBytes x0 b0) (n1 : Int) (hn1 : -9223372036854775808 ≤ n1 ∧ n1 ≤ 9223372036854775807) (c2 : UInt8) : Ab.saysTrue (ev 1000 16 [x0, .int .i64 n1, Ab.u8v c2] Ab.St.nil) = true := by
  obtain ⟨s1, hb⟩ := begun_ev
  obtain ⟨y, s2, h1, h2, h3⟩ : ∃ y s', ev 999 20 [x0, .int .i64 60] s1 = some (y, s') ∧ Own s1 s' y (b0.take 60) ∧ Ext s1 s' := short_ev hx0.bys 998 60 (by omega) s1
  have hlen : (b0.take 60).length ≤ 60 := by simp; omega
  generalize b0.take 60 = b at h2 hlen
  have hy := h2.bys
  obtain ⟨w, s3, p1, p2, p3⟩ : ∃ y' s', ev 999 29 [y, .int .i64 0] s2 = some (y', s') ∧ Own s2 s' y' (wrapB b 0) ∧ Ext s2 s' := wrap_ev hy 0 968 (by omega) (by omega) s2
  have hw := p2.bys
  have e1 := esc_length (crcPut b)
  rw [crcPut_length] at e1
  have hwl : (wrapB b 0).length = 2 + (esc (crcPut b)).length := by rw [wrap0]; simp; omega
  obtain ⟨o, s4, ys, t1, t2, t3, t4⟩ : ∃ o s' ys, ev 999 35 [.int .i64 100, w] s3 = some (o, s') ∧ IsL o ys ∧ AllBys ys (rxAll 100 (wrapB b 0)) ∧ Ext s3 s' := rxAll_ev hw 100 964 (by omega) (by omega) s3
  have tl := t2.len
  rw [t3.length, rx_wrap_len b hlen] at tl
  have bi : ∀ c s, ev 999 39 [.bool c] s = some (.int .i64 (if c then 1 else 0), s) := fun c s => b2i_ev 998 c s
  have beq : ((((if 0 < b.length then 1 else 0 : Nat)) : Int) == (if decide (((b.length : Nat) : Int) > 0) = true then (1 : Int) else 0)) = true := by
    by_cases hq : 0 < b.length
    · simp [hq]
    · simp [hq]
  have ez : binV .eql (u8v c2) (.int .u8 0) = some (.bool (c2 == 0)) := u8_eql c2 0
  rw [show (1000 : Nat) = 999 + 1 from rfl, ev_in rfl tab16]
  by_cases hbn : b.length = 0
  · have h0 : ((b.length : Int) == 0) = true := by simp [hbn]
    simp only [M16, hb, hx0.bys.freeze, h1, hy.freeze, hy.len, hw.freeze, p1, h0, t1, tl, bi, beq, env0, List.length_cons, List.length_nil, Nat.reduceAdd, Nat.reduceSub, List.replicate, List.cons_append, List.nil_append, evC_seq, evC_reg, evC_skip, evC_exit, evC_ret, evC_block, evC_condX, condX_true, condX_false, evOps_nil, evOps_one, contR_some, evOps_gd, gdR_tt, gdR_ft, gdR_tf, gdR_ff, gdR_un, bq_true, bq_false, ev1_mv, ev1_pick, ev1_bin, ev1_eqv, ev1_un, un_not, ev1_mki, ev1_slc, ev1_lenV, ev1_ixaV, ev1_appV, ev1_load, ev1_call, ev1_mn, ev1_mx, ev1_conv, ev1_alloc, ev1_storeV, ev1_bslR, bslR_sl, bslR_hs, fill_nil, fill_cons, fill1_u8a, fill1_u8b, fill1_ca, fill1_cb, thenO_some, loadR_rp, opd, Env.put, Env.at, seqR_nrm, seqR_exit, seqR_ret, regR_some, List.set_cons_zero, List.set_cons_succ, List.getD_cons_zero, List.getD_cons_succ, pR_some, wR_some, callR_some, freezeL, freeze_int, freeze_bool, freeze_str, freeze_u16, freeze_u8, freeze_ptr, freeze_nils, boolR_true, boolR_false, blockR_nrm, blockR_exit, blockR_ret, outR_ret, outR_nrm, resVs, resV_tmp, oneOr, Option.map_some, Option.map_none, List.map_cons, List.map_nil, if_true, if_false, Bool.not_true, Bool.not_false, Bool.false_eq_true, reduceIte, decide_true, decide_false, i64_lss, i64_leq, i64_gtr, i64_geq, i64_eql, i64_neq, i64_add, i64_sub]
    rfl
  have h0 : ((b.length : Int) == 0) = false := by simp; exact fun e => hbn (by simp [e])
  by_cases hn : n1 < 0
  · have h0' : (n1 < 0) = True := eq_true hn
    simp only [M16, hb, hx0.bys.freeze, h1, hy.freeze, hy.len, hw.freeze, p1, h0, h0', t1, tl, bi, beq, env0, List.length_cons, List.length_nil, Nat.reduceAdd, Nat.reduceSub, List.replicate, List.cons_append, List.nil_append, evC_seq, evC_reg, evC_skip, evC_exit, evC_ret, evC_block, evC_condX, condX_true, condX_false, evOps_nil, evOps_one, contR_some, evOps_gd, gdR_tt, gdR_ft, gdR_tf, gdR_ff, gdR_un, bq_true, bq_false, ev1_mv, ev1_pick, ev1_bin, ev1_eqv, ev1_un, un_not, ev1_mki, ev1_slc, ev1_lenV, ev1_ixaV, ev1_appV, ev1_load, ev1_call, ev1_mn, ev1_mx, ev1_conv, ev1_alloc, ev1_storeV, ev1_bslR, bslR_sl, bslR_hs, fill_nil, fill_cons, fill1_u8a, fill1_u8b, fill1_ca, fill1_cb, thenO_some, loadR_rp, opd, Env.put, Env.at, seqR_nrm, seqR_exit, seqR_ret, regR_some, List.set_cons_zero, List.set_cons_succ, List.getD_cons_zero, List.getD_cons_succ, pR_some, wR_some, callR_some, freezeL, freeze_int, freeze_bool, freeze_str, freeze_u16, freeze_u8, freeze_ptr, freeze_nils, boolR_true, boolR_false, blockR_nrm, blockR_exit, blockR_ret, outR_ret, outR_nrm, resVs, resV_tmp, oneOr, Option.map_some, Option.map_none, List.map_cons, List.map_nil, if_true, if_false, Bool.not_true, Bool.not_false, Bool.false_eq_true, reduceIte, decide_true, decide_false, i64_lss, i64_leq, i64_gtr, i64_geq, i64_eql, i64_neq, i64_add, i64_sub]
    rfl
  have hn' : (n1 < 0) = False := eq_false hn
  by_cases hc : c2 = 0
  · have h0' : (c2 == 0) = true := by simp [hc]
    simp only [M16, hb, hx0.bys.freeze, h1, hy.freeze, hy.len, hw.freeze, p1, h0, hn', ez, h0', t1, tl, bi, beq, env0, List.length_cons, List.length_nil, Nat.reduceAdd, Nat.reduceSub, List.replicate, List.cons_append, List.nil_append, evC_seq, evC_reg, evC_skip, evC_exit, evC_ret, evC_block, evC_condX, condX_true, condX_false, evOps_nil, evOps_one, contR_some, evOps_gd, gdR_tt, gdR_ft, gdR_tf, gdR_ff, gdR_un, bq_true, bq_false, ev1_mv, ev1_pick, ev1_bin, ev1_eqv, ev1_un, un_not, ev1_mki, ev1_slc, ev1_lenV, ev1_ixaV, ev1_appV, ev1_load, ev1_call, ev1_mn, ev1_mx, ev1_conv, ev1_alloc, ev1_storeV, ev1_bslR, bslR_sl, bslR_hs, fill_nil, fill_cons, fill1_u8a, fill1_u8b, fill1_ca, fill1_cb, thenO_some, loadR_rp, opd, Env.put, Env.at, seqR_nrm, seqR_exit, seqR_ret, regR_some, List.set_cons_zero, List.set_cons_succ, List.getD_cons_zero, List.getD_cons_succ, pR_some, wR_some, callR_some, freezeL, freeze_int, freeze_bool, freeze_str, freeze_u16, freeze_u8, freeze_ptr, freeze_nils, boolR_true, boolR_false, blockR_nrm, blockR_exit, blockR_ret, outR_ret, outR_nrm, resVs, resV_tmp, oneOr, Option.map_some, Option.map_none, List.map_cons, List.map_nil, if_true, if_false, Bool.not_true, Bool.not_false, Bool.false_eq_true, reduceIte, decide_true, decide_false, i64_lss, i64_leq, i64_gtr, i64_geq, i64_eql, i64_neq, i64_add, i64_sub]
    rfl
  have hc' : (c2 == 0) = false := by simp [hc]
  clear t1 t2 t3 t4 tl beq
  obtain ⟨m, rfl⟩ : ∃ m : Nat, n1 = (m : Int) := ⟨n1.toNat, by omega⟩
  have q1 := i64_remN m (wrapB b 0).length (by omega)
  have hk : m % (wrapB b 0).length < (wrapB b 0).length := Nat.mod_lt _ (by omega)
  generalize m % (wrapB b 0).length = k at q1 hk
  have a1 := app_own s3 hw (by intro e; rw [e] at hwl; simp at hwl; omega) (by omega)
  have ix := hs_ixa s3.next (wrapB b 0).length k hk
  have hA := Has.new s3 (wrapB b 0)
  have l1 := hA.load k hk
  have st := hA.store k hk ((wrapB b 0)[k] ^^^ c2)
  have hA2 := hA.upd ((wrapB b 0).set k ((wrapB b 0)[k] ^^^ c2))
  have hnx : ((s3.new (.cells 1 (bytesAV (wrapB b 0)))).upd s3.next (.cells 1 (bytesAV ((wrapB b 0).set k ((wrapB b 0)[k] ^^^ c2))))).next = s3.next + 1 := rfl
  generalize hbq : s3.next = bq at *
  generalize (s3.new (.cells 1 (bytesAV (wrapB b 0)))).upd bq (.cells 1 (bytesAV ((wrapB b 0).set k ((wrapB b 0)[k] ^^^ c2)))) = s5 at *
  have hsl : ((wrapB b 0).set k ((wrapB b 0)[k] ^^^ c2)).length = (wrapB b 0).length := by simp
  have l2 := hA2.load k (by rw [hsl]; exact hk)
  rw [List.getElem_set_self] at l2
  have hv : (wrapB b 0)[k]? = some (wrapB b 0)[k] := List.getElem?_eq_getElem hk
  have wx := hw.ixa k hk
  have wc := cut_bytes (wrapB b 0) k hk
  generalize hvv : (wrapB b 0)[k] = v at *
  have f2 : Ab.fill1 [u8v v, .int .u8 0] 1 1 (u8v (v ^^^ c2)) = some [u8v v, u8v (v ^^^ c2)] := fill1_u8b _ _ _ _
  have en := (Ext.refl s5).new (.cells 1 [u8v v, u8v (v ^^^ c2)])
  have hB : Has (s5.new (.cells 1 [u8v v, u8v (v ^^^ c2)])) s5.next [v, v ^^^ c2] := Has.new s5 [v, v ^^^ c2]
  have hA3 := hA2.ext en (by omega)
  have hne : bq ≠ s5.next := by omega
  simp only [M16, hb, hx0.bys.freeze, h1, hy.freeze, hy.len, hw.len, p1, h0, hn', ez, hc', q1, a1, hbq, ix, l1, b8_xor, st, env0, List.length_cons, List.length_nil, Nat.reduceAdd, Nat.reduceSub, List.replicate, List.cons_append, List.nil_append, evC_seq, evC_reg, evC_skip, evC_exit, evC_ret, evC_block, evC_condX, condX_true, condX_false, evOps_nil, evOps_one, contR_some, evOps_gd, gdR_tt, gdR_ft, gdR_tf, gdR_ff, gdR_un, bq_true, bq_false, ev1_mv, ev1_pick, ev1_bin, ev1_eqv, ev1_un, un_not, ev1_mki, ev1_slc, ev1_lenV, ev1_ixaV, ev1_appV, ev1_load, ev1_call, ev1_mn, ev1_mx, ev1_conv, ev1_alloc, ev1_storeV, ev1_bslR, bslR_sl, bslR_hs, fill_nil, fill_cons, fill1_u8a, fill1_u8b, fill1_ca, fill1_cb, thenO_some, loadR_rp, opd, Env.put, Env.at, seqR_nrm, seqR_exit, seqR_ret, regR_some, List.set_cons_zero, List.set_cons_succ, List.getD_cons_zero, List.getD_cons_succ, pR_some, wR_some, callR_some, freezeL, freeze_int, freeze_bool, freeze_str, freeze_u16, freeze_u8, freeze_ptr, freeze_nils, boolR_true, boolR_false, blockR_nrm, blockR_exit, blockR_ret, outR_ret, outR_nrm, resVs, resV_tmp, oneOr, Option.map_some, Option.map_none, List.map_cons, List.map_nil, if_true, if_false, Bool.not_true, Bool.not_false, Bool.false_eq_true, reduceIte, decide_true, decide_false, i64_lss, i64_leq, i64_gtr, i64_geq, i64_eql, i64_neq, i64_add, i64_sub]
  simp only [wx, wc, ix, l2, lenV, evC_loop, env0, List.length_cons, List.length_nil, Nat.reduceAdd, Nat.reduceSub, List.replicate, List.cons_append, List.nil_append, evC_seq, evC_reg, evC_skip, evC_exit, evC_ret, evC_block, evC_condX, condX_true, condX_false, evOps_nil, evOps_one, contR_some, evOps_gd, gdR_tt, gdR_ft, gdR_tf, gdR_ff, gdR_un, bq_true, bq_false, ev1_mv, ev1_pick, ev1_bin, ev1_eqv, ev1_un, un_not, ev1_mki, ev1_slc, ev1_lenV, ev1_ixaV, ev1_appV, ev1_load, ev1_call, ev1_mn, ev1_mx, ev1_conv, ev1_alloc, ev1_storeV, ev1_bslR, bslR_sl, bslR_hs, fill_nil, fill_cons, fill1_u8a, fill1_u8b, fill1_ca, fill1_cb, thenO_some, loadR_rp, opd, Env.put, Env.at, seqR_nrm, seqR_exit, seqR_ret, regR_some, List.set_cons_zero, List.set_cons_succ, List.getD_cons_zero, List.getD_cons_succ, pR_some, wR_some, callR_some, freezeL, freeze_int, freeze_bool, freeze_str, freeze_u16, freeze_u8, freeze_ptr, freeze_nils, boolR_true, boolR_false, blockR_nrm, blockR_exit, blockR_ret, outR_ret, outR_nrm, resVs, resV_tmp, oneOr, Option.map_some, Option.map_none, List.map_cons, List.map_nil, if_true, if_false, Bool.not_true, Bool.not_false, Bool.false_eq_true, reduceIte, decide_true, decide_false, i64_lss, i64_leq, i64_gtr, i64_geq, i64_eql, i64_neq, i64_add, i64_sub, evC_draw, evLoud_nil, evLoud_one, az_mv, az_pick, az_bin, az_eqv, az_un, az_conv, az_mki, az_slc, az_sls, az_lens, az_ixs, az_fa, az_fld, az_ixa, az_ixp, az_ix, az_load, az_store, az_nchk, az_tas, az_ext, az_call, az_len, az_mn, az_mx, az_app, az_build, az_bsl, az_box, az_mks, az_cpy, az_rng, az_nxt, bk_mv, bk_pick, bk_bin, bk_eqv, bk_un, bk_mki, bk_slc, bk_sls, bk_lens, bk_ixs, bk_fa, bk_fld, bk_ixa, bk_ixp, bk_ix, bk_store, bk_nchk, bk_tas, bk_ext, bk_call, bk_len, bk_mn, bk_mx, bk_app, bk_build, bk_bsl, bk_box, bk_mks, bk_cpy, bk_rng, bk_nxt, bk_alloc, reserve_nil, reserve_none, reserve_gd, reserve_alloc, contL_some, evLoud_gd, gdL_tt, gdL_ft, gdL_tf, gdL_ff, gdL_un, evLoud_alloc, placeR]
  rw [drawR_ok]; case h => exact calm_quiet (by simp only [List.map_cons, List.map_nil]; decide +kernel)
  simp only [evC_loop, env0, List.length_cons, List.length_nil, Nat.reduceAdd, Nat.reduceSub, List.replicate, List.cons_append, List.nil_append, evC_seq, evC_reg, evC_skip, evC_exit, evC_ret, evC_block, evC_condX, condX_true, condX_false, evOps_nil, evOps_one, contR_some, evOps_gd, gdR_tt, gdR_ft, gdR_tf, gdR_ff, gdR_un, bq_true, bq_false, ev1_mv, ev1_pick, ev1_bin, ev1_eqv, ev1_un, un_not, ev1_mki, ev1_slc, ev1_lenV, ev1_ixaV, ev1_appV, ev1_load, ev1_call, ev1_mn, ev1_mx, ev1_conv, ev1_alloc, ev1_storeV, ev1_bslR, bslR_sl, bslR_hs, fill_nil, fill_cons, fill1_u8a, fill1_u8b, fill1_ca, fill1_cb, thenO_some, loadR_rp, opd, Env.put, Env.at, seqR_nrm, seqR_exit, seqR_ret, regR_some, List.set_cons_zero, List.set_cons_succ, List.getD_cons_zero, List.getD_cons_succ, pR_some, wR_some, callR_some, freezeL, freeze_int, freeze_bool, freeze_str, freeze_u16, freeze_u8, freeze_ptr, freeze_nils, boolR_true, boolR_false, blockR_nrm, blockR_exit, blockR_ret, outR_ret, outR_nrm, resVs, resV_tmp, oneOr, Option.map_some, Option.map_none, List.map_cons, List.map_nil, if_true, if_false, Bool.not_true, Bool.not_false, Bool.false_eq_true, reduceIte, decide_true, decide_false, i64_lss, i64_leq, i64_gtr, i64_geq, i64_eql, i64_neq, i64_add, i64_sub]
  generalize (s5.new (.cells 1 [u8v v, u8v (v ^^^ c2)])) = s6 at *
  have hs6 : bq < s6.next := by have := en.le; omega
  by_cases hsp : special v = true ∨ special (v ^^^ c2) = true
  · obtain ⟨e', s', g1, g2⟩ := loop16s bq _ (by rw [hsl]; omega) s5.next hne v (v ^^^ c2) s6 hB hA3 hs6 hsp
    rw [hsl] at g1
    rw [g1 _ rfl]
    simp only [Env.at] at g2
    simp only [g2, env0, List.length_cons, List.length_nil, Nat.reduceAdd, Nat.reduceSub, List.replicate, List.cons_append, List.nil_append, evC_seq, evC_reg, evC_skip, evC_exit, evC_ret, evC_block, evC_condX, condX_true, condX_false, evOps_nil, evOps_one, contR_some, evOps_gd, gdR_tt, gdR_ft, gdR_tf, gdR_ff, gdR_un, bq_true, bq_false, ev1_mv, ev1_pick, ev1_bin, ev1_eqv, ev1_un, un_not, ev1_mki, ev1_slc, ev1_lenV, ev1_ixaV, ev1_appV, ev1_load, ev1_call, ev1_mn, ev1_mx, ev1_conv, ev1_alloc, ev1_storeV, ev1_bslR, bslR_sl, bslR_hs, fill_nil, fill_cons, fill1_u8a, fill1_u8b, fill1_ca, fill1_cb, thenO_some, loadR_rp, opd, Env.put, Env.at, seqR_nrm, seqR_exit, seqR_ret, regR_some, List.set_cons_zero, List.set_cons_succ, List.getD_cons_zero, List.getD_cons_succ, pR_some, wR_some, callR_some, freezeL, freeze_int, freeze_bool, freeze_str, freeze_u16, freeze_u8, freeze_ptr, freeze_nils, boolR_true, boolR_false, blockR_nrm, blockR_exit, blockR_ret, outR_ret, outR_nrm, resVs, resV_tmp, oneOr, Option.map_some, Option.map_none, List.map_cons, List.map_nil, if_true, if_false, Bool.not_true, Bool.not_false, Bool.false_eq_true, reduceIte, decide_true, decide_false, i64_lss, i64_leq, i64_gtr, i64_geq, i64_eql, i64_neq, i64_add, i64_sub]
    rfl
  · have hv0 : special v = false := by
      cases c : special v with
      | false => rfl
      | true => exact absurd (.inl c) hsp
    have hv1 : special (v ^^^ c2) = false := by
      cases c : special (v ^^^ c2) with
      | false => rfl
      | true => exact absurd (.inr c) hsp
    rw [loop16n _ s5.next v (v ^^^ c2) s6 hB hv0 hv1 _ rfl]
    have fz := hA3.freeze
    rw [hsl] at fz
    simp only [special, Bool.or_eq_false_iff, beq_eq_false_iff_ne] at hv0 hv1
    obtain ⟨o, s8, ys, t1, t2, t3, t4⟩ : ∃ o s' ys, ev 999 35 [.int .i64 100, .sl (bytesAV ((wrapB b 0).set k (v ^^^ c2))) (wrapB b 0).length none] (s6.upd bq (.froz 1 (bytesAV ((wrapB b 0).set k (v ^^^ c2))))) = some (o, s') ∧ IsL o ys ∧ AllBys ys (rxAll 100 ((wrapB b 0).set k (v ^^^ c2))) ∧ Ext (s6.upd bq (.froz 1 (bytesAV ((wrapB b 0).set k (v ^^^ c2))))) s' := by
      have := rxAll_ev (Bys.mk ((wrapB b 0).set k (v ^^^ c2)) none) 100 964 (by rw [hsl]; omega) (by rw [hsl]; omega) (s6.upd bq (.froz 1 (bytesAV ((wrapB b 0).set k (v ^^^ c2)))))
      rw [hsl] at this
      exact this
    have tl := t2.len
    rw [t3.length, rx_turn_none b hlen k v c2 hc hv hv0.1.1 hv0.1.2 hv0.2 hv1.1.1 hv1.1.2 hv1.2] at tl
    simp only [E16, List.replicate, List.cons_append, List.nil_append, fz, t1, tl, List.length_nil, Int.natCast_zero, beq_self_eq_true, env0, List.length_cons, List.length_nil, Nat.reduceAdd, Nat.reduceSub, List.replicate, List.cons_append, List.nil_append, evC_seq, evC_reg, evC_skip, evC_exit, evC_ret, evC_block, evC_condX, condX_true, condX_false, evOps_nil, evOps_one, contR_some, evOps_gd, gdR_tt, gdR_ft, gdR_tf, gdR_ff, gdR_un, bq_true, bq_false, ev1_mv, ev1_pick, ev1_bin, ev1_eqv, ev1_un, un_not, ev1_mki, ev1_slc, ev1_lenV, ev1_ixaV, ev1_appV, ev1_load, ev1_call, ev1_mn, ev1_mx, ev1_conv, ev1_alloc, ev1_storeV, ev1_bslR, bslR_sl, bslR_hs, fill_nil, fill_cons, fill1_u8a, fill1_u8b, fill1_ca, fill1_cb, thenO_some, loadR_rp, opd, Env.put, Env.at, seqR_nrm, seqR_exit, seqR_ret, regR_some, List.set_cons_zero, List.set_cons_succ, List.getD_cons_zero, List.getD_cons_succ, pR_some, wR_some, callR_some, freezeL, freeze_int, freeze_bool, freeze_str, freeze_u16, freeze_u8, freeze_ptr, freeze_nils, boolR_true, boolR_false, blockR_nrm, blockR_exit, blockR_ret, outR_ret, outR_nrm, resVs, resV_tmp, oneOr, Option.map_some, Option.map_none, List.map_cons, List.map_nil, if_true, if_false, Bool.not_true, Bool.not_false, Bool.false_eq_true, reduceIte, decide_true, decide_false, i64_lss, i64_leq, i64_gtr, i64_geq, i64_eql, i64_neq, i64_add, i64_sub]
    rfl
end Go.Proofs.Ytghfinbdgnggjaa.rxTurn
