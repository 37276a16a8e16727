/- What the evaluator says of the law CrcBit: true. No conditions. -/
import Derived.Test.YtghfinbdgnggjaaBegun
import Derived.Test.YtghfinbdgnggjaaMb
import Derived.Test.YtghfinbdgnggjaaHs
import Derived.Test.YtghfinbdgnggjaaPCrc
namespace Go.Proofs.Ytghfinbdgnggjaa.crcBit
open Go Go.Ab
set_option linter.unusedVariables false
set_option linter.unusedSimpArgs false
set_option maxRecDepth 100000 in
theorem says (b0 : List UInt8) {x0 : Ab.AV} (hx0 : Ab.IsBytes x0 b0) (n1 : Int) (hn1 : -9223372036854775808 ≤ n1 ∧ n1 ≤ 9223372036854775807) (n2 : Int) (hn2 : -9223372036854775808 ≤ n2 ∧ n2 ≤ 9223372036854775807) : Ab.saysTrue (ev 1000 12 [x0, .int .i64 n1, .int .i64 n2] Ab.St.nil) = true := by
  obtain ⟨s1, hb⟩ := begun_ev
  obtain ⟨y, s2, h1, h2, h3⟩ : ∃ y s', ev 999 20 [x0, .int .i64 60] s1 = some (y, s') ∧ Own s1 s' y (b0.take 60) ∧ Ext s1 s' := short_ev hx0.bys 998 60 (by omega) s1
  have hlen : (b0.take 60).length ≤ 60 := by simp; omega
  generalize b0.take 60 = b at h2 hlen
  have hy := h2.bys
  rw [show (1000 : Nat) = 999 + 1 from rfl, ev_in rfl tab12]
  by_cases hz : b.length = 0
  · have h0 : ((b.length : Int) == 0) = true := by simp [hz]
    simp only [M12, hb, hx0.bys.freeze, h1, hy.len, h0, env0, List.length_cons, List.length_nil, Nat.reduceAdd, Nat.reduceSub, List.replicate, List.cons_append, List.nil_append, evC_seq, evC_reg, evC_skip, evC_exit, evC_ret, evC_block, evC_condX, condX_true, condX_false, evOps_nil, evOps_one, contR_some, evOps_gd, gdR_tt, gdR_ft, gdR_tf, gdR_ff, gdR_un, bq_true, bq_false, ev1_mv, ev1_pick, ev1_bin, ev1_eqv, ev1_un, un_not, ev1_mki, ev1_slc, ev1_lenV, ev1_ixaV, ev1_appV, ev1_load, ev1_call, ev1_mn, ev1_mx, ev1_conv, ev1_alloc, ev1_storeV, ev1_bslR, bslR_sl, bslR_hs, fill_nil, fill_cons, fill1_u8a, fill1_u8b, fill1_ca, fill1_cb, thenO_some, loadR_rp, opd, Env.put, Env.at, seqR_nrm, seqR_exit, seqR_ret, regR_some, List.set_cons_zero, List.set_cons_succ, List.getD_cons_zero, List.getD_cons_succ, pR_some, wR_some, callR_some, freezeL, freeze_int, freeze_bool, freeze_str, freeze_u16, freeze_u8, freeze_ptr, freeze_nils, boolR_true, boolR_false, blockR_nrm, blockR_exit, blockR_ret, outR_ret, outR_nrm, resVs, resV_tmp, oneOr, Option.map_some, Option.map_none, List.map_cons, List.map_nil, if_true, if_false, Bool.not_true, Bool.not_false, Bool.false_eq_true, reduceIte, decide_true, decide_false, i64_lss, i64_leq, i64_gtr, i64_geq, i64_eql, i64_neq, i64_add, i64_sub, b16_not, b16_eql, str_eql, str_neq, u8_eql, u8_neq, eqAV, eqFl, eqSc, beq_self_eq_true]
    rfl
  have h0 : ((b.length : Int) == 0) = false := by simp; exact fun e => hz (by simp [e])
  by_cases hn : n1 < 0
  · have h0' : (n1 < 0) = True := eq_true hn
    simp only [M12, hb, hx0.bys.freeze, h1, hy.len, h0, h0', env0, List.length_cons, List.length_nil, Nat.reduceAdd, Nat.reduceSub, List.replicate, List.cons_append, List.nil_append, evC_seq, evC_reg, evC_skip, evC_exit, evC_ret, evC_block, evC_condX, condX_true, condX_false, evOps_nil, evOps_one, contR_some, evOps_gd, gdR_tt, gdR_ft, gdR_tf, gdR_ff, gdR_un, bq_true, bq_false, ev1_mv, ev1_pick, ev1_bin, ev1_eqv, ev1_un, un_not, ev1_mki, ev1_slc, ev1_lenV, ev1_ixaV, ev1_appV, ev1_load, ev1_call, ev1_mn, ev1_mx, ev1_conv, ev1_alloc, ev1_storeV, ev1_bslR, bslR_sl, bslR_hs, fill_nil, fill_cons, fill1_u8a, fill1_u8b, fill1_ca, fill1_cb, thenO_some, loadR_rp, opd, Env.put, Env.at, seqR_nrm, seqR_exit, seqR_ret, regR_some, List.set_cons_zero, List.set_cons_succ, List.getD_cons_zero, List.getD_cons_succ, pR_some, wR_some, callR_some, freezeL, freeze_int, freeze_bool, freeze_str, freeze_u16, freeze_u8, freeze_ptr, freeze_nils, boolR_true, boolR_false, blockR_nrm, blockR_exit, blockR_ret, outR_ret, outR_nrm, resVs, resV_tmp, oneOr, Option.map_some, Option.map_none, List.map_cons, List.map_nil, if_true, if_false, Bool.not_true, Bool.not_false, Bool.false_eq_true, reduceIte, decide_true, decide_false, i64_lss, i64_leq, i64_gtr, i64_geq, i64_eql, i64_neq, i64_add, i64_sub, b16_not, b16_eql, str_eql, str_neq, u8_eql, u8_neq, eqAV, eqFl, eqSc, beq_self_eq_true]
    rfl
  have hn' : (n1 < 0) = False := eq_false hn
  by_cases hm : n2 < 0
  · have h0' : (n2 < 0) = True := eq_true hm
    simp only [M12, hb, hx0.bys.freeze, h1, hy.len, h0, hn', h0', env0, List.length_cons, List.length_nil, Nat.reduceAdd, Nat.reduceSub, List.replicate, List.cons_append, List.nil_append, evC_seq, evC_reg, evC_skip, evC_exit, evC_ret, evC_block, evC_condX, condX_true, condX_false, evOps_nil, evOps_one, contR_some, evOps_gd, gdR_tt, gdR_ft, gdR_tf, gdR_ff, gdR_un, bq_true, bq_false, ev1_mv, ev1_pick, ev1_bin, ev1_eqv, ev1_un, un_not, ev1_mki, ev1_slc, ev1_lenV, ev1_ixaV, ev1_appV, ev1_load, ev1_call, ev1_mn, ev1_mx, ev1_conv, ev1_alloc, ev1_storeV, ev1_bslR, bslR_sl, bslR_hs, fill_nil, fill_cons, fill1_u8a, fill1_u8b, fill1_ca, fill1_cb, thenO_some, loadR_rp, opd, Env.put, Env.at, seqR_nrm, seqR_exit, seqR_ret, regR_some, List.set_cons_zero, List.set_cons_succ, List.getD_cons_zero, List.getD_cons_succ, pR_some, wR_some, callR_some, freezeL, freeze_int, freeze_bool, freeze_str, freeze_u16, freeze_u8, freeze_ptr, freeze_nils, boolR_true, boolR_false, blockR_nrm, blockR_exit, blockR_ret, outR_ret, outR_nrm, resVs, resV_tmp, oneOr, Option.map_some, Option.map_none, List.map_cons, List.map_nil, if_true, if_false, Bool.not_true, Bool.not_false, Bool.false_eq_true, reduceIte, decide_true, decide_false, i64_lss, i64_leq, i64_gtr, i64_geq, i64_eql, i64_neq, i64_add, i64_sub, b16_not, b16_eql, str_eql, str_neq, u8_eql, u8_neq, eqAV, eqFl, eqSc, beq_self_eq_true]
    rfl
  have hm' : (n2 < 0) = False := eq_false hm
  obtain ⟨i, rfl⟩ : ∃ m : Nat, n1 = (m : Int) := ⟨n1.toNat, by omega⟩
  obtain ⟨k, rfl⟩ : ∃ m : Nat, n2 = (m : Int) := ⟨n2.toNat, by omega⟩
  have g1 : IntKind.i64.wrap ((b.length : Int) * 8) = ((8 * b.length : Nat) : Int) := by rw [wrapI _ (by omega) (by omega)]; omega
  have g2 := i64_remN i (8 * b.length) (by omega)
  have g3 := i64_remN k (8 * b.length) (by omega)
  have hi : i % (8 * b.length) < 8 * b.length := Nat.mod_lt _ (by omega)
  have hk : k % (8 * b.length) < 8 * b.length := Nat.mod_lt _ (by omega)
  generalize i % (8 * b.length) = i at g2 hi
  generalize k % (8 * b.length) = k at g3 hk
  have hne : b ≠ [] := by intro e; rw [e] at hz; simp at hz
  have a1 := app_own s2 hy hne (by omega)
  have a2 := app_own (s2.new (.cells 1 (bytesAV b))) hy hne (by omega)
  have q1 : binV .quo (.int .i64 (i : Int)) (.int .i64 8) = some (.int .i64 ((i / 8 : Nat) : Int)) := i64_quoN i 8 (by omega) (by omega)
  have q2 : binV .rem (.int .i64 (i : Int)) (.int .i64 8) = some (.int .i64 ((i % 8 : Nat) : Int)) := i64_remN i 8 (by omega)
  have q3 := u8_shl1 (i % 8) (by omega)
  have q4 : binV .quo (.int .i64 (k : Int)) (.int .i64 8) = some (.int .i64 ((k / 8 : Nat) : Int)) := i64_quoN k 8 (by omega) (by omega)
  have q5 : binV .rem (.int .i64 (k : Int)) (.int .i64 8) = some (.int .i64 ((k % 8 : Nat) : Int)) := i64_remN k 8 (by omega)
  have q6 := u8_shl1 (k % 8) (by omega)
  have ji : i / 8 < b.length := by omega
  have jk : k / 8 < b.length := by omega
  have ti : b.set (i / 8) (b[i / 8] ^^^ (1 <<< UInt8.ofNat (i % 8))) = turnBit b i := by simp [turnBit, ji]
  have tk : b.set (k / 8) (b[k / 8] ^^^ (1 <<< UInt8.ofNat (k % 8))) = turnBit b k := by simp [turnBit, jk]
  have hne2 : s2.next ≠ (s2.new (.cells 1 (bytesAV b))).next := by simp [St.new]
  have hA : Has ((s2.new (.cells 1 (bytesAV b))).new (.cells 1 (bytesAV b))) s2.next b := (get_new_ne _ _ hne2).trans (Has.new s2 b)
  have hB : Has ((s2.new (.cells 1 (bytesAV b))).new (.cells 1 (bytesAV b))) (s2.new (.cells 1 (bytesAV b))).next b := Has.new _ b
  have i1 := hs_ixa s2.next b.length (i / 8) ji
  have i2 := hs_ixa (s2.new (.cells 1 (bytesAV b))).next b.length (k / 8) jk
  have l1 := hA.load (i / 8) ji
  have st1 := hA.store (i / 8) ji (b[i / 8] ^^^ (1 <<< UInt8.ofNat (i % 8)))
  rw [ti] at st1
  have hA2 := hA.upd (turnBit b i)
  have hB2 : Has (((s2.new (.cells 1 (bytesAV b))).new (.cells 1 (bytesAV b))).upd s2.next (.cells 1 (bytesAV (turnBit b i)))) (s2.new (.cells 1 (bytesAV b))).next b := (get_upd_ne _ _ hne2.symm).trans hB
  generalize hs4 : ((s2.new (.cells 1 (bytesAV b))).new (.cells 1 (bytesAV b))) = s4 at *
  generalize hby : (s2.new (.cells 1 (bytesAV b))).next = by' at *
  generalize hbx : s2.next = bx at *
  generalize hs3 : (s2.new (.cells 1 (bytesAV b))) = s3 at *
  generalize s4.upd bx (.cells 1 (bytesAV (turnBit b i))) = s5 at *
  have l2 := hB2.load (k / 8) jk
  have st2 := hB2.store (k / 8) jk (b[k / 8] ^^^ (1 <<< UInt8.ofNat (k % 8)))
  rw [tk] at st2
  have hB3 := hB2.upd (turnBit b k)
  have hA3 : Has (s5.upd by' (.cells 1 (bytesAV (turnBit b k)))) bx (turnBit b i) := (get_upd_ne _ _ hne2).trans hA2
  generalize s5.upd by' (.cells 1 (bytesAV (turnBit b k))) = s6 at *
  have f1 := hA3.freeze
  have hA4 := hA3.froz
  have hB4 : Has (s6.upd bx (.froz 1 (bytesAV (turnBit b i)))) by' (turnBit b k) := (get_upd_ne _ _ hne2.symm).trans hB3
  generalize s6.upd bx (.froz 1 (bytesAV (turnBit b i))) = s7 at *
  have f2 := hA4.freeze
  have f3 := hB4.freeze
  have of' : ∀ {x : AV} {xs : List UInt8} (hx : Bys x xs) (hl : xs.length ≤ 900) (s : St), ev 999 21 [x] s = some (u16 (crcOf xs), s) := fun hx hl s => ofB hx 978 (by omega) (by omega) s
  have o1 := of' hy (by omega)
  have o2 := of' (Bys.mk (turnBit b i) none) (by rw [turnBit_length]; omega)
  have o3 := of' (Bys.mk (turnBit b k) none) (by rw [turnBit_length]; omega)
  rw [turnBit_length] at f1 f2 f3 o2 o3
  have c1 : (crcOf (turnBit b i) == crcOf b) = false := by rw [beq_eq_false_iff_ne]; exact turn_of b i hi
  have c2 := turn_apart b hlen i k hi hk
  have c3 : ((i : Int) == (k : Int)) = (i == k) := by rw [Bool.eq_iff_iff, beq_iff_eq, beq_iff_eq]; omega
  simp only [M12, hb, hx0.bys.freeze, h1, hy.len, h0, hn', hm', i64_mul, g1, g2, g3, env0, List.length_cons, List.length_nil, Nat.reduceAdd, Nat.reduceSub, List.replicate, List.cons_append, List.nil_append, evC_seq, evC_reg, evC_skip, evC_exit, evC_ret, evC_block, evC_condX, condX_true, condX_false, evOps_nil, evOps_one, contR_some, evOps_gd, gdR_tt, gdR_ft, gdR_tf, gdR_ff, gdR_un, bq_true, bq_false, ev1_mv, ev1_pick, ev1_bin, ev1_eqv, ev1_un, un_not, ev1_mki, ev1_slc, ev1_lenV, ev1_ixaV, ev1_appV, ev1_load, ev1_call, ev1_mn, ev1_mx, ev1_conv, ev1_alloc, ev1_storeV, ev1_bslR, bslR_sl, bslR_hs, fill_nil, fill_cons, fill1_u8a, fill1_u8b, fill1_ca, fill1_cb, thenO_some, loadR_rp, opd, Env.put, Env.at, seqR_nrm, seqR_exit, seqR_ret, regR_some, List.set_cons_zero, List.set_cons_succ, List.getD_cons_zero, List.getD_cons_succ, pR_some, wR_some, callR_some, freezeL, freeze_int, freeze_bool, freeze_str, freeze_u16, freeze_u8, freeze_ptr, freeze_nils, boolR_true, boolR_false, blockR_nrm, blockR_exit, blockR_ret, outR_ret, outR_nrm, resVs, resV_tmp, oneOr, Option.map_some, Option.map_none, List.map_cons, List.map_nil, if_true, if_false, Bool.not_true, Bool.not_false, Bool.false_eq_true, reduceIte, decide_true, decide_false, i64_lss, i64_leq, i64_gtr, i64_geq, i64_eql, i64_neq, i64_add, i64_sub, b16_not, b16_eql, str_eql, str_neq, u8_eql, u8_neq, eqAV, eqFl, eqSc, beq_self_eq_true, evC_draw, evLoud_nil, evLoud_one, az_mv, az_pick, az_bin, az_eqv, az_un, az_conv, az_mki, az_slc, az_sls, az_lens, az_ixs, az_fa, az_fld, az_ixa, az_ixp, az_ix, az_load, az_store, az_nchk, az_tas, az_ext, az_call, az_len, az_mn, az_mx, az_app, az_build, az_bsl, az_box, az_mks, az_cpy, az_rng, az_nxt, bk_mv, bk_pick, bk_bin, bk_eqv, bk_un, bk_mki, bk_slc, bk_sls, bk_lens, bk_ixs, bk_fa, bk_fld, bk_ixa, bk_ixp, bk_ix, bk_store, bk_nchk, bk_tas, bk_ext, bk_call, bk_len, bk_mn, bk_mx, bk_app, bk_build, bk_bsl, bk_box, bk_mks, bk_cpy, bk_rng, bk_nxt, bk_alloc, reserve_nil, reserve_none, reserve_gd, reserve_alloc, contL_some, evLoud_gd, gdL_tt, gdL_ft, gdL_tf, gdL_ff, gdL_un, evLoud_alloc, placeR]
  rw [drawR_ok]; case h => exact calm_quiet (by simp only [List.map_cons, List.map_nil]; decide +kernel)
  simp only [a1, a2, hbx, hby, hs3, hs4, q1, q2, q3, i1, l1, b8_xor, st1, env0, List.length_cons, List.length_nil, Nat.reduceAdd, Nat.reduceSub, List.replicate, List.cons_append, List.nil_append, evC_seq, evC_reg, evC_skip, evC_exit, evC_ret, evC_block, evC_condX, condX_true, condX_false, evOps_nil, evOps_one, contR_some, evOps_gd, gdR_tt, gdR_ft, gdR_tf, gdR_ff, gdR_un, bq_true, bq_false, ev1_mv, ev1_pick, ev1_bin, ev1_eqv, ev1_un, un_not, ev1_mki, ev1_slc, ev1_lenV, ev1_ixaV, ev1_appV, ev1_load, ev1_call, ev1_mn, ev1_mx, ev1_conv, ev1_alloc, ev1_storeV, ev1_bslR, bslR_sl, bslR_hs, fill_nil, fill_cons, fill1_u8a, fill1_u8b, fill1_ca, fill1_cb, thenO_some, loadR_rp, opd, Env.put, Env.at, seqR_nrm, seqR_exit, seqR_ret, regR_some, List.set_cons_zero, List.set_cons_succ, List.getD_cons_zero, List.getD_cons_succ, pR_some, wR_some, callR_some, freezeL, freeze_int, freeze_bool, freeze_str, freeze_u16, freeze_u8, freeze_ptr, freeze_nils, boolR_true, boolR_false, blockR_nrm, blockR_exit, blockR_ret, outR_ret, outR_nrm, resVs, resV_tmp, oneOr, Option.map_some, Option.map_none, List.map_cons, List.map_nil, if_true, if_false, Bool.not_true, Bool.not_false, Bool.false_eq_true, reduceIte, decide_true, decide_false, i64_lss, i64_leq, i64_gtr, i64_geq, i64_eql, i64_neq, i64_add, i64_sub, b16_not, b16_eql, str_eql, str_neq, u8_eql, u8_neq, eqAV, eqFl, eqSc, beq_self_eq_true, evC_draw, evLoud_nil, evLoud_one, az_mv, az_pick, az_bin, az_eqv, az_un, az_conv, az_mki, az_slc, az_sls, az_lens, az_ixs, az_fa, az_fld, az_ixa, az_ixp, az_ix, az_load, az_store, az_nchk, az_tas, az_ext, az_call, az_len, az_mn, az_mx, az_app, az_build, az_bsl, az_box, az_mks, az_cpy, az_rng, az_nxt, bk_mv, bk_pick, bk_bin, bk_eqv, bk_un, bk_mki, bk_slc, bk_sls, bk_lens, bk_ixs, bk_fa, bk_fld, bk_ixa, bk_ixp, bk_ix, bk_store, bk_nchk, bk_tas, bk_ext, bk_call, bk_len, bk_mn, bk_mx, bk_app, bk_build, bk_bsl, bk_box, bk_mks, bk_cpy, bk_rng, bk_nxt, bk_alloc, reserve_nil, reserve_none, reserve_gd, reserve_alloc, contL_some, evLoud_gd, gdL_tt, gdL_ft, gdL_tf, gdL_ff, gdL_un, evLoud_alloc, placeR]
  rw [drawR_ok]; case h => exact calm_quiet (by simp only [List.map_cons, List.map_nil]; decide +kernel)
  simp only [q4, q5, q6, i2, l2, b8_xor, st2, env0, List.length_cons, List.length_nil, Nat.reduceAdd, Nat.reduceSub, List.replicate, List.cons_append, List.nil_append, evC_seq, evC_reg, evC_skip, evC_exit, evC_ret, evC_block, evC_condX, condX_true, condX_false, evOps_nil, evOps_one, contR_some, evOps_gd, gdR_tt, gdR_ft, gdR_tf, gdR_ff, gdR_un, bq_true, bq_false, ev1_mv, ev1_pick, ev1_bin, ev1_eqv, ev1_un, un_not, ev1_mki, ev1_slc, ev1_lenV, ev1_ixaV, ev1_appV, ev1_load, ev1_call, ev1_mn, ev1_mx, ev1_conv, ev1_alloc, ev1_storeV, ev1_bslR, bslR_sl, bslR_hs, fill_nil, fill_cons, fill1_u8a, fill1_u8b, fill1_ca, fill1_cb, thenO_some, loadR_rp, opd, Env.put, Env.at, seqR_nrm, seqR_exit, seqR_ret, regR_some, List.set_cons_zero, List.set_cons_succ, List.getD_cons_zero, List.getD_cons_succ, pR_some, wR_some, callR_some, freezeL, freeze_int, freeze_bool, freeze_str, freeze_u16, freeze_u8, freeze_ptr, freeze_nils, boolR_true, boolR_false, blockR_nrm, blockR_exit, blockR_ret, outR_ret, outR_nrm, resVs, resV_tmp, oneOr, Option.map_some, Option.map_none, List.map_cons, List.map_nil, if_true, if_false, Bool.not_true, Bool.not_false, Bool.false_eq_true, reduceIte, decide_true, decide_false, i64_lss, i64_leq, i64_gtr, i64_geq, i64_eql, i64_neq, i64_add, i64_sub, b16_not, b16_eql, str_eql, str_neq, u8_eql, u8_neq, eqAV, eqFl, eqSc, beq_self_eq_true, evC_draw, evLoud_nil, evLoud_one, az_mv, az_pick, az_bin, az_eqv, az_un, az_conv, az_mki, az_slc, az_sls, az_lens, az_ixs, az_fa, az_fld, az_ixa, az_ixp, az_ix, az_load, az_store, az_nchk, az_tas, az_ext, az_call, az_len, az_mn, az_mx, az_app, az_build, az_bsl, az_box, az_mks, az_cpy, az_rng, az_nxt, bk_mv, bk_pick, bk_bin, bk_eqv, bk_un, bk_mki, bk_slc, bk_sls, bk_lens, bk_ixs, bk_fa, bk_fld, bk_ixa, bk_ixp, bk_ix, bk_store, bk_nchk, bk_tas, bk_ext, bk_call, bk_len, bk_mn, bk_mx, bk_app, bk_build, bk_bsl, bk_box, bk_mks, bk_cpy, bk_rng, bk_nxt, bk_alloc, reserve_nil, reserve_none, reserve_gd, reserve_alloc, contL_some, evLoud_gd, gdL_tt, gdL_ft, gdL_tf, gdL_ff, gdL_un, evLoud_alloc, placeR]
  rw [drawR_ok]; case h => exact calm_quiet (by simp only [List.map_cons, List.map_nil]; decide +kernel)
  simp only [f1, f2, f3, o1, o2, o3, hy.freeze, b16_neq, c1, c2, c3, env0, List.length_cons, List.length_nil, Nat.reduceAdd, Nat.reduceSub, List.replicate, List.cons_append, List.nil_append, evC_seq, evC_reg, evC_skip, evC_exit, evC_ret, evC_block, evC_condX, condX_true, condX_false, evOps_nil, evOps_one, contR_some, evOps_gd, gdR_tt, gdR_ft, gdR_tf, gdR_ff, gdR_un, bq_true, bq_false, ev1_mv, ev1_pick, ev1_bin, ev1_eqv, ev1_un, un_not, ev1_mki, ev1_slc, ev1_lenV, ev1_ixaV, ev1_appV, ev1_load, ev1_call, ev1_mn, ev1_mx, ev1_conv, ev1_alloc, ev1_storeV, ev1_bslR, bslR_sl, bslR_hs, fill_nil, fill_cons, fill1_u8a, fill1_u8b, fill1_ca, fill1_cb, thenO_some, loadR_rp, opd, Env.put, Env.at, seqR_nrm, seqR_exit, seqR_ret, regR_some, List.set_cons_zero, List.set_cons_succ, List.getD_cons_zero, List.getD_cons_succ, pR_some, wR_some, callR_some, freezeL, freeze_int, freeze_bool, freeze_str, freeze_u16, freeze_u8, freeze_ptr, freeze_nils, boolR_true, boolR_false, blockR_nrm, blockR_exit, blockR_ret, outR_ret, outR_nrm, resVs, resV_tmp, oneOr, Option.map_some, Option.map_none, List.map_cons, List.map_nil, if_true, if_false, Bool.not_true, Bool.not_false, Bool.false_eq_true, reduceIte, decide_true, decide_false, i64_lss, i64_leq, i64_gtr, i64_geq, i64_eql, i64_neq, i64_add, i64_sub, b16_not, b16_eql, str_eql, str_neq, u8_eql, u8_neq, eqAV, eqFl, eqSc, beq_self_eq_true]
  rfl
end Go.Proofs.Ytghfinbdgnggjaa.crcBit
