/- What the evaluator says of the law CtlBytes: true. No conditions. -/
import Derived.Test.YthcblggiojpmcaaDoorBegunT2
import Derived.Test.YthcblggiojpmcaaDoorPCtl
import Derived.Test.YthcblggiojpmcaaDoorPlainT
namespace Go.Proofs.YthcblggiojpmcaaDoor.ctlBytes
open Go Go.Ab
set_option linter.unusedVariables false
set_option linter.unusedSimpArgs false
set_option maxRecDepth 100000 in
theorem says (as0 : List Ab.AV) (hs0 : Ab.ScL Tryd.prog plainTypes as0) (as1 : List Ab.AV) (hs1 : Ab.ScL Tryd.prog plainTypes as1) : Ab.saysTrue (evT 1000 13 [.agg as0, .agg as1] Ab.St.nil) = true := by
  obtain ⟨seat, count, cmd, kind, sort, nr, ns, pf, body, rfl⟩ := plain_of hs0
  obtain ⟨seat', count', cmd', kind', sort', nr', ns', pf', body', rfl⟩ := plain_of hs1
  obtain ⟨s3, hb, hg0, hg1, hnx⟩ := begunT2 [.int .i64 seat, .int .i64 count, .bool cmd, .int .i64 kind, .int .i64 sort, .int .i64 nr, .int .i64 ns, .bool pf, .str body] [.int .i64 seat', .int .i64 count', .bool cmd', .int .i64 kind', .int .i64 sort', .int .i64 nr', .int .i64 ns', .bool pf', .str body']
  have ld0 : loadR s3 (some 9) (.ptr 0 0) = some (.agg [.int .i64 seat, .int .i64 count, .bool cmd, .int .i64 kind, .int .i64 sort, .int .i64 nr, .int .i64 ns, .bool pf, .str body], s3, 1) := by
    simp only [loadR, hg0]; rfl
  have a1 := any1_ev 998 seat count kind sort nr ns cmd pf body s3
  have hg1' : (s3.new (.cells 0 [.int .i64 seat, .int .i64 count, .bool cmd, .int .i64 kind, .int .i64 sort, .int .i64 nr, .int .i64 ns, .bool pf, .str body])).get 1 = some (.cells 0 [.int .i64 seat', .int .i64 count', .bool cmd', .int .i64 kind', .int .i64 sort', .int .i64 nr', .int .i64 ns', .bool pf', .str body']) := by
    rw [get_new_ne _ _ (by omega)]; exact hg1
  generalize hs4 : s3.new (.cells 0 [.int .i64 seat, .int .i64 count, .bool cmd, .int .i64 kind, .int .i64 sort, .int .i64 nr, .int .i64 ns, .bool pf, .str body]) = s4 at a1 hg1'
  have ld1 : loadR s4 (some 9) (.ptr 1 0) = some (.agg [.int .i64 seat', .int .i64 count', .bool cmd', .int .i64 kind', .int .i64 sort', .int .i64 nr', .int .i64 ns', .bool pf', .str body'], s4, 1) := by
    simp only [loadR, hg1']; rfl
  have a2 := any1_ev 998 seat' count' kind' sort' nr' ns' cmd' pf' body' s4
  generalize s4.new (.cells 0 [.int .i64 seat', .int .i64 count', .bool cmd', .int .i64 kind', .int .i64 sort', .int .i64 nr', .int .i64 ns', .bool pf', .str body']) = s5 at a2
  generalize any1 kind sort nr ns pf = c at a1
  generalize any1 kind' sort' nr' ns' pf' = d at a2
  obtain ⟨s6, p1⟩ : ∃ s', evT 999 35 [c.av] s5 = some (.tup [.int .u8 (if c.may = true then c.num else 0), .bool c.may], s') := put_ev 996 c s5
  obtain ⟨s7, p2⟩ : ∃ s', evT 999 35 [d.av] s6 = some (.tup [.int .u8 (if d.may = true then d.num else 0), .bool d.may], s') := put_ev 996 d s6
  have fc := fun n s => c.freeze n s
  have fd := fun n s => d.freeze n s
  have hce := ct_eq c d
  have hfb : ∀ a b : Bool, eqAV (.flat (.one .b)) (.bool a) (.bool b) = some (a == b) := fun a b => rfl
  have bu : ∀ a b : Int, binV .eql (.int .u8 a) (.int .u8 b) = some (.bool (a == b)) := fun a b => rfl
  have hnil : St.nil.next = 0 := rfl
  have hnil1 : (St.nil.new (.cells 0 [.int .i64 seat, .int .i64 count, .bool cmd, .int .i64 kind, .int .i64 sort, .int .i64 nr, .int .i64 ns, .bool pf, .str body])).next = 1 := rfl
  rw [show (1000 : Nat) = 999 + 1 from rfl, evT_in rfl tab13]
  simp only [twoBox] at hb
  simp only [M13, ev1_boxV, cells_agg, boxV_some, hb, hnil, hnil1, ld0, a1, ld1, a2, freeze_agg, bk_load, bkV_ptr, env0, List.length_cons, List.length_nil, Nat.reduceAdd, Nat.reduceSub, List.replicate, List.cons_append, List.nil_append, evC_seq, evC_reg, evC_skip, evC_exit, evC_ret, evC_block, evC_condX, condX_true, condX_false, evOps_nil, evOps_one, contR_some, evOps_gd, gdR_tt, gdR_ft, gdR_tf, gdR_ff, gdR_un, bq_true, bq_false, ev1_mv, ev1_pick, ev1_bin, ev1_eqv, ev1_un, un_not, ev1_mki, ev1_slc, ev1_lenV, ev1_ixaV, ev1_appV, ev1_load, ev1_call, ev1_mn, ev1_mx, ev1_conv, ev1_alloc, ev1_storeV, ev1_bslR, bslR_sl, bslR_hs, fill_nil, fill_cons, fill1_u8a, fill1_u8b, fill1_ca, fill1_cb, thenO_some, loadR_rp, opd, Env.put, Env.at, seqR_nrm, seqR_exit, seqR_ret, regR_some, List.set_cons_zero, List.set_cons_succ, List.getD_cons_zero, List.getD_cons_succ, pR_some, wR_some, callR_some, freezeL, freeze_int, freeze_bool, freeze_str, freeze_u16, freeze_u8, freeze_ptr, freeze_nils, boolR_true, boolR_false, blockR_nrm, blockR_exit, blockR_ret, outR_ret, outR_nrm, resVs, resV_tmp, oneOr, Option.map_some, Option.map_none, List.map_cons, List.map_nil, if_true, if_false, Bool.not_true, Bool.not_false, Bool.false_eq_true, reduceIte, decide_true, decide_false, i64_lss, i64_leq, i64_gtr, i64_geq, i64_eql, i64_neq, i64_add, i64_sub, evC_draw, evLoud_nil, evLoud_one, az_mv, az_pick, az_bin, az_eqv, az_un, az_conv, az_mki, az_slc, az_sls, az_lens, az_ixs, az_fa, az_fld, az_ixa, az_ixp, az_ix, az_load, az_store, az_nchk, az_tas, az_ext, az_call, az_len, az_mn, az_mx, az_app, az_build, az_bsl, az_box, az_mks, az_cpy, az_rng, az_nxt, bk_mv, bk_pick, bk_bin, bk_eqv, bk_un, bk_mki, bk_slc, bk_sls, bk_lens, bk_ixs, bk_fa, bk_fld, bk_ixa, bk_ixp, bk_ix, bk_store, bk_nchk, bk_tas, bk_ext, bk_call, bk_len, bk_mn, bk_mx, bk_app, bk_build, bk_bsl, bk_box, bk_mks, bk_cpy, bk_rng, bk_nxt, bk_alloc, reserve_nil, reserve_none, reserve_gd, reserve_alloc, contL_some, evLoud_gd, gdL_tt, gdL_ft, gdL_tf, gdL_ff, gdL_un, evLoud_alloc, placeR]
  rw [drawR_ok]; case h => simp [calm, calmPair, calmTwo, List.range, List.range.loop, sameO, hg1, hg1', sameL, same]; exact ⟨by decide, .inl (by decide)⟩
  cases hc : c.may with
  | false =>
    rw [hc] at p1
    simp only [fc, fd, p1, p2, env0, List.length_cons, List.length_nil, Nat.reduceAdd, Nat.reduceSub, List.replicate, List.cons_append, List.nil_append, evC_seq, evC_reg, evC_skip, evC_exit, evC_ret, evC_block, evC_condX, condX_true, condX_false, evOps_nil, evOps_one, contR_some, evOps_gd, gdR_tt, gdR_ft, gdR_tf, gdR_ff, gdR_un, bq_true, bq_false, ev1_mv, ev1_pick, ev1_bin, ev1_eqv, ev1_un, un_not, ev1_mki, ev1_slc, ev1_lenV, ev1_ixaV, ev1_appV, ev1_load, ev1_call, ev1_mn, ev1_mx, ev1_conv, ev1_alloc, ev1_storeV, ev1_bslR, bslR_sl, bslR_hs, fill_nil, fill_cons, fill1_u8a, fill1_u8b, fill1_ca, fill1_cb, thenO_some, loadR_rp, opd, Env.put, Env.at, seqR_nrm, seqR_exit, seqR_ret, regR_some, List.set_cons_zero, List.set_cons_succ, List.getD_cons_zero, List.getD_cons_succ, pR_some, wR_some, callR_some, freezeL, freeze_int, freeze_bool, freeze_str, freeze_u16, freeze_u8, freeze_ptr, freeze_nils, boolR_true, boolR_false, blockR_nrm, blockR_exit, blockR_ret, outR_ret, outR_nrm, resVs, resV_tmp, oneOr, Option.map_some, Option.map_none, List.map_cons, List.map_nil, if_true, if_false, Bool.not_true, Bool.not_false, Bool.false_eq_true, reduceIte, decide_true, decide_false, i64_lss, i64_leq, i64_gtr, i64_geq, i64_eql, i64_neq, i64_add, i64_sub, load_ptr, ldV_some, cellAt_cells, List.getElem?_cons_zero, List.getElem?_cons_succ, store_ptr, stO_some, setAt_0, setAt_1, setAt_2, setAt_3, setAt_4, setAt_5, setAt_6, setAt_7, setAt_8, setAt_9, setAt_10, setAt_11, setAt_12, cells_int, cells_bool, cells_str, cells_nils, cells_nilp, cells_ptr, cells_sl, cells_u8, cells_u16, cells_agg, get_upd_is, Option.isSome_some, upd_upd, ev1_nchkV, ev1_faV, nchkV_ptr, faV_ptr, ev1_extV, extV_tup, eqptr_nil, eqptr_ptr, Nat.zero_add, Nat.add_zero]
    rfl
  | true =>
    rw [hc] at p1
    cases hd : d.may with
    | false =>
      rw [hd] at p2
      simp only [fc, fd, p1, p2, env0, List.length_cons, List.length_nil, Nat.reduceAdd, Nat.reduceSub, List.replicate, List.cons_append, List.nil_append, evC_seq, evC_reg, evC_skip, evC_exit, evC_ret, evC_block, evC_condX, condX_true, condX_false, evOps_nil, evOps_one, contR_some, evOps_gd, gdR_tt, gdR_ft, gdR_tf, gdR_ff, gdR_un, bq_true, bq_false, ev1_mv, ev1_pick, ev1_bin, ev1_eqv, ev1_un, un_not, ev1_mki, ev1_slc, ev1_lenV, ev1_ixaV, ev1_appV, ev1_load, ev1_call, ev1_mn, ev1_mx, ev1_conv, ev1_alloc, ev1_storeV, ev1_bslR, bslR_sl, bslR_hs, fill_nil, fill_cons, fill1_u8a, fill1_u8b, fill1_ca, fill1_cb, thenO_some, loadR_rp, opd, Env.put, Env.at, seqR_nrm, seqR_exit, seqR_ret, regR_some, List.set_cons_zero, List.set_cons_succ, List.getD_cons_zero, List.getD_cons_succ, pR_some, wR_some, callR_some, freezeL, freeze_int, freeze_bool, freeze_str, freeze_u16, freeze_u8, freeze_ptr, freeze_nils, boolR_true, boolR_false, blockR_nrm, blockR_exit, blockR_ret, outR_ret, outR_nrm, resVs, resV_tmp, oneOr, Option.map_some, Option.map_none, List.map_cons, List.map_nil, if_true, if_false, Bool.not_true, Bool.not_false, Bool.false_eq_true, reduceIte, decide_true, decide_false, i64_lss, i64_leq, i64_gtr, i64_geq, i64_eql, i64_neq, i64_add, i64_sub, load_ptr, ldV_some, cellAt_cells, List.getElem?_cons_zero, List.getElem?_cons_succ, store_ptr, stO_some, setAt_0, setAt_1, setAt_2, setAt_3, setAt_4, setAt_5, setAt_6, setAt_7, setAt_8, setAt_9, setAt_10, setAt_11, setAt_12, cells_int, cells_bool, cells_str, cells_nils, cells_nilp, cells_ptr, cells_sl, cells_u8, cells_u16, cells_agg, get_upd_is, Option.isSome_some, upd_upd, ev1_nchkV, ev1_faV, nchkV_ptr, faV_ptr, ev1_extV, extV_tup, eqptr_nil, eqptr_ptr, Nat.zero_add, Nat.add_zero]
      rfl
    | true =>
      rw [hd] at p2
      have hq : (c.num == d.num) = decide (c = d) := by
        by_cases h : c = d
        · subst h; simp
        · have : c.num ≠ d.num := fun e => h (num_inj c d hc hd e)
          simp [h, this]
      simp only [fc, fd, p1, p2, bu, ev1_eqv, hce, hq, hfb, beq_self_eq_true, env0, List.length_cons, List.length_nil, Nat.reduceAdd, Nat.reduceSub, List.replicate, List.cons_append, List.nil_append, evC_seq, evC_reg, evC_skip, evC_exit, evC_ret, evC_block, evC_condX, condX_true, condX_false, evOps_nil, evOps_one, contR_some, evOps_gd, gdR_tt, gdR_ft, gdR_tf, gdR_ff, gdR_un, bq_true, bq_false, ev1_mv, ev1_pick, ev1_bin, ev1_eqv, ev1_un, un_not, ev1_mki, ev1_slc, ev1_lenV, ev1_ixaV, ev1_appV, ev1_load, ev1_call, ev1_mn, ev1_mx, ev1_conv, ev1_alloc, ev1_storeV, ev1_bslR, bslR_sl, bslR_hs, fill_nil, fill_cons, fill1_u8a, fill1_u8b, fill1_ca, fill1_cb, thenO_some, loadR_rp, opd, Env.put, Env.at, seqR_nrm, seqR_exit, seqR_ret, regR_some, List.set_cons_zero, List.set_cons_succ, List.getD_cons_zero, List.getD_cons_succ, pR_some, wR_some, callR_some, freezeL, freeze_int, freeze_bool, freeze_str, freeze_u16, freeze_u8, freeze_ptr, freeze_nils, boolR_true, boolR_false, blockR_nrm, blockR_exit, blockR_ret, outR_ret, outR_nrm, resVs, resV_tmp, oneOr, Option.map_some, Option.map_none, List.map_cons, List.map_nil, if_true, if_false, Bool.not_true, Bool.not_false, Bool.false_eq_true, reduceIte, decide_true, decide_false, i64_lss, i64_leq, i64_gtr, i64_geq, i64_eql, i64_neq, i64_add, i64_sub, load_ptr, ldV_some, cellAt_cells, List.getElem?_cons_zero, List.getElem?_cons_succ, store_ptr, stO_some, setAt_0, setAt_1, setAt_2, setAt_3, setAt_4, setAt_5, setAt_6, setAt_7, setAt_8, setAt_9, setAt_10, setAt_11, setAt_12, cells_int, cells_bool, cells_str, cells_nils, cells_nilp, cells_ptr, cells_sl, cells_u8, cells_u16, cells_agg, get_upd_is, Option.isSome_some, upd_upd, ev1_nchkV, ev1_faV, nchkV_ptr, faV_ptr, ev1_extV, extV_tup, eqptr_nil, eqptr_ptr, Nat.zero_add, Nat.add_zero]
      rfl
end Go.Proofs.YthcblggiojpmcaaDoor.ctlBytes
