/- frame.Plain, as the evaluator answers it. No conditions. -/
import Derived.Test.YthcblggiojpmcaaDoorFrame
set_option linter.unusedSimpArgs false
namespace Go.Ab
open Go
def resC (s : St) (n : Option Nat) : Option Ab.Obj → Nat → Option (AV × St)
  | some (.cells _ cs), o => match cut cs o n with
    | some v => some (v, s)
    | none => none
  | _, _ => none
def resP (s : St) (n : Option Nat) : AV → Option (AV × St)
  | .ptr b o => resC s n (s.get b) o
  | _ => none
theorem resV_cell (e : Env) (s : St) (i : Nat) (n : Option Nat) : resV e s (.cell i n) = resP s n (e.at i) := by
  simp only [resV, resP, resC]
  generalize e.at i = v
  cases v with
  | ptr b o =>
    simp only
    generalize s.get b = q
    cases q with
    | none => rfl
    | some x => cases x <;> rfl
  | _ => rfl
theorem resP_ptr (s : St) (n : Option Nat) (b o : Nat) : resP s n (.ptr b o) = resC s n (s.get b) o := (id rfl)
theorem resC_cells (s : St) (n : Option Nat) (z o : Nat) (cs : List AV) (v : AV) (h : cut cs o n = some v) : resC s n (some (.cells z cs)) o = some (v, s) := by
  simp only [resC, h]
theorem stA_9 (s : St) (b z : Nat) (a0 a1 a2 a3 a4 a5 a6 a7 a8 x0 x1 x2 x3 x4 x5 x6 x7 x8 : AV) : stA s b 9 [x0, x1, x2, x3, x4, x5, x6, x7, x8] (some (.cells z [a0, a1, a2, a3, a4, a5, a6, a7, a8])) = some (.undef, s.upd b (.cells z [x0, x1, x2, x3, x4, x5, x6, x7, x8])) := by simp [stA, storeL, fillL]
theorem stA_5 (s : St) (b z : Nat) (a0 a1 a2 a3 a4 x0 x1 x2 x3 x4 : AV) : stA s b 5 [x0, x1, x2, x3, x4] (some (.cells z [a0, a1, a2, a3, a4])) = some (.undef, s.upd b (.cells z [x0, x1, x2, x3, x4])) := by simp [stA, storeL, fillL]
end Go.Ab
namespace Go.Proofs.YthcblggiojpmcaaDoor
open Go Go.Ab
def zeroPlain : List AV := [.int .i64 0, .int .i64 0, .bool false, .int .i64 0, .int .i64 0, .int .i64 0, .int .i64 0, .bool false, .str []]
/-- A frame that may not be has no parts. -/
theorem framePlain_no (k : Nat) (f : Fr) (hf : f.may = false) (s : St) : ∃ s', evT (k + 4) 46 [.agg f.cells] s = some (.agg zeroPlain, s') := by
  rw [show k + 4 = (k + 3) + 1 from rfl, evT_in rfl tab46]
  have hcut : Ab.cut f.cells 0 (some 5) = some (.agg f.cells) := rfl
  have hp : ((s.new (.cells 0 f.cells)).new (.cells 0 zeroPlain)).get s.next = some (.cells 0 f.cells) := by
    rw [get_new_ne _ _ (by simp [St.new]), get_new_eq]
  have ld : loadR ((s.new (.cells 0 f.cells)).new (.cells 0 zeroPlain)) (some 5) (.ptr s.next 0) = some (.agg f.cells, (s.new (.cells 0 f.cells)).new (.cells 0 zeroPlain), 1) := load_some _ _ 0 5 0 _ _ hp hcut
  obtain ⟨s', m1, m2⟩ := frameMay_ev k f ((s.new (.cells 0 f.cells)).new (.cells 0 zeroPlain))
  rw [hf] at m1
  have hz : s'.get (s.new (.cells 0 f.cells)).next = some (.cells 0 zeroPlain) := (m2.get _ (by simp [St.new])).trans (get_new_eq _ _)
  simp only [zeroPlain] at ld m1 hz ⊢
  refine ⟨s'.upd (s.new (.cells 0 f.cells)).next (.cells 0 zeroPlain), ?_⟩
  have hcut9 : Ab.cut [.int .i64 0, .int .i64 0, .bool false, .int .i64 0, .int .i64 0, .int .i64 0, .int .i64 0, .bool false, .str []] 0 (some 9) = some (.agg [.int .i64 0, .int .i64 0, .bool false, .int .i64 0, .int .i64 0, .int .i64 0, .int .i64 0, .bool false, .str []]) := rfl
  simp only [M46, ev1_boxV, cells_agg, boxV_some, freeze_agg, ld, m1, ev1_build, store_agg, hz, stA_9, resV_cell, resP_ptr, get_upd_is, Option.isSome_some, resC, hcut9, env0, List.length_cons, List.length_nil, Nat.reduceAdd, Nat.reduceSub, List.replicate, List.cons_append, List.nil_append, evC_seq, evC_reg, evC_skip, evC_exit, evC_ret, evC_block, evC_condX, condX_true, condX_false, evOps_nil, evOps_one, contR_some, evOps_gd, gdR_tt, gdR_ft, gdR_tf, gdR_ff, gdR_un, bq_true, bq_false, ev1_mv, ev1_pick, ev1_bin, ev1_eqv, ev1_un, un_not, ev1_mki, ev1_slc, ev1_lenV, ev1_ixaV, ev1_appV, ev1_load, ev1_call, ev1_mn, ev1_mx, ev1_conv, ev1_alloc, ev1_storeV, ev1_bslR, bslR_sl, bslR_hs, fill_nil, fill_cons, fill1_u8a, fill1_u8b, fill1_ca, fill1_cb, thenO_some, loadR_rp, opd, Env.put, Env.at, seqR_nrm, seqR_exit, seqR_ret, regR_some, List.set_cons_zero, List.set_cons_succ, List.getD_cons_zero, List.getD_cons_succ, pR_some, wR_some, callR_some, freezeL, freeze_int, freeze_bool, freeze_str, freeze_u16, freeze_u8, freeze_ptr, freeze_nils, boolR_true, boolR_false, blockR_nrm, blockR_exit, blockR_ret, outR_ret, outR_nrm, resVs, resV_tmp, oneOr, Option.map_some, Option.map_none, List.map_cons, List.map_nil, if_true, if_false, Bool.not_true, Bool.not_false, Bool.false_eq_true, reduceIte, decide_true, decide_false, i64_lss, i64_leq, i64_gtr, i64_geq, i64_eql, i64_neq, i64_add, i64_sub]
  rfl
/-- A frame's parts. -/
def Fr.plain (f : Fr) : List AV :=
  match f.ctl with
  | .i nr ns pf => [.int .i64 f.seat, .int .i64 f.count, .bool f.cmd, .int .i64 1, .int .i64 0, .int .i64 nr, .int .i64 ns, .bool pf, .str f.body]
  | .s kind nr pf => [.int .i64 f.seat, .int .i64 f.count, .bool f.cmd, .int .i64 2, .int .i64 kind, .int .i64 nr, .int .i64 0, .bool pf, .str f.body]
  | .u kind pf => [.int .i64 f.seat, .int .i64 f.count, .bool f.cmd, .int .i64 3, .int .i64 kind, .int .i64 0, .int .i64 0, .bool pf, .str f.body]
  | .n => zeroPlain
theorem pf_evE (k : Nat) (c : Ct) (s : St) : ∃ s', evT (k + 1) 38 [c.av] s = some (.bool c.pf, s') ∧ Ext s s' := by
  rw [evT_in rfl tab38]
  cases c with
  | i nr ns pf =>
    refine ⟨s.new (.cells 0 [.int .i64 nr, .int .i64 ns, .bool pf]), ?_, (Ext.refl s).new _⟩
    simp only [M38, Ct.av, Ct.pf, ev1_tasV, tas_same, store_agg, stA_3, get_new_eq, new_upd, env0, List.length_cons, List.length_nil, Nat.reduceAdd, Nat.reduceSub, List.replicate, List.cons_append, List.nil_append, evC_seq, evC_reg, evC_skip, evC_exit, evC_ret, evC_block, evC_condX, condX_true, condX_false, evOps_nil, evOps_one, contR_some, evOps_gd, gdR_tt, gdR_ft, gdR_tf, gdR_ff, gdR_un, bq_true, bq_false, ev1_mv, ev1_pick, ev1_bin, ev1_eqv, ev1_un, un_not, ev1_mki, ev1_slc, ev1_lenV, ev1_ixaV, ev1_appV, ev1_load, ev1_call, ev1_mn, ev1_mx, ev1_conv, ev1_alloc, ev1_storeV, ev1_bslR, bslR_sl, bslR_hs, fill_nil, fill_cons, fill1_u8a, fill1_u8b, fill1_ca, fill1_cb, thenO_some, loadR_rp, opd, Env.put, Env.at, seqR_nrm, seqR_exit, seqR_ret, regR_some, List.set_cons_zero, List.set_cons_succ, List.getD_cons_zero, List.getD_cons_succ, pR_some, wR_some, callR_some, freezeL, freeze_int, freeze_bool, freeze_str, freeze_u16, freeze_u8, freeze_ptr, freeze_nils, boolR_true, boolR_false, blockR_nrm, blockR_exit, blockR_ret, outR_ret, outR_nrm, resVs, resV_tmp, oneOr, Option.map_some, Option.map_none, List.map_cons, List.map_nil, if_true, if_false, Bool.not_true, Bool.not_false, Bool.false_eq_true, reduceIte, decide_true, decide_false, i64_lss, i64_leq, i64_gtr, i64_geq, i64_eql, i64_neq, i64_add, i64_sub, load_ptr, ldV_some, cellAt_cells, List.getElem?_cons_zero, List.getElem?_cons_succ, store_ptr, stO_some, setAt_0, setAt_1, setAt_2, setAt_3, setAt_4, setAt_5, setAt_6, setAt_7, setAt_8, setAt_9, setAt_10, setAt_11, setAt_12, cells_int, cells_bool, cells_str, cells_nils, cells_nilp, cells_ptr, cells_sl, cells_u8, cells_u16, cells_agg, get_upd_is, Option.isSome_some, upd_upd, ev1_nchkV, ev1_faV, nchkV_ptr, faV_ptr, ev1_extV, extV_tup, eqptr_nil, eqptr_ptr, Nat.zero_add, Nat.add_zero]
  | s kind nr pf =>
    refine ⟨s.new (.cells 0 [.int .i64 kind, .int .i64 nr, .bool pf]), ?_, (Ext.refl s).new _⟩
    simp only [M38, Ct.av, Ct.pf, ev1_tasV, tas_same, tas_6484, store_agg, stA_3, get_new_eq, new_upd, env0, List.length_cons, List.length_nil, Nat.reduceAdd, Nat.reduceSub, List.replicate, List.cons_append, List.nil_append, evC_seq, evC_reg, evC_skip, evC_exit, evC_ret, evC_block, evC_condX, condX_true, condX_false, evOps_nil, evOps_one, contR_some, evOps_gd, gdR_tt, gdR_ft, gdR_tf, gdR_ff, gdR_un, bq_true, bq_false, ev1_mv, ev1_pick, ev1_bin, ev1_eqv, ev1_un, un_not, ev1_mki, ev1_slc, ev1_lenV, ev1_ixaV, ev1_appV, ev1_load, ev1_call, ev1_mn, ev1_mx, ev1_conv, ev1_alloc, ev1_storeV, ev1_bslR, bslR_sl, bslR_hs, fill_nil, fill_cons, fill1_u8a, fill1_u8b, fill1_ca, fill1_cb, thenO_some, loadR_rp, opd, Env.put, Env.at, seqR_nrm, seqR_exit, seqR_ret, regR_some, List.set_cons_zero, List.set_cons_succ, List.getD_cons_zero, List.getD_cons_succ, pR_some, wR_some, callR_some, freezeL, freeze_int, freeze_bool, freeze_str, freeze_u16, freeze_u8, freeze_ptr, freeze_nils, boolR_true, boolR_false, blockR_nrm, blockR_exit, blockR_ret, outR_ret, outR_nrm, resVs, resV_tmp, oneOr, Option.map_some, Option.map_none, List.map_cons, List.map_nil, if_true, if_false, Bool.not_true, Bool.not_false, Bool.false_eq_true, reduceIte, decide_true, decide_false, i64_lss, i64_leq, i64_gtr, i64_geq, i64_eql, i64_neq, i64_add, i64_sub, load_ptr, ldV_some, cellAt_cells, List.getElem?_cons_zero, List.getElem?_cons_succ, store_ptr, stO_some, setAt_0, setAt_1, setAt_2, setAt_3, setAt_4, setAt_5, setAt_6, setAt_7, setAt_8, setAt_9, setAt_10, setAt_11, setAt_12, cells_int, cells_bool, cells_str, cells_nils, cells_nilp, cells_ptr, cells_sl, cells_u8, cells_u16, cells_agg, get_upd_is, Option.isSome_some, upd_upd, ev1_nchkV, ev1_faV, nchkV_ptr, faV_ptr, ev1_extV, extV_tup, eqptr_nil, eqptr_ptr, Nat.zero_add, Nat.add_zero]
  | u kind pf =>
    refine ⟨s.new (.cells 0 [.int .i64 kind, .bool pf]), ?_, (Ext.refl s).new _⟩
    simp only [M38, Ct.av, Ct.pf, ev1_tasV, tas_same, tas_6486, tas_8486, store_agg, stA_2, get_new_eq, new_upd, env0, List.length_cons, List.length_nil, Nat.reduceAdd, Nat.reduceSub, List.replicate, List.cons_append, List.nil_append, evC_seq, evC_reg, evC_skip, evC_exit, evC_ret, evC_block, evC_condX, condX_true, condX_false, evOps_nil, evOps_one, contR_some, evOps_gd, gdR_tt, gdR_ft, gdR_tf, gdR_ff, gdR_un, bq_true, bq_false, ev1_mv, ev1_pick, ev1_bin, ev1_eqv, ev1_un, un_not, ev1_mki, ev1_slc, ev1_lenV, ev1_ixaV, ev1_appV, ev1_load, ev1_call, ev1_mn, ev1_mx, ev1_conv, ev1_alloc, ev1_storeV, ev1_bslR, bslR_sl, bslR_hs, fill_nil, fill_cons, fill1_u8a, fill1_u8b, fill1_ca, fill1_cb, thenO_some, loadR_rp, opd, Env.put, Env.at, seqR_nrm, seqR_exit, seqR_ret, regR_some, List.set_cons_zero, List.set_cons_succ, List.getD_cons_zero, List.getD_cons_succ, pR_some, wR_some, callR_some, freezeL, freeze_int, freeze_bool, freeze_str, freeze_u16, freeze_u8, freeze_ptr, freeze_nils, boolR_true, boolR_false, blockR_nrm, blockR_exit, blockR_ret, outR_ret, outR_nrm, resVs, resV_tmp, oneOr, Option.map_some, Option.map_none, List.map_cons, List.map_nil, if_true, if_false, Bool.not_true, Bool.not_false, Bool.false_eq_true, reduceIte, decide_true, decide_false, i64_lss, i64_leq, i64_gtr, i64_geq, i64_eql, i64_neq, i64_add, i64_sub, load_ptr, ldV_some, cellAt_cells, List.getElem?_cons_zero, List.getElem?_cons_succ, store_ptr, stO_some, setAt_0, setAt_1, setAt_2, setAt_3, setAt_4, setAt_5, setAt_6, setAt_7, setAt_8, setAt_9, setAt_10, setAt_11, setAt_12, cells_int, cells_bool, cells_str, cells_nils, cells_nilp, cells_ptr, cells_sl, cells_u8, cells_u16, cells_agg, get_upd_is, Option.isSome_some, upd_upd, ev1_nchkV, ev1_faV, nchkV_ptr, faV_ptr, ev1_extV, extV_tup, eqptr_nil, eqptr_ptr, Nat.zero_add, Nat.add_zero]
  | n =>
    refine ⟨s, ?_, Ext.refl s⟩
    simp only [M38, Ct.av, Ct.pf, ev1_tasV, tas_nil, env0, List.length_cons, List.length_nil, Nat.reduceAdd, Nat.reduceSub, List.replicate, List.cons_append, List.nil_append, evC_seq, evC_reg, evC_skip, evC_exit, evC_ret, evC_block, evC_condX, condX_true, condX_false, evOps_nil, evOps_one, contR_some, evOps_gd, gdR_tt, gdR_ft, gdR_tf, gdR_ff, gdR_un, bq_true, bq_false, ev1_mv, ev1_pick, ev1_bin, ev1_eqv, ev1_un, un_not, ev1_mki, ev1_slc, ev1_lenV, ev1_ixaV, ev1_appV, ev1_load, ev1_call, ev1_mn, ev1_mx, ev1_conv, ev1_alloc, ev1_storeV, ev1_bslR, bslR_sl, bslR_hs, fill_nil, fill_cons, fill1_u8a, fill1_u8b, fill1_ca, fill1_cb, thenO_some, loadR_rp, opd, Env.put, Env.at, seqR_nrm, seqR_exit, seqR_ret, regR_some, List.set_cons_zero, List.set_cons_succ, List.getD_cons_zero, List.getD_cons_succ, pR_some, wR_some, callR_some, freezeL, freeze_int, freeze_bool, freeze_str, freeze_u16, freeze_u8, freeze_ptr, freeze_nils, boolR_true, boolR_false, blockR_nrm, blockR_exit, blockR_ret, outR_ret, outR_nrm, resVs, resV_tmp, oneOr, Option.map_some, Option.map_none, List.map_cons, List.map_nil, if_true, if_false, Bool.not_true, Bool.not_false, Bool.false_eq_true, reduceIte, decide_true, decide_false, i64_lss, i64_leq, i64_gtr, i64_geq, i64_eql, i64_neq, i64_add, i64_sub, load_ptr, ldV_some, cellAt_cells, List.getElem?_cons_zero, List.getElem?_cons_succ, store_ptr, stO_some, setAt_0, setAt_1, setAt_2, setAt_3, setAt_4, setAt_5, setAt_6, setAt_7, setAt_8, setAt_9, setAt_10, setAt_11, setAt_12, cells_int, cells_bool, cells_str, cells_nils, cells_nilp, cells_ptr, cells_sl, cells_u8, cells_u16, cells_agg, get_upd_is, Option.isSome_some, upd_upd, ev1_nchkV, ev1_faV, nchkV_ptr, faV_ptr, ev1_extV, extV_tup, eqptr_nil, eqptr_ptr, Nat.zero_add, Nat.add_zero]
end Go.Proofs.YthcblggiojpmcaaDoor
