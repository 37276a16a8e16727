/- Frames and plain frames, as what the functions answer. No conditions. -/
import Derived.Test.YthcblggiojpmcaaDoorL2
set_option linter.unusedSimpArgs false
set_option linter.unusedVariables false
set_option maxRecDepth 100000
namespace Go.Proofs.YthcblggiojpmcaaDoor
open Go Go.Ab
def Ct.kind : Ct → Int
  | .i _ _ _ => 1
  | .s _ _ _ => 2
  | .u _ _ => 3
  | .n => 0
def Ct.sort : Ct → Int
  | .s k _ _ => k
  | .u k _ => k
  | _ => 0
def Ct.nr : Ct → Int
  | .i a _ _ => a
  | .s _ a _ => a
  | _ => 0
def Ct.ns : Ct → Int
  | .i _ a _ => a
  | _ => 0
def Pn.zero : Pn := ⟨0, 0, false, 0, 0, 0, 0, false, []⟩
/-- A frame's parts. -/
def Fr.pn (f : Fr) : Pn := if f.may = true then ⟨f.seat, f.count, f.cmd, f.ctl.kind, f.ctl.sort, f.ctl.nr, f.ctl.ns, f.ctl.pf, f.body⟩ else Pn.zero
/-- A plain frame as a frame. -/
def Pn.fr (p : Pn) : Fr := ⟨p.seat, p.count, p.cmd, p.ctl, p.body⟩
def Pn.may (p : Pn) : Bool := p.fr.may && p.exact
/-! law4.Plain -/
def hPlain : List AV → St → Option AV
  | [v], _ => (toPn v).map fun p => .agg ({ p with body := p.body.take 70 } : Pn).cells
  | _, _ => none
theorem plain_val (p : Pn) (s : St) : valR (evL1 1000 32 [.agg p.cells] (s.pl [])) = some (.agg ({ p with body := p.body.take 70 } : Pn).cells) := by
  rw [show (1000 : Nat) = 999 + 1 from rfl, evL1_in rfl tab32]
  obtain ⟨seat, count, cmd, kind, sort, nr, ns, pf, body⟩ := p
  have h21 : ∀ s, evL1 999 21 [.str body, .int .i64 70] s = some (.str (body.take 70), s) := fun s => c21 998 body 70 s
  simp only [M32, Pn.cells, h21, env0, List.length_cons, List.length_nil, Nat.reduceAdd, Nat.reduceSub, List.replicate, List.cons_append, List.nil_append, evC_seq, evC_reg, evC_skip, evC_exit, evC_ret, evC_block, evC_condX, condX_true, condX_false, evOps_nil, evOps_one, contR_some, evOps_gdI, gdI_tt, gdI_ft, gdI_tf, gdI_ff, gdI_un, gdI_d, gdI_e, gdI_n, bq_true, bq_false, ev1_mv, ev1_pick, ev1_bin, ev1_eqv, ev1_un, un_not, ev1_mki, ev1_slc, ev1_lenV, ev1_ixaV, ev1_appV, ev1_load, ev1_call, ev1_mn, ev1_mx, ev1_conv, ev1_alloc, ev1_storeV, ev1_bslR, bslR_sl, bslR_hs, fill_nil, fill_cons, fill1_u8a, fill1_u8b, fill1_ca, fill1_cb, thenO_some, loadR_rp, opd, Env.put, Env.at, seqR_nrm, seqR_exit, seqR_ret, regR_some, List.set_cons_zero, List.set_cons_succ, List.getD_cons_zero, List.getD_cons_succ, pR_some, wR_some, callR_some, freezeL, freeze_int, freeze_bool, freeze_str, freeze_u16, freeze_u8, freeze_ptr, freeze_nils, boolR_true, boolR_false, blockR_nrm, blockR_exit, blockR_ret, outR_ret, outR_nrm, resVs, resV_tmp, oneOr, Option.map_some, Option.map_none, List.map_cons, List.map_nil, if_true, if_false, Bool.not_true, Bool.not_false, Bool.false_eq_true, reduceIte, decide_true, decide_false, i64_lss, i64_leq, i64_gtr, i64_geq, i64_eql, i64_neq, i64_add, i64_sub, condX_d, condX_e, condX_n, seqR_if, regR_if, blockR_if, outR_if, drawR_if, valR_if, valR_some, Int.reduceLT, Int.reduceLE, Int.reduceGT, Int.reduceGE, Int.reduceEq, Int.reduceBEq, Int.reduceBNe, freeze_iface, freeze_nili, freeze_agg, i64_mul, conv_int, slcS_str, ev1_sls, evP_mn2, mn2_i64, evP_mx2, mx2_i64, ev1_ixs, evP_ixs, load_ptr, ldV_some, cellAt_cells, List.getElem?_cons_zero, List.getElem?_cons_succ, store_ptr, stO_some, setAt_0, setAt_1, setAt_2, setAt_3, setAt_4, setAt_5, setAt_6, setAt_7, setAt_8, setAt_9, setAt_10, setAt_11, setAt_12, cells_int, cells_bool, cells_str, cells_nils, cells_nilp, cells_ptr, cells_sl, cells_u8, cells_u16, cells_agg, get_upd_is, Option.isSome_some, upd_upd, ev1_nchkV, ev1_faV, nchkV_ptr, faV_ptr, ev1_extV, extV_tup, eqptr_nil, eqptr_ptr, Nat.zero_add, Nat.add_zero, new_pl, pl_next, plg0, plu0, plg1, plu1, plg2, plu2, plg3, plu3, plg4, plu4, plg5, plu5, plg6, plu6, plg7, plu7, plg8, plu8, plg9, plu9, plg10, plu10, plg11, plu11, plg12, plu12, plg13, plu13, sameO_refl, store_aggO, load_ptrN, resV_cell, resP_ptr, ev1_boxV, boxV_some, bk_load, bkV_ptr, bkV_rp, ev1_tasV, tas_same, tas_nil, ev1_build, ev1_mki, cells_iface, ev1_lensV', lensV'_str, beq_self_eq_true, dryV_bool, dryV_int, dryV_str, dryV_agg, dryV_iface, dryV_tup, dry1_bool, dry1_int, dry1_str, dry1_agg, dry1_iface, dry1_nili, dry1_nils, dry1_sl, cutO_2_0_2, stB_2_0_2, fill_2_0_2, fill_2_0i, fill_2_0b, fill_2_0s, fill_2_0f, fill_2_0n, fill_2_1i, fill_2_1b, fill_2_1s, fill_2_1f, fill_2_1n, resC_2, cutO_3_0_2, stB_3_0_2, fill_3_0_2, cutO_3_1_2, stB_3_1_2, fill_3_1_2, cutO_3_0_3, stB_3_0_3, fill_3_0_3, fill_3_0i, fill_3_0b, fill_3_0s, fill_3_0f, fill_3_0n, fill_3_1i, fill_3_1b, fill_3_1s, fill_3_1f, fill_3_1n, fill_3_2i, fill_3_2b, fill_3_2s, fill_3_2f, fill_3_2n, resC_3, cutO_5_0_2, stB_5_0_2, fill_5_0_2, cutO_5_1_2, stB_5_1_2, fill_5_1_2, cutO_5_2_2, stB_5_2_2, fill_5_2_2, cutO_5_3_2, stB_5_3_2, fill_5_3_2, cutO_5_0_3, stB_5_0_3, fill_5_0_3, cutO_5_1_3, stB_5_1_3, fill_5_1_3, cutO_5_2_3, stB_5_2_3, fill_5_2_3, cutO_5_0_5, stB_5_0_5, fill_5_0_5, fill_5_0i, fill_5_0b, fill_5_0s, fill_5_0f, fill_5_0n, fill_5_1i, fill_5_1b, fill_5_1s, fill_5_1f, fill_5_1n, fill_5_2i, fill_5_2b, fill_5_2s, fill_5_2f, fill_5_2n, fill_5_3i, fill_5_3b, fill_5_3s, fill_5_3f, fill_5_3n, fill_5_4i, fill_5_4b, fill_5_4s, fill_5_4f, fill_5_4n, resC_5, cutO_9_0_2, stB_9_0_2, fill_9_0_2, cutO_9_1_2, stB_9_1_2, fill_9_1_2, cutO_9_2_2, stB_9_2_2, fill_9_2_2, cutO_9_3_2, stB_9_3_2, fill_9_3_2, cutO_9_4_2, stB_9_4_2, fill_9_4_2, cutO_9_5_2, stB_9_5_2, fill_9_5_2, cutO_9_6_2, stB_9_6_2, fill_9_6_2, cutO_9_7_2, stB_9_7_2, fill_9_7_2, cutO_9_0_3, stB_9_0_3, fill_9_0_3, cutO_9_1_3, stB_9_1_3, fill_9_1_3, cutO_9_2_3, stB_9_2_3, fill_9_2_3, cutO_9_3_3, stB_9_3_3, fill_9_3_3, cutO_9_4_3, stB_9_4_3, fill_9_4_3, cutO_9_5_3, stB_9_5_3, fill_9_5_3, cutO_9_6_3, stB_9_6_3, fill_9_6_3, cutO_9_0_5, stB_9_0_5, fill_9_0_5, cutO_9_1_5, stB_9_1_5, fill_9_1_5, cutO_9_2_5, stB_9_2_5, fill_9_2_5, cutO_9_3_5, stB_9_3_5, fill_9_3_5, cutO_9_4_5, stB_9_4_5, fill_9_4_5, cutO_9_0_9, stB_9_0_9, fill_9_0_9, fill_9_0i, fill_9_0b, fill_9_0s, fill_9_0f, fill_9_0n, fill_9_1i, fill_9_1b, fill_9_1s, fill_9_1f, fill_9_1n, fill_9_2i, fill_9_2b, fill_9_2s, fill_9_2f, fill_9_2n, fill_9_3i, fill_9_3b, fill_9_3s, fill_9_3f, fill_9_3n, fill_9_4i, fill_9_4b, fill_9_4s, fill_9_4f, fill_9_4n, fill_9_5i, fill_9_5b, fill_9_5s, fill_9_5f, fill_9_5n, fill_9_6i, fill_9_6b, fill_9_6s, fill_9_6f, fill_9_6n, fill_9_7i, fill_9_7b, fill_9_7s, fill_9_7f, fill_9_7n, fill_9_8i, fill_9_8b, fill_9_8s, fill_9_8f, fill_9_8n, resC_9]
  first | done | rfl
theorem plain_pure : PureOk (evL1 1000) 32 hPlain := pureOk_of (by
  intro args s v h
  unfold hPlain at h
  split at h
  · obtain ⟨p, hp, rfl⟩ := one_of h
    rw [toPn_of hp]
    exact ⟨rfl, by simp [flatL, p.flat], plain_val p St.nil⟩
  · cases h)
/-! glowwormref4.May -/
def hRMay : List AV → St → Option AV
  | [v], _ => (toPn v).map fun p => .bool p.may
  | _, _ => none
theorem str_eqlD (a b : List UInt8) : binV .eql (.str a) (.str b) = some (.bool (decide (a = b))) := by
  show some (AV.bool (a == b)) = _
  rw [Bool.beq_eq_decide_eq]
theorem pn_may (p : Pn) : p.may = (p.okc && (decide (p.seat ≥ 0) && decide (p.seat ≤ 127) && decide (p.count ≥ 0) && decide (p.count ≤ 255) && decide ((p.body.length : Int) ≤ 64) && (decide (p.kind ≠ 2) || decide (p.body = [])))) := by
  obtain ⟨seat, count, cmd, kind, sort, nr, ns, pf, body⟩ := p
  show ((Fr.mk seat count cmd (Pn.ctl ⟨seat, count, cmd, kind, sort, nr, ns, pf, body⟩) body).may && Pn.exact ⟨seat, count, cmd, kind, sort, nr, ns, pf, body⟩) = ((Pn.ctl ⟨seat, count, cmd, kind, sort, nr, ns, pf, body⟩).may && Pn.exact ⟨seat, count, cmd, kind, sort, nr, ns, pf, body⟩ && (decide (seat ≥ 0) && decide (seat ≤ 127) && decide (count ≥ 0) && decide (count ≤ 255) && decide ((body.length : Int) ≤ 64) && (decide (kind ≠ 2) || decide (body = []))))
  unfold Fr.may
  by_cases ha : seat < 0 ∨ seat > 127 ∨ count < 0 ∨ count > 255
  · rw [if_pos ha]
    rw [Bool.false_and]
    symm
    rw [Bool.eq_false_iff]
    intro h
    simp only [Bool.and_eq_true, decide_eq_true_eq] at h
    omega
  · rw [if_neg ha]
    have e1 : decide (seat ≥ 0) = true := by simp; omega
    have e2 : decide (seat ≤ 127) = true := by simp; omega
    have e3 : decide (count ≥ 0) = true := by simp; omega
    have e4 : decide (count ≤ 255) = true := by simp; omega
    rw [e1, e2, e3, e4]
    simp only [Pn.ctl]
    have hS : ∀ q, (!(any1 kind sort nr ns q).isS || body == []) = (decide (kind ≠ 2) || decide (body = [])) := by
      intro q
      rw [Bool.beq_eq_decide_eq]
      congr 1
      unfold any1
      by_cases h1 : kind = 1
      · subst h1; rfl
      · by_cases h2 : kind = 2
        · subst h2; rfl
        · by_cases h3 : kind = 3
          · subst h3; rfl
          · rw [if_neg h1, if_neg h2, if_neg h3]
            simp [Ct.isS, h2]
    rw [hS]
    cases (any1 kind sort nr ns pf).may <;> cases Pn.exact ⟨seat, count, cmd, kind, sort, nr, ns, pf, body⟩ <;> simp
theorem rmay_val (p : Pn) (s : St) : valR (evL1 1000 41 [.agg p.cells] (s.pl [])) = some (.bool p.may) := by
  rw [show (1000 : Nat) = 999 + 1 from rfl, evL1_in rfl tab41]
  have h34 := c34 998 p
  rw [pn_may]
  cases hk : p.okc with
  | false =>
    simp only [hk, if_false, Bool.false_eq_true] at h34
    obtain ⟨seat, count, cmd, kind, sort, nr, ns, pf, body⟩ := p
    simp only [Pn.cells] at h34 ⊢
    simp only [M41, h34, env0, List.length_cons, List.length_nil, Nat.reduceAdd, Nat.reduceSub, List.replicate, List.cons_append, List.nil_append, evC_seq, evC_reg, evC_skip, evC_exit, evC_ret, evC_block, evC_condX, condX_true, condX_false, evOps_nil, evOps_one, contR_some, evOps_gdI, gdI_tt, gdI_ft, gdI_tf, gdI_ff, gdI_un, gdI_d, gdI_e, gdI_n, bq_true, bq_false, ev1_mv, ev1_pick, ev1_bin, ev1_eqv, ev1_un, un_not, ev1_mki, ev1_slc, ev1_lenV, ev1_ixaV, ev1_appV, ev1_load, ev1_call, ev1_mn, ev1_mx, ev1_conv, ev1_alloc, ev1_storeV, ev1_bslR, bslR_sl, bslR_hs, fill_nil, fill_cons, fill1_u8a, fill1_u8b, fill1_ca, fill1_cb, thenO_some, loadR_rp, opd, Env.put, Env.at, seqR_nrm, seqR_exit, seqR_ret, regR_some, List.set_cons_zero, List.set_cons_succ, List.getD_cons_zero, List.getD_cons_succ, pR_some, wR_some, callR_some, freezeL, freeze_int, freeze_bool, freeze_str, freeze_u16, freeze_u8, freeze_ptr, freeze_nils, boolR_true, boolR_false, blockR_nrm, blockR_exit, blockR_ret, outR_ret, outR_nrm, resVs, resV_tmp, oneOr, Option.map_some, Option.map_none, List.map_cons, List.map_nil, if_true, if_false, Bool.not_true, Bool.not_false, Bool.false_eq_true, reduceIte, decide_true, decide_false, i64_lss, i64_leq, i64_gtr, i64_geq, i64_eql, i64_neq, i64_add, i64_sub, condX_d, condX_e, condX_n, seqR_if, regR_if, blockR_if, outR_if, drawR_if, valR_if, valR_some, Int.reduceLT, Int.reduceLE, Int.reduceGT, Int.reduceGE, Int.reduceEq, Int.reduceBEq, Int.reduceBNe, freeze_iface, freeze_nili, freeze_agg, i64_mul, conv_int, slcS_str, ev1_sls, evP_mn2, mn2_i64, evP_mx2, mx2_i64, ev1_ixs, evP_ixs, load_ptr, ldV_some, cellAt_cells, List.getElem?_cons_zero, List.getElem?_cons_succ, store_ptr, stO_some, setAt_0, setAt_1, setAt_2, setAt_3, setAt_4, setAt_5, setAt_6, setAt_7, setAt_8, setAt_9, setAt_10, setAt_11, setAt_12, cells_int, cells_bool, cells_str, cells_nils, cells_nilp, cells_ptr, cells_sl, cells_u8, cells_u16, cells_agg, get_upd_is, Option.isSome_some, upd_upd, ev1_nchkV, ev1_faV, nchkV_ptr, faV_ptr, ev1_extV, extV_tup, eqptr_nil, eqptr_ptr, Nat.zero_add, Nat.add_zero, new_pl, pl_next, plg0, plu0, plg1, plu1, plg2, plu2, plg3, plu3, plg4, plu4, plg5, plu5, plg6, plu6, plg7, plu7, plg8, plu8, plg9, plu9, plg10, plu10, plg11, plu11, plg12, plu12, plg13, plu13, sameO_refl, store_aggO, load_ptrN, resV_cell, resP_ptr, ev1_boxV, boxV_some, bk_load, bkV_ptr, bkV_rp, ev1_tasV, tas_same, tas_nil, ev1_build, ev1_mki, cells_iface, ev1_lensV', lensV'_str, beq_self_eq_true, dryV_bool, dryV_int, dryV_str, dryV_agg, dryV_iface, dryV_tup, dry1_bool, dry1_int, dry1_str, dry1_agg, dry1_iface, dry1_nili, dry1_nils, dry1_sl, cutO_2_0_2, stB_2_0_2, fill_2_0_2, fill_2_0i, fill_2_0b, fill_2_0s, fill_2_0f, fill_2_0n, fill_2_1i, fill_2_1b, fill_2_1s, fill_2_1f, fill_2_1n, resC_2, cutO_3_0_2, stB_3_0_2, fill_3_0_2, cutO_3_1_2, stB_3_1_2, fill_3_1_2, cutO_3_0_3, stB_3_0_3, fill_3_0_3, fill_3_0i, fill_3_0b, fill_3_0s, fill_3_0f, fill_3_0n, fill_3_1i, fill_3_1b, fill_3_1s, fill_3_1f, fill_3_1n, fill_3_2i, fill_3_2b, fill_3_2s, fill_3_2f, fill_3_2n, resC_3, cutO_5_0_2, stB_5_0_2, fill_5_0_2, cutO_5_1_2, stB_5_1_2, fill_5_1_2, cutO_5_2_2, stB_5_2_2, fill_5_2_2, cutO_5_3_2, stB_5_3_2, fill_5_3_2, cutO_5_0_3, stB_5_0_3, fill_5_0_3, cutO_5_1_3, stB_5_1_3, fill_5_1_3, cutO_5_2_3, stB_5_2_3, fill_5_2_3, cutO_5_0_5, stB_5_0_5, fill_5_0_5, fill_5_0i, fill_5_0b, fill_5_0s, fill_5_0f, fill_5_0n, fill_5_1i, fill_5_1b, fill_5_1s, fill_5_1f, fill_5_1n, fill_5_2i, fill_5_2b, fill_5_2s, fill_5_2f, fill_5_2n, fill_5_3i, fill_5_3b, fill_5_3s, fill_5_3f, fill_5_3n, fill_5_4i, fill_5_4b, fill_5_4s, fill_5_4f, fill_5_4n, resC_5, cutO_9_0_2, stB_9_0_2, fill_9_0_2, cutO_9_1_2, stB_9_1_2, fill_9_1_2, cutO_9_2_2, stB_9_2_2, fill_9_2_2, cutO_9_3_2, stB_9_3_2, fill_9_3_2, cutO_9_4_2, stB_9_4_2, fill_9_4_2, cutO_9_5_2, stB_9_5_2, fill_9_5_2, cutO_9_6_2, stB_9_6_2, fill_9_6_2, cutO_9_7_2, stB_9_7_2, fill_9_7_2, cutO_9_0_3, stB_9_0_3, fill_9_0_3, cutO_9_1_3, stB_9_1_3, fill_9_1_3, cutO_9_2_3, stB_9_2_3, fill_9_2_3, cutO_9_3_3, stB_9_3_3, fill_9_3_3, cutO_9_4_3, stB_9_4_3, fill_9_4_3, cutO_9_5_3, stB_9_5_3, fill_9_5_3, cutO_9_6_3, stB_9_6_3, fill_9_6_3, cutO_9_0_5, stB_9_0_5, fill_9_0_5, cutO_9_1_5, stB_9_1_5, fill_9_1_5, cutO_9_2_5, stB_9_2_5, fill_9_2_5, cutO_9_3_5, stB_9_3_5, fill_9_3_5, cutO_9_4_5, stB_9_4_5, fill_9_4_5, cutO_9_0_9, stB_9_0_9, fill_9_0_9, fill_9_0i, fill_9_0b, fill_9_0s, fill_9_0f, fill_9_0n, fill_9_1i, fill_9_1b, fill_9_1s, fill_9_1f, fill_9_1n, fill_9_2i, fill_9_2b, fill_9_2s, fill_9_2f, fill_9_2n, fill_9_3i, fill_9_3b, fill_9_3s, fill_9_3f, fill_9_3n, fill_9_4i, fill_9_4b, fill_9_4s, fill_9_4f, fill_9_4n, fill_9_5i, fill_9_5b, fill_9_5s, fill_9_5f, fill_9_5n, fill_9_6i, fill_9_6b, fill_9_6s, fill_9_6f, fill_9_6n, fill_9_7i, fill_9_7b, fill_9_7s, fill_9_7f, fill_9_7n, fill_9_8i, fill_9_8b, fill_9_8s, fill_9_8f, fill_9_8n, resC_9, Bool.false_and]
  | true =>
    simp only [hk, if_true] at h34
    obtain ⟨seat, count, cmd, kind, sort, nr, ns, pf, body⟩ := p
    simp only [Pn.cells] at h34 ⊢
    simp only [M41, h34, str_eqlD, env0, List.length_cons, List.length_nil, Nat.reduceAdd, Nat.reduceSub, List.replicate, List.cons_append, List.nil_append, evC_seq, evC_reg, evC_skip, evC_exit, evC_ret, evC_block, evC_condX, condX_true, condX_false, evOps_nil, evOps_one, contR_some, evOps_gdI, gdI_tt, gdI_ft, gdI_tf, gdI_ff, gdI_un, gdI_d, gdI_e, gdI_n, bq_true, bq_false, ev1_mv, ev1_pick, ev1_bin, ev1_eqv, ev1_un, un_not, ev1_mki, ev1_slc, ev1_lenV, ev1_ixaV, ev1_appV, ev1_load, ev1_call, ev1_mn, ev1_mx, ev1_conv, ev1_alloc, ev1_storeV, ev1_bslR, bslR_sl, bslR_hs, fill_nil, fill_cons, fill1_u8a, fill1_u8b, fill1_ca, fill1_cb, thenO_some, loadR_rp, opd, Env.put, Env.at, seqR_nrm, seqR_exit, seqR_ret, regR_some, List.set_cons_zero, List.set_cons_succ, List.getD_cons_zero, List.getD_cons_succ, pR_some, wR_some, callR_some, freezeL, freeze_int, freeze_bool, freeze_str, freeze_u16, freeze_u8, freeze_ptr, freeze_nils, boolR_true, boolR_false, blockR_nrm, blockR_exit, blockR_ret, outR_ret, outR_nrm, resVs, resV_tmp, oneOr, Option.map_some, Option.map_none, List.map_cons, List.map_nil, if_true, if_false, Bool.not_true, Bool.not_false, Bool.false_eq_true, reduceIte, decide_true, decide_false, i64_lss, i64_leq, i64_gtr, i64_geq, i64_eql, i64_neq, i64_add, i64_sub, condX_d, condX_e, condX_n, seqR_if, regR_if, blockR_if, outR_if, drawR_if, valR_if, valR_some, Int.reduceLT, Int.reduceLE, Int.reduceGT, Int.reduceGE, Int.reduceEq, Int.reduceBEq, Int.reduceBNe, freeze_iface, freeze_nili, freeze_agg, i64_mul, conv_int, slcS_str, ev1_sls, evP_mn2, mn2_i64, evP_mx2, mx2_i64, ev1_ixs, evP_ixs, load_ptr, ldV_some, cellAt_cells, List.getElem?_cons_zero, List.getElem?_cons_succ, store_ptr, stO_some, setAt_0, setAt_1, setAt_2, setAt_3, setAt_4, setAt_5, setAt_6, setAt_7, setAt_8, setAt_9, setAt_10, setAt_11, setAt_12, cells_int, cells_bool, cells_str, cells_nils, cells_nilp, cells_ptr, cells_sl, cells_u8, cells_u16, cells_agg, get_upd_is, Option.isSome_some, upd_upd, ev1_nchkV, ev1_faV, nchkV_ptr, faV_ptr, ev1_extV, extV_tup, eqptr_nil, eqptr_ptr, Nat.zero_add, Nat.add_zero, new_pl, pl_next, plg0, plu0, plg1, plu1, plg2, plu2, plg3, plu3, plg4, plu4, plg5, plu5, plg6, plu6, plg7, plu7, plg8, plu8, plg9, plu9, plg10, plu10, plg11, plu11, plg12, plu12, plg13, plu13, sameO_refl, store_aggO, load_ptrN, resV_cell, resP_ptr, ev1_boxV, boxV_some, bk_load, bkV_ptr, bkV_rp, ev1_tasV, tas_same, tas_nil, ev1_build, ev1_mki, cells_iface, ev1_lensV', lensV'_str, beq_self_eq_true, dryV_bool, dryV_int, dryV_str, dryV_agg, dryV_iface, dryV_tup, dry1_bool, dry1_int, dry1_str, dry1_agg, dry1_iface, dry1_nili, dry1_nils, dry1_sl, cutO_2_0_2, stB_2_0_2, fill_2_0_2, fill_2_0i, fill_2_0b, fill_2_0s, fill_2_0f, fill_2_0n, fill_2_1i, fill_2_1b, fill_2_1s, fill_2_1f, fill_2_1n, resC_2, cutO_3_0_2, stB_3_0_2, fill_3_0_2, cutO_3_1_2, stB_3_1_2, fill_3_1_2, cutO_3_0_3, stB_3_0_3, fill_3_0_3, fill_3_0i, fill_3_0b, fill_3_0s, fill_3_0f, fill_3_0n, fill_3_1i, fill_3_1b, fill_3_1s, fill_3_1f, fill_3_1n, fill_3_2i, fill_3_2b, fill_3_2s, fill_3_2f, fill_3_2n, resC_3, cutO_5_0_2, stB_5_0_2, fill_5_0_2, cutO_5_1_2, stB_5_1_2, fill_5_1_2, cutO_5_2_2, stB_5_2_2, fill_5_2_2, cutO_5_3_2, stB_5_3_2, fill_5_3_2, cutO_5_0_3, stB_5_0_3, fill_5_0_3, cutO_5_1_3, stB_5_1_3, fill_5_1_3, cutO_5_2_3, stB_5_2_3, fill_5_2_3, cutO_5_0_5, stB_5_0_5, fill_5_0_5, fill_5_0i, fill_5_0b, fill_5_0s, fill_5_0f, fill_5_0n, fill_5_1i, fill_5_1b, fill_5_1s, fill_5_1f, fill_5_1n, fill_5_2i, fill_5_2b, fill_5_2s, fill_5_2f, fill_5_2n, fill_5_3i, fill_5_3b, fill_5_3s, fill_5_3f, fill_5_3n, fill_5_4i, fill_5_4b, fill_5_4s, fill_5_4f, fill_5_4n, resC_5, cutO_9_0_2, stB_9_0_2, fill_9_0_2, cutO_9_1_2, stB_9_1_2, fill_9_1_2, cutO_9_2_2, stB_9_2_2, fill_9_2_2, cutO_9_3_2, stB_9_3_2, fill_9_3_2, cutO_9_4_2, stB_9_4_2, fill_9_4_2, cutO_9_5_2, stB_9_5_2, fill_9_5_2, cutO_9_6_2, stB_9_6_2, fill_9_6_2, cutO_9_7_2, stB_9_7_2, fill_9_7_2, cutO_9_0_3, stB_9_0_3, fill_9_0_3, cutO_9_1_3, stB_9_1_3, fill_9_1_3, cutO_9_2_3, stB_9_2_3, fill_9_2_3, cutO_9_3_3, stB_9_3_3, fill_9_3_3, cutO_9_4_3, stB_9_4_3, fill_9_4_3, cutO_9_5_3, stB_9_5_3, fill_9_5_3, cutO_9_6_3, stB_9_6_3, fill_9_6_3, cutO_9_0_5, stB_9_0_5, fill_9_0_5, cutO_9_1_5, stB_9_1_5, fill_9_1_5, cutO_9_2_5, stB_9_2_5, fill_9_2_5, cutO_9_3_5, stB_9_3_5, fill_9_3_5, cutO_9_4_5, stB_9_4_5, fill_9_4_5, cutO_9_0_9, stB_9_0_9, fill_9_0_9, fill_9_0i, fill_9_0b, fill_9_0s, fill_9_0f, fill_9_0n, fill_9_1i, fill_9_1b, fill_9_1s, fill_9_1f, fill_9_1n, fill_9_2i, fill_9_2b, fill_9_2s, fill_9_2f, fill_9_2n, fill_9_3i, fill_9_3b, fill_9_3s, fill_9_3f, fill_9_3n, fill_9_4i, fill_9_4b, fill_9_4s, fill_9_4f, fill_9_4n, fill_9_5i, fill_9_5b, fill_9_5s, fill_9_5f, fill_9_5n, fill_9_6i, fill_9_6b, fill_9_6s, fill_9_6f, fill_9_6n, fill_9_7i, fill_9_7b, fill_9_7s, fill_9_7f, fill_9_7n, fill_9_8i, fill_9_8b, fill_9_8s, fill_9_8f, fill_9_8n, resC_9, Bool.true_and]
    by_cases a1 : seat ≥ 0 <;> simp only [a1, decide_true, decide_false, if_true, if_false, Bool.true_and, Bool.false_and]
    by_cases a2 : seat ≤ 127 <;> simp only [a2, decide_true, decide_false, if_true, if_false, Bool.true_and, Bool.false_and]
    by_cases a3 : count ≥ 0 <;> simp only [a3, decide_true, decide_false, if_true, if_false, Bool.true_and, Bool.false_and]
    by_cases a4 : count ≤ 255 <;> simp only [a4, decide_true, decide_false, if_true, if_false, Bool.true_and, Bool.false_and]
    by_cases a5 : (body.length : Int) ≤ 64 <;> simp only [a5, decide_true, decide_false, if_true, if_false, Bool.true_and, Bool.false_and]
    by_cases a6 : kind = 2 <;> simp [a6]
theorem rmay_pure : PureOk (evL1 1000) 41 hRMay := pureOk_of (by
  intro args s v h
  unfold hRMay at h
  split at h
  · obtain ⟨p, hp, rfl⟩ := one_of h
    rw [toPn_of hp]
    exact ⟨rfl, by simp [flatL, p.flat], rmay_val p St.nil⟩
  · cases h)
/-! frame.Eq -/
def Fr.eq (f g : Fr) : Bool := decide (f.seat = g.seat ∧ f.count = g.count) && decide (f.cmd = g.cmd) && decide (f.body = g.body) && (decide (f.ctl = g.ctl) && f.ctl.is)
def hEq : List AV → St → Option AV
  | [v, u], _ => match toFr v, toFr u with
    | some f, some g => some (.bool (f.eq g))
    | _, _ => none
  | _, _ => none
theorem eq2 (a b a' b' : Int) : eqAV (.flat (.many [.i, .i])) (.agg [.int .i64 a, .int .i64 b]) (.agg [.int .i64 a', .int .i64 b']) = some (decide (a = a' ∧ b = b')) := by
  show eqScL [SK.i, SK.i] _ _ = _
  rw [eqScL_i, eqScL_i, show eqScL [] [] [] = some true from rfl]
  by_cases h1 : a = a' <;> by_cases h2 : b = b' <;> simp [h1, h2]
theorem eqB (a b : Bool) : eqAV (.flat (.one .b)) (.bool a) (.bool b) = some (decide (a = b)) := by cases a <;> cases b <;> rfl
theorem eq_val (f g : Fr) (s : St) : valR (evL1 1000 45 [.agg f.cells, .agg g.cells] (s.pl [])) = some (.bool (f.eq g)) := by
  rw [show (1000 : Nat) = 999 + 1 from rfl, evL1_in rfl tab45]
  have h71 := c71 998 f.ctl g.ctl
  have fz := fun s => f.ctl.freeze 0 s
  have gz := fun s => g.ctl.freeze 0 s
  obtain ⟨seat, count, cmd, c, body⟩ := f
  obtain ⟨seat', count', cmd', c', body'⟩ := g
  simp only [Fr.cells, Fr.eq] at h71 fz gz ⊢
  simp only [M45, h71, fz, gz, str_eqlD, eq2, eqB, ev1_eqv, env0, List.length_cons, List.length_nil, Nat.reduceAdd, Nat.reduceSub, List.replicate, List.cons_append, List.nil_append, evC_seq, evC_reg, evC_skip, evC_exit, evC_ret, evC_block, evC_condX, condX_true, condX_false, evOps_nil, evOps_one, contR_some, evOps_gdI, gdI_tt, gdI_ft, gdI_tf, gdI_ff, gdI_un, gdI_d, gdI_e, gdI_n, bq_true, bq_false, ev1_mv, ev1_pick, ev1_bin, ev1_eqv, ev1_un, un_not, ev1_mki, ev1_slc, ev1_lenV, ev1_ixaV, ev1_appV, ev1_load, ev1_call, ev1_mn, ev1_mx, ev1_conv, ev1_alloc, ev1_storeV, ev1_bslR, bslR_sl, bslR_hs, fill_nil, fill_cons, fill1_u8a, fill1_u8b, fill1_ca, fill1_cb, thenO_some, loadR_rp, opd, Env.put, Env.at, seqR_nrm, seqR_exit, seqR_ret, regR_some, List.set_cons_zero, List.set_cons_succ, List.getD_cons_zero, List.getD_cons_succ, pR_some, wR_some, callR_some, freezeL, freeze_int, freeze_bool, freeze_str, freeze_u16, freeze_u8, freeze_ptr, freeze_nils, boolR_true, boolR_false, blockR_nrm, blockR_exit, blockR_ret, outR_ret, outR_nrm, resVs, resV_tmp, oneOr, Option.map_some, Option.map_none, List.map_cons, List.map_nil, if_true, if_false, Bool.not_true, Bool.not_false, Bool.false_eq_true, reduceIte, decide_true, decide_false, i64_lss, i64_leq, i64_gtr, i64_geq, i64_eql, i64_neq, i64_add, i64_sub, condX_d, condX_e, condX_n, seqR_if, regR_if, blockR_if, outR_if, drawR_if, valR_if, valR_some, Int.reduceLT, Int.reduceLE, Int.reduceGT, Int.reduceGE, Int.reduceEq, Int.reduceBEq, Int.reduceBNe, freeze_iface, freeze_nili, freeze_agg, i64_mul, conv_int, slcS_str, ev1_sls, evP_mn2, mn2_i64, evP_mx2, mx2_i64, ev1_ixs, evP_ixs, load_ptr, ldV_some, cellAt_cells, List.getElem?_cons_zero, List.getElem?_cons_succ, store_ptr, stO_some, setAt_0, setAt_1, setAt_2, setAt_3, setAt_4, setAt_5, setAt_6, setAt_7, setAt_8, setAt_9, setAt_10, setAt_11, setAt_12, cells_int, cells_bool, cells_str, cells_nils, cells_nilp, cells_ptr, cells_sl, cells_u8, cells_u16, cells_agg, get_upd_is, Option.isSome_some, upd_upd, ev1_nchkV, ev1_faV, nchkV_ptr, faV_ptr, ev1_extV, extV_tup, eqptr_nil, eqptr_ptr, Nat.zero_add, Nat.add_zero, new_pl, pl_next, plg0, plu0, plg1, plu1, plg2, plu2, plg3, plu3, plg4, plu4, plg5, plu5, plg6, plu6, plg7, plu7, plg8, plu8, plg9, plu9, plg10, plu10, plg11, plu11, plg12, plu12, plg13, plu13, sameO_refl, store_aggO, load_ptrN, resV_cell, resP_ptr, ev1_boxV, boxV_some, bk_load, bkV_ptr, bkV_rp, ev1_tasV, tas_same, tas_nil, ev1_build, ev1_mki, cells_iface, ev1_lensV', lensV'_str, beq_self_eq_true, dryV_bool, dryV_int, dryV_str, dryV_agg, dryV_iface, dryV_tup, dry1_bool, dry1_int, dry1_str, dry1_agg, dry1_iface, dry1_nili, dry1_nils, dry1_sl, cutO_2_0_2, stB_2_0_2, fill_2_0_2, fill_2_0i, fill_2_0b, fill_2_0s, fill_2_0f, fill_2_0n, fill_2_1i, fill_2_1b, fill_2_1s, fill_2_1f, fill_2_1n, resC_2, cutO_3_0_2, stB_3_0_2, fill_3_0_2, cutO_3_1_2, stB_3_1_2, fill_3_1_2, cutO_3_0_3, stB_3_0_3, fill_3_0_3, fill_3_0i, fill_3_0b, fill_3_0s, fill_3_0f, fill_3_0n, fill_3_1i, fill_3_1b, fill_3_1s, fill_3_1f, fill_3_1n, fill_3_2i, fill_3_2b, fill_3_2s, fill_3_2f, fill_3_2n, resC_3, cutO_5_0_2, stB_5_0_2, fill_5_0_2, cutO_5_1_2, stB_5_1_2, fill_5_1_2, cutO_5_2_2, stB_5_2_2, fill_5_2_2, cutO_5_3_2, stB_5_3_2, fill_5_3_2, cutO_5_0_3, stB_5_0_3, fill_5_0_3, cutO_5_1_3, stB_5_1_3, fill_5_1_3, cutO_5_2_3, stB_5_2_3, fill_5_2_3, cutO_5_0_5, stB_5_0_5, fill_5_0_5, fill_5_0i, fill_5_0b, fill_5_0s, fill_5_0f, fill_5_0n, fill_5_1i, fill_5_1b, fill_5_1s, fill_5_1f, fill_5_1n, fill_5_2i, fill_5_2b, fill_5_2s, fill_5_2f, fill_5_2n, fill_5_3i, fill_5_3b, fill_5_3s, fill_5_3f, fill_5_3n, fill_5_4i, fill_5_4b, fill_5_4s, fill_5_4f, fill_5_4n, resC_5, cutO_9_0_2, stB_9_0_2, fill_9_0_2, cutO_9_1_2, stB_9_1_2, fill_9_1_2, cutO_9_2_2, stB_9_2_2, fill_9_2_2, cutO_9_3_2, stB_9_3_2, fill_9_3_2, cutO_9_4_2, stB_9_4_2, fill_9_4_2, cutO_9_5_2, stB_9_5_2, fill_9_5_2, cutO_9_6_2, stB_9_6_2, fill_9_6_2, cutO_9_7_2, stB_9_7_2, fill_9_7_2, cutO_9_0_3, stB_9_0_3, fill_9_0_3, cutO_9_1_3, stB_9_1_3, fill_9_1_3, cutO_9_2_3, stB_9_2_3, fill_9_2_3, cutO_9_3_3, stB_9_3_3, fill_9_3_3, cutO_9_4_3, stB_9_4_3, fill_9_4_3, cutO_9_5_3, stB_9_5_3, fill_9_5_3, cutO_9_6_3, stB_9_6_3, fill_9_6_3, cutO_9_0_5, stB_9_0_5, fill_9_0_5, cutO_9_1_5, stB_9_1_5, fill_9_1_5, cutO_9_2_5, stB_9_2_5, fill_9_2_5, cutO_9_3_5, stB_9_3_5, fill_9_3_5, cutO_9_4_5, stB_9_4_5, fill_9_4_5, cutO_9_0_9, stB_9_0_9, fill_9_0_9, fill_9_0i, fill_9_0b, fill_9_0s, fill_9_0f, fill_9_0n, fill_9_1i, fill_9_1b, fill_9_1s, fill_9_1f, fill_9_1n, fill_9_2i, fill_9_2b, fill_9_2s, fill_9_2f, fill_9_2n, fill_9_3i, fill_9_3b, fill_9_3s, fill_9_3f, fill_9_3n, fill_9_4i, fill_9_4b, fill_9_4s, fill_9_4f, fill_9_4n, fill_9_5i, fill_9_5b, fill_9_5s, fill_9_5f, fill_9_5n, fill_9_6i, fill_9_6b, fill_9_6s, fill_9_6f, fill_9_6n, fill_9_7i, fill_9_7b, fill_9_7s, fill_9_7f, fill_9_7n, fill_9_8i, fill_9_8b, fill_9_8s, fill_9_8f, fill_9_8n, resC_9]
  by_cases a1 : seat = seat' ∧ count = count' <;> simp only [a1, and_self, decide_true, decide_false, if_true, if_false, Bool.true_and, Bool.false_and]
  by_cases a2 : cmd = cmd' <;> simp only [a2, decide_true, decide_false, if_true, if_false, Bool.true_and, Bool.false_and]
  by_cases a3 : body = body' <;> simp only [a3, decide_true, decide_false, if_true, if_false, Bool.true_and, Bool.false_and]
theorem eq_pure : PureOk (evL1 1000) 45 hEq := pureOk_of (by
  intro args s v h
  unfold hEq at h
  split at h
  · split at h
    · rename_i f g hf hg
      cases h
      rw [toFr_of hf, toFr_of hg]
      exact ⟨rfl, by simp [flatL, Fr.flat], eq_val f g St.nil⟩
    · cases h
  · cases h)
end Go.Proofs.YthcblggiojpmcaaDoor
