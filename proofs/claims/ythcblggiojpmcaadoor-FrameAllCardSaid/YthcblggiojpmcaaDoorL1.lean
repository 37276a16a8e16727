/- The first functions of layer 4 as what they answer. No conditions. -/
import Derived.Test.YthcblggiojpmcaaDoorCel
import Derived.Test.YthcblggiojpmcaaDoorM4g
import Derived.Test.YthcblggiojpmcaaDoorNick
import Derived.Test.YthcblggiojpmcaaDoorPCtl
import Derived.Test.YthcblggiojpmcaaDoorBegunT
set_option linter.unusedSimpArgs false
set_option linter.unusedVariables false
set_option maxRecDepth 100000
namespace Go.Proofs.YthcblggiojpmcaaDoor
open Go Go.Ab
/-! Controls and frames, read out of values. -/
def toCt : AV → Option Ct
  | .iface t (.agg [.int .i64 a, .int .i64 b, .bool pf]) => if t = 64 then some (.i a b pf) else if t = 84 then some (.s a b pf) else none
  | .iface t (.agg [.int .i64 a, .bool pf]) => if t = 86 then some (.u a pf) else none
  | .nili => some .n
  | _ => none
theorem toCt_av (c : Ct) : toCt c.av = some c := by cases c <;> rfl
theorem toCt_of {v : AV} {c : Ct} (h : toCt v = some c) : v = c.av := by
  unfold toCt at h
  split at h
  · split at h
    · rename_i h1; cases h; subst h1; rfl
    · split at h
      · rename_i h1; cases h; subst h1; rfl
      · cases h
  · split at h
    · rename_i h1; cases h; subst h1; rfl
    · cases h
  · cases h; rfl
  · cases h
theorem Ct.flat (c : Ct) : Ab.flat c.av = true := by cases c <;> rfl
def toFr : AV → Option Fr
  | .agg [.int .i64 seat, .int .i64 count, .bool cmd, c, .str body] => (toCt c).map fun c => ⟨seat, count, cmd, c, body⟩
  | _ => none
theorem toFr_of {v : AV} {f : Fr} (h : toFr v = some f) : v = .agg f.cells := by
  unfold toFr at h
  split at h
  · obtain ⟨c, h1, rfl⟩ := Option.map_eq_some_iff.1 h
    rw [toCt_of h1]; rfl
  · cases h
theorem Fr.flat (f : Fr) : Ab.flat (.agg f.cells) = true := by simp [Ab.flat, Ab.flatL, Fr.cells, f.ctl.flat]
/-- A plain frame. -/
structure Pn where
  seat : Int
  count : Int
  cmd : Bool
  kind : Int
  sort : Int
  nr : Int
  ns : Int
  pf : Bool
  body : List UInt8
  deriving DecidableEq
def Pn.cells (p : Pn) : List AV := [.int .i64 p.seat, .int .i64 p.count, .bool p.cmd, .int .i64 p.kind, .int .i64 p.sort, .int .i64 p.nr, .int .i64 p.ns, .bool p.pf, .str p.body]
def toPn : AV → Option Pn
  | .agg [.int .i64 seat, .int .i64 count, .bool cmd, .int .i64 kind, .int .i64 sort, .int .i64 nr, .int .i64 ns, .bool pf, .str body] => some ⟨seat, count, cmd, kind, sort, nr, ns, pf, body⟩
  | _ => none
theorem toPn_of {v : AV} {p : Pn} (h : toPn v = some p) : v = .agg p.cells := by
  unfold toPn at h
  split at h
  · cases h; rfl
  · cases h
theorem Pn.flat (p : Pn) : Ab.flat (.agg p.cells) = true := rfl
def Pn.ctl (p : Pn) : Ct := any1 p.kind p.sort p.nr p.ns p.pf
/-- Nothing stands where nothing belongs. -/
def Pn.exact (p : Pn) : Bool := if p.kind = 1 then decide (p.sort = 0) else if p.kind = 2 then decide (p.ns = 0) else decide (p.nr = 0) && decide (p.ns = 0)
def Pn.okc (p : Pn) : Bool := p.ctl.may && p.exact
/-! What the functions answer. -/
def hMay : List AV → St → Option AV
  | [v], _ => (toCt v).map fun c => .bool c.may
  | _, _ => none
def hPf : List AV → St → Option AV
  | [v], _ => (toCt v).map fun c => .bool c.pf
  | _, _ => none
def hAny1 : List AV → St → Option AV
  | [v], _ => (toPn v).map fun p => p.ctl.av
  | _, _ => none
def hFMay : List AV → St → Option AV
  | [v], _ => (toFr v).map fun f => .bool f.may
  | _, _ => none
def hText : List AV → St → Option AV
  | [.str l, .int .i64 n], _ => if 0 ≤ n then some (.str (l.take n.toNat)) else none
  | _, _ => none
def hTrue : List AV → St → Option AV
  | [], _ => some (.bool true)
  | _, _ => none
def hKind : List AV → St → Option AV
  | [.int _ r], _ => some (.int .i64 (kindOf r))
  | _, _ => none
theorem one_of {α : Type} {f : α → AV} {x : Option α} {v : AV} (h : x.map f = some v) : ∃ a, x = some a ∧ f a = v := Option.map_eq_some_iff.1 h
theorem may_pure : PureOk (evT 1000) 36 hMay := pureOk_of (by
  intro args s v h
  unfold hMay at h
  split at h
  · obtain ⟨c, hc, rfl⟩ := one_of h
    rw [toCt_of hc]
    obtain ⟨s', h1, _⟩ := may_evE 998 c St.nil
    exact ⟨rfl, by simp [flatL, c.flat], by rw [h1]; rfl⟩
  · cases h)
theorem pf_pure : PureOk (evT 1000) 38 hPf := pureOk_of (by
  intro args s v h
  unfold hPf at h
  split at h
  · obtain ⟨c, hc, rfl⟩ := one_of h
    rw [toCt_of hc]
    obtain ⟨s', h1⟩ := pf_ev 999 c St.nil
    exact ⟨rfl, by simp [flatL, c.flat], by rw [h1]; rfl⟩
  · cases h)
theorem any1_pure : PureOk (evT 1000) 33 hAny1 := pureOk_of (by
  intro args s v h
  unfold hAny1 at h
  split at h
  · obtain ⟨p, hp, rfl⟩ := one_of h
    rw [toPn_of hp]
    have h1 := any1_ev 999 p.seat p.count p.kind p.sort p.nr p.ns p.cmd p.pf p.body St.nil
    refine ⟨Ct.flat _, by simp [flatL, p.flat], ?_⟩
    simp only [Pn.cells]
    rw [h1]
    simp only [valR, Pn.ctl]
    cases any1 p.kind p.sort p.nr p.ns p.pf <;> rfl
  · cases h)
theorem fmay_pure : PureOk (evT 1000) 47 hFMay := pureOk_of (by
  intro args s v h
  unfold hFMay at h
  split at h
  · obtain ⟨f, hf, rfl⟩ := one_of h
    rw [toFr_of hf]
    obtain ⟨s', h1, _⟩ := frameMay_ev 997 f St.nil
    exact ⟨rfl, by simp [flatL, f.flat], by rw [h1]; rfl⟩
  · cases h)
theorem text_pure : PureOk (evT 1000) 21 hText := pureOk_of (by
  intro args s v h
  unfold hText at h
  split at h
  · rename_i l n
    split at h
    · rename_i hn
      cases h
      refine ⟨rfl, rfl, ?_⟩
      rw [show (1000 : Nat) = 999 + 1 from rfl, evT_in rfl tab21]
      by_cases hl : n < (l.length : Int)
      · have q := slcS_str l n hn (by omega)
        simp only [M21, env0, List.length_cons, List.length_nil, Nat.reduceAdd, Nat.reduceSub, List.replicate, List.cons_append, List.nil_append, evC_seq, evC_reg, evC_skip, evC_exit, evC_ret, evC_block, evC_condX, condX_true, condX_false, evOps_nil, evOps_one, contR_some, evOps_gdI, gdI_tt, gdI_ft, gdI_tf, gdI_ff, gdI_un, gdI_d, gdI_e, gdI_n, bq_true, bq_false, ev1_mv, ev1_pick, ev1_bin, ev1_eqv, ev1_un, un_not, ev1_mki, ev1_slc, ev1_lenV, ev1_ixaV, ev1_appV, ev1_load, ev1_call, ev1_mn, ev1_mx, ev1_conv, ev1_alloc, ev1_storeV, ev1_bslR, bslR_sl, bslR_hs, fill_nil, fill_cons, fill1_u8a, fill1_u8b, fill1_ca, fill1_cb, thenO_some, loadR_rp, opd, Env.put, Env.at, seqR_nrm, seqR_exit, seqR_ret, regR_some, List.set_cons_zero, List.set_cons_succ, List.getD_cons_zero, List.getD_cons_succ, pR_some, wR_some, callR_some, freezeL, freeze_int, freeze_bool, freeze_str, freeze_u16, freeze_u8, freeze_ptr, freeze_nils, boolR_true, boolR_false, blockR_nrm, blockR_exit, blockR_ret, outR_ret, outR_nrm, resVs, resV_tmp, oneOr, Option.map_some, Option.map_none, List.map_cons, List.map_nil, if_true, if_false, Bool.not_true, Bool.not_false, Bool.false_eq_true, reduceIte, decide_true, decide_false, i64_lss, i64_leq, i64_gtr, i64_geq, i64_eql, i64_neq, i64_add, i64_sub, condX_d, condX_e, condX_n, seqR_if, regR_if, blockR_if, outR_if, drawR_if, valR_if, valR_some, Int.reduceLT, Int.reduceLE, Int.reduceGT, Int.reduceGE, Int.reduceEq, Int.reduceBEq, Int.reduceBNe, freeze_iface, freeze_nili, freeze_agg, i64_mul, conv_int, slcS_str, ev1_sls, evP_mn2, mn2_i64, evP_mx2, mx2_i64, ev1_ixs, evP_ixs, new_pl, pl_next, plg0, plu0, plg1, plu1, plg2, plu2, plg3, plu3, plg4, plu4, plg5, plu5, plg6, plu6, plg7, plu7, plg8, plu8, plg9, plu9, plg10, plu10, plg11, plu11, plg12, plu12, plg13, plu13, sameO_refl, store_aggO, load_ptrN, resV_cell, resP_ptr, ev1_boxV, boxV_some, bk_load, bkV_ptr, bkV_rp, ev1_tasV, tas_same, tas_nil, ev1_build, ev1_mki, cells_iface, ev1_lensV', lensV'_str, beq_self_eq_true, dryV_bool, dryV_int, dryV_str, dryV_agg, dryV_iface, dryV_tup, dry1_bool, dry1_int, dry1_str, dry1_agg, dry1_iface, dry1_nili, dry1_nils, dry1_sl, cutO_2_0_2, stB_2_0_2, fill_2_0_2, fill_2_0i, fill_2_0b, fill_2_0s, fill_2_0f, fill_2_0n, fill_2_1i, fill_2_1b, fill_2_1s, fill_2_1f, fill_2_1n, resC_2, cutO_3_0_2, stB_3_0_2, fill_3_0_2, cutO_3_1_2, stB_3_1_2, fill_3_1_2, cutO_3_0_3, stB_3_0_3, fill_3_0_3, fill_3_0i, fill_3_0b, fill_3_0s, fill_3_0f, fill_3_0n, fill_3_1i, fill_3_1b, fill_3_1s, fill_3_1f, fill_3_1n, fill_3_2i, fill_3_2b, fill_3_2s, fill_3_2f, fill_3_2n, resC_3, cutO_5_0_2, stB_5_0_2, fill_5_0_2, cutO_5_1_2, stB_5_1_2, fill_5_1_2, cutO_5_2_2, stB_5_2_2, fill_5_2_2, cutO_5_3_2, stB_5_3_2, fill_5_3_2, cutO_5_0_3, stB_5_0_3, fill_5_0_3, cutO_5_1_3, stB_5_1_3, fill_5_1_3, cutO_5_2_3, stB_5_2_3, fill_5_2_3, cutO_5_0_5, stB_5_0_5, fill_5_0_5, fill_5_0i, fill_5_0b, fill_5_0s, fill_5_0f, fill_5_0n, fill_5_1i, fill_5_1b, fill_5_1s, fill_5_1f, fill_5_1n, fill_5_2i, fill_5_2b, fill_5_2s, fill_5_2f, fill_5_2n, fill_5_3i, fill_5_3b, fill_5_3s, fill_5_3f, fill_5_3n, fill_5_4i, fill_5_4b, fill_5_4s, fill_5_4f, fill_5_4n, resC_5, cutO_9_0_2, stB_9_0_2, fill_9_0_2, cutO_9_1_2, stB_9_1_2, fill_9_1_2, cutO_9_2_2, stB_9_2_2, fill_9_2_2, cutO_9_3_2, stB_9_3_2, fill_9_3_2, cutO_9_4_2, stB_9_4_2, fill_9_4_2, cutO_9_5_2, stB_9_5_2, fill_9_5_2, cutO_9_6_2, stB_9_6_2, fill_9_6_2, cutO_9_7_2, stB_9_7_2, fill_9_7_2, cutO_9_0_3, stB_9_0_3, fill_9_0_3, cutO_9_1_3, stB_9_1_3, fill_9_1_3, cutO_9_2_3, stB_9_2_3, fill_9_2_3, cutO_9_3_3, stB_9_3_3, fill_9_3_3, cutO_9_4_3, stB_9_4_3, fill_9_4_3, cutO_9_5_3, stB_9_5_3, fill_9_5_3, cutO_9_6_3, stB_9_6_3, fill_9_6_3, cutO_9_0_5, stB_9_0_5, fill_9_0_5, cutO_9_1_5, stB_9_1_5, fill_9_1_5, cutO_9_2_5, stB_9_2_5, fill_9_2_5, cutO_9_3_5, stB_9_3_5, fill_9_3_5, cutO_9_4_5, stB_9_4_5, fill_9_4_5, cutO_9_0_9, stB_9_0_9, fill_9_0_9, fill_9_0i, fill_9_0b, fill_9_0s, fill_9_0f, fill_9_0n, fill_9_1i, fill_9_1b, fill_9_1s, fill_9_1f, fill_9_1n, fill_9_2i, fill_9_2b, fill_9_2s, fill_9_2f, fill_9_2n, fill_9_3i, fill_9_3b, fill_9_3s, fill_9_3f, fill_9_3n, fill_9_4i, fill_9_4b, fill_9_4s, fill_9_4f, fill_9_4n, fill_9_5i, fill_9_5b, fill_9_5s, fill_9_5f, fill_9_5n, fill_9_6i, fill_9_6b, fill_9_6s, fill_9_6f, fill_9_6n, fill_9_7i, fill_9_7b, fill_9_7s, fill_9_7f, fill_9_7n, fill_9_8i, fill_9_8b, fill_9_8s, fill_9_8f, fill_9_8n, resC_9, evP_mn2, mn2_i64, hl, q]
      · have q := slcS_str l l.length (by omega) (by omega)
        have e : l.take n.toNat = l := List.take_of_length_le (by omega)
        rw [Int.toNat_natCast, List.take_length] at q
        simp only [M21, env0, List.length_cons, List.length_nil, Nat.reduceAdd, Nat.reduceSub, List.replicate, List.cons_append, List.nil_append, evC_seq, evC_reg, evC_skip, evC_exit, evC_ret, evC_block, evC_condX, condX_true, condX_false, evOps_nil, evOps_one, contR_some, evOps_gdI, gdI_tt, gdI_ft, gdI_tf, gdI_ff, gdI_un, gdI_d, gdI_e, gdI_n, bq_true, bq_false, ev1_mv, ev1_pick, ev1_bin, ev1_eqv, ev1_un, un_not, ev1_mki, ev1_slc, ev1_lenV, ev1_ixaV, ev1_appV, ev1_load, ev1_call, ev1_mn, ev1_mx, ev1_conv, ev1_alloc, ev1_storeV, ev1_bslR, bslR_sl, bslR_hs, fill_nil, fill_cons, fill1_u8a, fill1_u8b, fill1_ca, fill1_cb, thenO_some, loadR_rp, opd, Env.put, Env.at, seqR_nrm, seqR_exit, seqR_ret, regR_some, List.set_cons_zero, List.set_cons_succ, List.getD_cons_zero, List.getD_cons_succ, pR_some, wR_some, callR_some, freezeL, freeze_int, freeze_bool, freeze_str, freeze_u16, freeze_u8, freeze_ptr, freeze_nils, boolR_true, boolR_false, blockR_nrm, blockR_exit, blockR_ret, outR_ret, outR_nrm, resVs, resV_tmp, oneOr, Option.map_some, Option.map_none, List.map_cons, List.map_nil, if_true, if_false, Bool.not_true, Bool.not_false, Bool.false_eq_true, reduceIte, decide_true, decide_false, i64_lss, i64_leq, i64_gtr, i64_geq, i64_eql, i64_neq, i64_add, i64_sub, condX_d, condX_e, condX_n, seqR_if, regR_if, blockR_if, outR_if, drawR_if, valR_if, valR_some, Int.reduceLT, Int.reduceLE, Int.reduceGT, Int.reduceGE, Int.reduceEq, Int.reduceBEq, Int.reduceBNe, freeze_iface, freeze_nili, freeze_agg, i64_mul, conv_int, slcS_str, ev1_sls, evP_mn2, mn2_i64, evP_mx2, mx2_i64, ev1_ixs, evP_ixs, new_pl, pl_next, plg0, plu0, plg1, plu1, plg2, plu2, plg3, plu3, plg4, plu4, plg5, plu5, plg6, plu6, plg7, plu7, plg8, plu8, plg9, plu9, plg10, plu10, plg11, plu11, plg12, plu12, plg13, plu13, sameO_refl, store_aggO, load_ptrN, resV_cell, resP_ptr, ev1_boxV, boxV_some, bk_load, bkV_ptr, bkV_rp, ev1_tasV, tas_same, tas_nil, ev1_build, ev1_mki, cells_iface, ev1_lensV', lensV'_str, beq_self_eq_true, dryV_bool, dryV_int, dryV_str, dryV_agg, dryV_iface, dryV_tup, dry1_bool, dry1_int, dry1_str, dry1_agg, dry1_iface, dry1_nili, dry1_nils, dry1_sl, cutO_2_0_2, stB_2_0_2, fill_2_0_2, fill_2_0i, fill_2_0b, fill_2_0s, fill_2_0f, fill_2_0n, fill_2_1i, fill_2_1b, fill_2_1s, fill_2_1f, fill_2_1n, resC_2, cutO_3_0_2, stB_3_0_2, fill_3_0_2, cutO_3_1_2, stB_3_1_2, fill_3_1_2, cutO_3_0_3, stB_3_0_3, fill_3_0_3, fill_3_0i, fill_3_0b, fill_3_0s, fill_3_0f, fill_3_0n, fill_3_1i, fill_3_1b, fill_3_1s, fill_3_1f, fill_3_1n, fill_3_2i, fill_3_2b, fill_3_2s, fill_3_2f, fill_3_2n, resC_3, cutO_5_0_2, stB_5_0_2, fill_5_0_2, cutO_5_1_2, stB_5_1_2, fill_5_1_2, cutO_5_2_2, stB_5_2_2, fill_5_2_2, cutO_5_3_2, stB_5_3_2, fill_5_3_2, cutO_5_0_3, stB_5_0_3, fill_5_0_3, cutO_5_1_3, stB_5_1_3, fill_5_1_3, cutO_5_2_3, stB_5_2_3, fill_5_2_3, cutO_5_0_5, stB_5_0_5, fill_5_0_5, fill_5_0i, fill_5_0b, fill_5_0s, fill_5_0f, fill_5_0n, fill_5_1i, fill_5_1b, fill_5_1s, fill_5_1f, fill_5_1n, fill_5_2i, fill_5_2b, fill_5_2s, fill_5_2f, fill_5_2n, fill_5_3i, fill_5_3b, fill_5_3s, fill_5_3f, fill_5_3n, fill_5_4i, fill_5_4b, fill_5_4s, fill_5_4f, fill_5_4n, resC_5, cutO_9_0_2, stB_9_0_2, fill_9_0_2, cutO_9_1_2, stB_9_1_2, fill_9_1_2, cutO_9_2_2, stB_9_2_2, fill_9_2_2, cutO_9_3_2, stB_9_3_2, fill_9_3_2, cutO_9_4_2, stB_9_4_2, fill_9_4_2, cutO_9_5_2, stB_9_5_2, fill_9_5_2, cutO_9_6_2, stB_9_6_2, fill_9_6_2, cutO_9_7_2, stB_9_7_2, fill_9_7_2, cutO_9_0_3, stB_9_0_3, fill_9_0_3, cutO_9_1_3, stB_9_1_3, fill_9_1_3, cutO_9_2_3, stB_9_2_3, fill_9_2_3, cutO_9_3_3, stB_9_3_3, fill_9_3_3, cutO_9_4_3, stB_9_4_3, fill_9_4_3, cutO_9_5_3, stB_9_5_3, fill_9_5_3, cutO_9_6_3, stB_9_6_3, fill_9_6_3, cutO_9_0_5, stB_9_0_5, fill_9_0_5, cutO_9_1_5, stB_9_1_5, fill_9_1_5, cutO_9_2_5, stB_9_2_5, fill_9_2_5, cutO_9_3_5, stB_9_3_5, fill_9_3_5, cutO_9_4_5, stB_9_4_5, fill_9_4_5, cutO_9_0_9, stB_9_0_9, fill_9_0_9, fill_9_0i, fill_9_0b, fill_9_0s, fill_9_0f, fill_9_0n, fill_9_1i, fill_9_1b, fill_9_1s, fill_9_1f, fill_9_1n, fill_9_2i, fill_9_2b, fill_9_2s, fill_9_2f, fill_9_2n, fill_9_3i, fill_9_3b, fill_9_3s, fill_9_3f, fill_9_3n, fill_9_4i, fill_9_4b, fill_9_4s, fill_9_4f, fill_9_4n, fill_9_5i, fill_9_5b, fill_9_5s, fill_9_5f, fill_9_5n, fill_9_6i, fill_9_6b, fill_9_6s, fill_9_6f, fill_9_6n, fill_9_7i, fill_9_7b, fill_9_7s, fill_9_7f, fill_9_7n, fill_9_8i, fill_9_8b, fill_9_8s, fill_9_8f, fill_9_8n, resC_9, evP_mn2, mn2_i64, hl, q, e]
    · cases h
  · cases h)
theorem begun_pure : PureOk (evT 999) 20 hTrue := pureOk_of (by
  intro args s v h
  unfold hTrue at h
  split at h
  · cases h
    obtain ⟨s1, h1⟩ := begunT_ev
    exact ⟨rfl, rfl, by rw [h1]; rfl⟩
  · cases h)
def hKind30 : List AV → St → Option AV
  | [.int .i32 r], _ => some (.int .i64 (kindOf r))
  | _, _ => none
def hKind31 : List AV → St → Option AV
  | [.int .i64 r], _ => some (.int .i64 (kindOf r))
  | _, _ => none
theorem kind_pure : PureOk (evT 1000) 30 hKind30 := pureOk_of (by
  intro args s v h
  unfold hKind30 at h
  split at h
  · cases h; exact ⟨rfl, rfl, by rw [kind_ev 998]; rfl⟩
  · cases h)
theorem rkind_pure : PureOk (evT 1000) 31 hKind31 := pureOk_of (by
  intro args s v h
  unfold hKind31 at h
  split at h
  · cases h; exact ⟨rfl, rfl, by rw [refKind_ev 999]; rfl⟩
  · cases h)
/-! Bytes read as controls. -/
def gct (n : Nat) : Ct :=
  let pf := decide (n / 16 % 2 = 1)
  if n % 2 = 0 then .i (n / 32) (n / 2 % 8) pf
  else if n % 4 = 1 then (if n / 4 % 4 ≤ 2 then .s (n / 4 % 4) (n / 32) pf else .n)
  else match n - n / 16 % 2 * 16 with
    | 47 => .u 1 pf
    | 131 => .u 2 pf
    | 99 => .u 3 pf
    | 15 => .u 4 pf
    | 67 => .u 5 pf
    | 139 => .u 6 pf
    | 143 => .u 7 pf
    | _ => .n
def Ct.is (c : Ct) : Bool := match c with
  | .n => false
  | _ => true
theorem getAll : (List.range 256).map (fun n => valR (evT 1000 37 [.int .u8 (n : Nat)] St.nil)) = (List.range 256).map (fun n => some (.tup [(gct n).av, .bool (gct n).is])) := by kernel_rfl
def hGet : List AV → St → Option AV
  | [.int .u8 n], _ => if 0 ≤ n ∧ n < 256 then some (.tup [(gct n.toNat).av, .bool (gct n.toNat).is]) else none
  | _, _ => none
theorem get_pure : PureOk (evT 1000) 37 hGet := pureOk_of (by
  intro args s v h
  unfold hGet at h
  split at h
  · rename_i n
    split at h
    · rename_i hn
      cases h
      refine ⟨by simp [Ab.flat, Ab.flatL, Ct.flat], rfl, ?_⟩
      have := List.map_inj_left.1 getAll n.toNat (List.mem_range.2 (by omega))
      rw [Int.toNat_of_nonneg hn.1] at this
      exact this
    · cases h
  · cases h)
end Go.Proofs.YthcblggiojpmcaaDoor
