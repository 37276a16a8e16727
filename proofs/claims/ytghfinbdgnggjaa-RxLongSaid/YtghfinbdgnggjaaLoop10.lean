/- The loops of RxLong. No conditions. -/
import Derived.Test.YtghfinbdgnggjaaPLong
import Derived.Test.YtghfinbdgnggjaaWrap
set_option linter.unusedSimpArgs false
namespace Go.Proofs.Ytghfinbdgnggjaa
open Go Go.Ab
theorem RxAt.ext {s s' : St} {p t : Nat} {r : RxS} (h : RxAt s p r t) (e : Ext s s') : RxAt s' p r t := by
  obtain ⟨ob, h1, h2, h3, h4⟩ := h
  exact ⟨ob, (e.get p h3).trans h1, h2.ext e, Nat.lt_of_lt_of_le h3 e.le, Nat.lt_of_lt_of_le h4 e.le⟩
theorem RxAt.updc {s : St} {p t : Nat} {r : RxS} (h : RxAt s p r t) {b z : Nat} {cs : List AV} (hb : s.get b = some (.cells z cs)) (hne : p ≠ b) (o : Ab.Obj) : RxAt (s.upd b o) p r t := by
  obtain ⟨ob, h1, h2, h3, h4⟩ := h
  exact ⟨ob, (get_upd_ne _ _ hne).trans h1, h2.updc hb o, h3, h4⟩
/-- An append to bytes that came out of a call. -/
theorem app_any {s0 s : St} {x y : AV} {xs ys : List UInt8} (h : Own s0 s x xs) (hne : xs ≠ []) (g : Bys y ys) (e : Ext s0 s) (hl : xs.length + ys.length ≤ 1000000000) :
    ∃ z s', appV true 1 1 s x y = some (z, s') ∧ Own s0 s' z (xs ++ ys) ∧ Ext s0 s' := by
  have : appV true 1 1 s x y = appV false 1 1 s x y := by
    rcases h with ⟨rfl, rfl⟩ | ⟨t, v, rfl, _⟩
    · exact absurd rfl hne
    · rfl
  rw [this]
  exact h.app g e hl
def E10a (m n0 : Int) (c : UInt8) (f : AV) (n i : Int) : Env := [.int .i64 m, .int .i64 n0, u8v c, .undef, .undef, .undef, .undef, .undef, f] ++ List.replicate 25 .undef ++ [.int .i64 n, .int .i64 i] ++ List.replicate 53 .undef
def fillC (c : UInt8) (n i : Nat) : List UInt8 := List.replicate i c ++ List.replicate (n - i) 0
theorem fillC_set (c : UInt8) (n i : Nat) (h : i < n) : (fillC c n i).set i c = fillC c n (i + 1) := by
  unfold fillC
  rw [List.set_append_right _ _ (by simp)]
  simp only [List.length_replicate, Nat.sub_self]
  rw [show n - i = (n - (i + 1)) + 1 from by omega, List.replicate_succ, List.set_cons_zero, List.replicate_succ', List.append_assoc]
  rfl
theorem loop10a (m n0 : Int) (c : UInt8) (nb n : Nat) (hn : n ≤ 100) (s : St) (hs : Has s nb (List.replicate n 0)) (s0 : St) (h0 : Ext s0 s) (hb : s0.next ≤ nb) (hb2 : nb < s.next) :
    ∃ s', (∀ e, maskE M10b1l e = E10a m n0 c (.hs 1 nb 0 n) n 0 → iter (evC noGl (ev 999) 999 M10b1) M10b1l 999 e s = some (.exit 0, (E10a m n0 c (.hs 1 nb 0 n) n n).set 36 (.bool false), s')) ∧ Has s' nb (List.replicate n c) ∧ Ext s0 s' ∧ nb < s'.next := by
  have off : ∀ s', evC noGl (ev 999) 999 M10b1 (E10a m n0 c (.hs 1 nb 0 n) n n) s' = some (.exit 0, (E10a m n0 c (.hs 1 nb 0 n) n n).set 36 (.bool false), s') := by
    intro s'
    simp only [M10b1, E10a, List.replicate, List.cons_append, List.nil_append, Int.lt_irrefl, env0, List.length_cons, List.length_nil, Nat.reduceAdd, Nat.reduceSub, List.replicate, List.cons_append, List.nil_append, evC_seq, evC_reg, evC_skip, evC_exit, evC_ret, evC_block, evC_condX, condX_true, condX_false, evOps_nil, evOps_one, contR_some, evOps_gd, gdR_tt, gdR_ft, gdR_tf, gdR_ff, gdR_un, bq_true, bq_false, ev1_mv, ev1_pick, ev1_bin, ev1_eqv, ev1_un, un_not, ev1_mki, ev1_slc, ev1_lenV, ev1_ixaV, ev1_appV, ev1_load, ev1_call, ev1_mn, ev1_mx, ev1_conv, ev1_alloc, ev1_storeV, ev1_bslR, bslR_sl, bslR_hs, fill_nil, fill_cons, fill1_u8a, fill1_u8b, fill1_ca, fill1_cb, thenO_some, loadR_rp, opd, Env.put, Env.at, seqR_nrm, seqR_exit, seqR_ret, regR_some, List.set_cons_zero, List.set_cons_succ, List.getD_cons_zero, List.getD_cons_succ, pR_some, wR_some, callR_some, freezeL, freeze_int, freeze_bool, freeze_str, freeze_u16, freeze_u8, freeze_ptr, freeze_nils, boolR_true, boolR_false, blockR_nrm, blockR_exit, blockR_ret, outR_ret, outR_nrm, resVs, resV_tmp, oneOr, Option.map_some, Option.map_none, List.map_cons, List.map_nil, if_true, if_false, Bool.not_true, Bool.not_false, Bool.false_eq_true, reduceIte, decide_true, decide_false, i64_lss, i64_leq, i64_gtr, i64_geq, i64_eql, i64_neq, i64_add, i64_sub]
  have key := iter_leave (evC noGl (ev 999) 999 M10b1) M10b1l (fun i e' s' => maskE M10b1l e' = E10a m n0 c (.hs 1 nb 0 n) n (i : Nat) ∧ Has s' nb (fillC c n i) ∧ Ext s0 s' ∧ nb < s'.next)
    (fun r => ∃ s', r = some (.exit 0, (E10a m n0 c (.hs 1 nb 0 n) n n).set 36 (.bool false), s') ∧ Has s' nb (List.replicate n c) ∧ Ext s0 s' ∧ nb < s'.next) n ?_ ?_ n 0 (E10a m n0 c (.hs 1 nb 0 n) n 0) s 999 (by omega) ⟨rfl, hs, h0, hb2⟩ (by omega)
  · obtain ⟨s', k1, k2, k3, k4⟩ := key
    exact ⟨s', fun e he => by rw [iter_mask _ _ _ e (E10a m n0 c (.hs 1 nb 0 n) n 0) _ (he.trans rfl), k1], k2, k3, k4⟩
  · rintro i e' s' hi ⟨h, hh, hx, hz⟩
    left
    have h1 : ((i : Int) < (n : Int)) = True := eq_true (by omega)
    have h2 : IntKind.i64.wrap ((i : Int) + 1) = ((i + 1 : Nat) : Int) := by rw [wrapI _ (by omega) (by omega)]; omega
    have hl : (fillC c n i).length = n := by simp [fillC]; omega
    have h3 := hs_ixa nb n i hi
    have h4 := hh.store i (by omega) c
    rw [fillC_set c n i hi] at h4
    refine ⟨_, s'.upd nb (.cells 1 (bytesAV (fillC c n (i + 1)))), Eq.trans (b := some (Ex.nrm, ?_, s'.upd nb (.cells 1 (bytesAV (fillC c n (i + 1)))))) ?_ rfl, ?_, hh.upd _, hx.upd hb _, hz⟩
    case refine_2 =>
      rw [h]
      simp only [M10b1, E10a, List.replicate, List.cons_append, List.nil_append, h1, h2, h3, h4, env0, List.length_cons, List.length_nil, Nat.reduceAdd, Nat.reduceSub, List.replicate, List.cons_append, List.nil_append, evC_seq, evC_reg, evC_skip, evC_exit, evC_ret, evC_block, evC_condX, condX_true, condX_false, evOps_nil, evOps_one, contR_some, evOps_gd, gdR_tt, gdR_ft, gdR_tf, gdR_ff, gdR_un, bq_true, bq_false, ev1_mv, ev1_pick, ev1_bin, ev1_eqv, ev1_un, un_not, ev1_mki, ev1_slc, ev1_lenV, ev1_ixaV, ev1_appV, ev1_load, ev1_call, ev1_mn, ev1_mx, ev1_conv, ev1_alloc, ev1_storeV, ev1_bslR, bslR_sl, bslR_hs, fill_nil, fill_cons, fill1_u8a, fill1_u8b, fill1_ca, fill1_cb, thenO_some, loadR_rp, opd, Env.put, Env.at, seqR_nrm, seqR_exit, seqR_ret, regR_some, List.set_cons_zero, List.set_cons_succ, List.getD_cons_zero, List.getD_cons_succ, pR_some, wR_some, callR_some, freezeL, freeze_int, freeze_bool, freeze_str, freeze_u16, freeze_u8, freeze_ptr, freeze_nils, boolR_true, boolR_false, blockR_nrm, blockR_exit, blockR_ret, outR_ret, outR_nrm, resVs, resV_tmp, oneOr, Option.map_some, Option.map_none, List.map_cons, List.map_nil, if_true, if_false, Bool.not_true, Bool.not_false, Bool.false_eq_true, reduceIte, decide_true, decide_false, i64_lss, i64_leq, i64_gtr, i64_geq, i64_eql, i64_neq, i64_add, i64_sub]
      rfl
    case refine_3 => rfl
  · rintro e' s' ⟨h, hh, hx, hz⟩
    rw [h, off]
    have : fillC c n n = List.replicate n c := by simp [fillC]
    rw [this] at hh
    exact ⟨⟨s', rfl, hh, hx, hz⟩, fun _ _ => by simp⟩
def E10b (m n0 : Int) (p : Nat) (g w : Int) (x : AV) (n i : Int) : Env := [.int .i64 m, .int .i64 n0, .undef, .undef, .undef, .undef, .undef, .undef, .undef, .undef, .ptr p 0, .int .i64 g, .int .i64 w] ++ List.replicate 38 .undef ++ [x, .int .i64 n, .int .i64 i] ++ List.replicate 35 .undef
theorem loop10b (m n0 : Int) {x : AV} {xs : List UInt8} (hx : Bys x xs) (hl : xs.length ≤ 700) (s : St) (p t : Nat) (r : RxS) (hr : RxAt s p r t) (hi : r.b.length ≤ r.most + 2) (hm : r.most ≤ 200) :
    ∃ s', ∀ e, maskE M10b0l e = E10b m n0 p 0 0 x xs.length 0 → iter (evC noGl (ev 999) 999 M10b0) M10b0l 999 e s =
      some (.exit 2, (E10b m n0 p (xs.foldl cntStep (r, 0, 0)).2.1 (xs.foldl cntStep (r, 0, 0)).2.2 x xs.length xs.length).set 54 (.bool false), s') := by
  have off : ∀ (g w : Nat) s', evC noGl (ev 999) 999 M10b0 (E10b m n0 p g w x xs.length xs.length) s' = some (.exit 2, (E10b m n0 p g w x xs.length xs.length).set 54 (.bool false), s') := by
    intro g w s'
    simp only [M10b0, E10b, List.replicate, List.cons_append, List.nil_append, Int.lt_irrefl, env0, List.length_cons, List.length_nil, Nat.reduceAdd, Nat.reduceSub, List.replicate, List.cons_append, List.nil_append, evC_seq, evC_reg, evC_skip, evC_exit, evC_ret, evC_block, evC_condX, condX_true, condX_false, evOps_nil, evOps_one, contR_some, evOps_gd, gdR_tt, gdR_ft, gdR_tf, gdR_ff, gdR_un, bq_true, bq_false, ev1_mv, ev1_pick, ev1_bin, ev1_eqv, ev1_un, un_not, ev1_mki, ev1_slc, ev1_lenV, ev1_ixaV, ev1_appV, ev1_load, ev1_call, ev1_mn, ev1_mx, ev1_conv, ev1_alloc, ev1_storeV, ev1_bslR, bslR_sl, bslR_hs, fill_nil, fill_cons, fill1_u8a, fill1_u8b, fill1_ca, fill1_cb, thenO_some, loadR_rp, opd, Env.put, Env.at, seqR_nrm, seqR_exit, seqR_ret, regR_some, List.set_cons_zero, List.set_cons_succ, List.getD_cons_zero, List.getD_cons_succ, pR_some, wR_some, callR_some, freezeL, freeze_int, freeze_bool, freeze_str, freeze_u16, freeze_u8, freeze_ptr, freeze_nils, boolR_true, boolR_false, blockR_nrm, blockR_exit, blockR_ret, outR_ret, outR_nrm, resVs, resV_tmp, oneOr, Option.map_some, Option.map_none, List.map_cons, List.map_nil, if_true, if_false, Bool.not_true, Bool.not_false, Bool.false_eq_true, reduceIte, decide_true, decide_false, i64_lss, i64_leq, i64_gtr, i64_geq, i64_eql, i64_neq, i64_add, i64_sub]
  have key := iter_leave (evC noGl (ev 999) 999 M10b0) M10b0l (fun i e' s' => ∃ t, maskE M10b0l e' = E10b m n0 p ((xs.take i).foldl cntStep (r, 0, 0)).2.1 ((xs.take i).foldl cntStep (r, 0, 0)).2.2 x xs.length (i : Nat) ∧ RxAt s' p ((xs.take i).foldl cntStep (r, 0, 0)).1 t)
    (fun q => ∃ s', q = some (.exit 2, (E10b m n0 p (xs.foldl cntStep (r, 0, 0)).2.1 (xs.foldl cntStep (r, 0, 0)).2.2 x xs.length xs.length).set 54 (.bool false), s')) xs.length ?_ ?_ xs.length 0 (E10b m n0 p 0 0 x xs.length 0) s 999 (by omega) ⟨t, rfl, hr⟩ (by omega)
  · obtain ⟨s', k1⟩ := key
    exact ⟨s', fun e he => by rw [iter_mask _ _ _ e (E10b m n0 p 0 0 x xs.length 0) _ (he.trans rfl), k1]⟩
  · rintro i e' s' hi' ⟨t, h, hh⟩
    left
    have h1 : ((i : Int) < (xs.length : Int)) = True := eq_true (by omega)
    have h2 : IntKind.i64.wrap ((i : Int) + 1) = ((i + 1 : Nat) : Int) := by rw [wrapI _ (by omega) (by omega)]; omega
    obtain ⟨w1, w2⟩ := cntFold_inv (xs.take i) (r, 0, 0) hi
    have w3 := cntFold_le (xs.take i) (r, 0, 0)
    have hst : (xs.take (i + 1)).foldl cntStep (r, 0, 0) = cntStep ((xs.take i).foldl cntStep (r, 0, 0)) xs[i] := by
      rw [List.take_succ_eq_append_getElem hi', List.foldl_append]; rfl
    rw [h, hst]
    generalize (xs.take i).foldl cntStep (r, 0, 0) = st at hh w1 w2 w3
    obtain ⟨r', g, w⟩ := st
    simp only at hh w1 w2 w3
    simp only [List.length_take, Nat.zero_add] at w3
    have w4 : r'.most = r.most := w2
    obtain ⟨y, s1, t', e1, e2, e3, e4, e5⟩ : ∃ y s1 t', ev 999 37 [.ptr p 0, u8v xs[i]] s' = some (.tup [y, .int .i64 ((rxPut r' xs[i]).2.2.1 : Nat), .bool (rxPut r' xs[i]).2.2.2], s1) ∧ Bys y (rxPut r' xs[i]).2.1 ∧ RxAt s1 p (rxPut r' xs[i]).1 t' ∧ (t' = t ∨ s'.next ≤ t') ∧ Still p t s' s1 := rxPut_ev hh xs[i] 965 (by omega) (by omega) (by omega)
    have h3 : IntKind.i64.wrap ((g : Int) + 1) = ((g + 1 : Nat) : Int) := by rw [wrapI _ (by omega) (by omega)]; omega
    have hq : ((((rxPut r' xs[i]).2.2.1 : Nat) : Int) != 0) = ((rxPut r' xs[i]).2.2.1 != 0) := by
      rw [Bool.eq_iff_iff, bne_iff_ne, bne_iff_ne]; omega
    unfold cntStep
    cases c1 : (rxPut r' xs[i]).2.2.2 with
    | false =>
      rw [c1] at e1
      refine ⟨_, s1, Eq.trans (b := some (Ex.nrm, ?_, s1)) ?_ rfl, t', ?_, e3⟩
      case refine_2 =>
        simp only [M10b0, E10b, List.replicate, List.cons_append, List.nil_append, h1, h2, hx.ixa i hi', cut_bytes xs i hi', e1, env0, List.length_cons, List.length_nil, Nat.reduceAdd, Nat.reduceSub, List.replicate, List.cons_append, List.nil_append, evC_seq, evC_reg, evC_skip, evC_exit, evC_ret, evC_block, evC_condX, condX_true, condX_false, evOps_nil, evOps_one, contR_some, evOps_gd, gdR_tt, gdR_ft, gdR_tf, gdR_ff, gdR_un, bq_true, bq_false, ev1_mv, ev1_pick, ev1_bin, ev1_eqv, ev1_un, un_not, ev1_mki, ev1_slc, ev1_lenV, ev1_ixaV, ev1_appV, ev1_load, ev1_call, ev1_mn, ev1_mx, ev1_conv, ev1_alloc, ev1_storeV, ev1_bslR, bslR_sl, bslR_hs, fill_nil, fill_cons, fill1_u8a, fill1_u8b, fill1_ca, fill1_cb, thenO_some, loadR_rp, opd, Env.put, Env.at, seqR_nrm, seqR_exit, seqR_ret, regR_some, List.set_cons_zero, List.set_cons_succ, List.getD_cons_zero, List.getD_cons_succ, pR_some, wR_some, callR_some, freezeL, freeze_int, freeze_bool, freeze_str, freeze_u16, freeze_u8, freeze_ptr, freeze_nils, boolR_true, boolR_false, blockR_nrm, blockR_exit, blockR_ret, outR_ret, outR_nrm, resVs, resV_tmp, oneOr, Option.map_some, Option.map_none, List.map_cons, List.map_nil, if_true, if_false, Bool.not_true, Bool.not_false, Bool.false_eq_true, reduceIte, decide_true, decide_false, i64_lss, i64_leq, i64_gtr, i64_geq, i64_eql, i64_neq, i64_add, i64_sub, load_ptr, ldV_some, cellAt_cells, List.getElem?_cons_zero, List.getElem?_cons_succ, store_ptr, stO_some, setAt_0, setAt_1, setAt_2, setAt_3, setAt_4, setAt_5, setAt_6, setAt_7, setAt_8, setAt_9, setAt_10, setAt_11, setAt_12, cells_int, cells_bool, cells_str, cells_nils, cells_nilp, cells_ptr, cells_sl, cells_u8, cells_u16, cells_agg, get_upd_is, Option.isSome_some, upd_upd, ev1_nchkV, ev1_faV, nchkV_ptr, faV_ptr, ev1_extV, extV_tup, eqptr_nil, eqptr_ptr, Nat.zero_add, Nat.add_zero]
        rfl
      case refine_3 => simp only [c1]; rfl
    | true =>
      rw [c1] at e1
      cases c2 : ((rxPut r' xs[i]).2.2.1 != 0) with
      | false =>
        rw [c2] at hq
        refine ⟨_, s1, Eq.trans (b := some (Ex.nrm, ?_, s1)) ?_ rfl, t', ?_, e3⟩
        case refine_2 =>
          simp only [M10b0, E10b, List.replicate, List.cons_append, List.nil_append, h1, h2, h3, hq, hx.ixa i hi', cut_bytes xs i hi', e1, env0, List.length_cons, List.length_nil, Nat.reduceAdd, Nat.reduceSub, List.replicate, List.cons_append, List.nil_append, evC_seq, evC_reg, evC_skip, evC_exit, evC_ret, evC_block, evC_condX, condX_true, condX_false, evOps_nil, evOps_one, contR_some, evOps_gd, gdR_tt, gdR_ft, gdR_tf, gdR_ff, gdR_un, bq_true, bq_false, ev1_mv, ev1_pick, ev1_bin, ev1_eqv, ev1_un, un_not, ev1_mki, ev1_slc, ev1_lenV, ev1_ixaV, ev1_appV, ev1_load, ev1_call, ev1_mn, ev1_mx, ev1_conv, ev1_alloc, ev1_storeV, ev1_bslR, bslR_sl, bslR_hs, fill_nil, fill_cons, fill1_u8a, fill1_u8b, fill1_ca, fill1_cb, thenO_some, loadR_rp, opd, Env.put, Env.at, seqR_nrm, seqR_exit, seqR_ret, regR_some, List.set_cons_zero, List.set_cons_succ, List.getD_cons_zero, List.getD_cons_succ, pR_some, wR_some, callR_some, freezeL, freeze_int, freeze_bool, freeze_str, freeze_u16, freeze_u8, freeze_ptr, freeze_nils, boolR_true, boolR_false, blockR_nrm, blockR_exit, blockR_ret, outR_ret, outR_nrm, resVs, resV_tmp, oneOr, Option.map_some, Option.map_none, List.map_cons, List.map_nil, if_true, if_false, Bool.not_true, Bool.not_false, Bool.false_eq_true, reduceIte, decide_true, decide_false, i64_lss, i64_leq, i64_gtr, i64_geq, i64_eql, i64_neq, i64_add, i64_sub, load_ptr, ldV_some, cellAt_cells, List.getElem?_cons_zero, List.getElem?_cons_succ, store_ptr, stO_some, setAt_0, setAt_1, setAt_2, setAt_3, setAt_4, setAt_5, setAt_6, setAt_7, setAt_8, setAt_9, setAt_10, setAt_11, setAt_12, cells_int, cells_bool, cells_str, cells_nils, cells_nilp, cells_ptr, cells_sl, cells_u8, cells_u16, cells_agg, get_upd_is, Option.isSome_some, upd_upd, ev1_nchkV, ev1_faV, nchkV_ptr, faV_ptr, ev1_extV, extV_tup, eqptr_nil, eqptr_ptr, Nat.zero_add, Nat.add_zero]
          rfl
        case refine_3 => simp only [c1, c2]; rfl
      | true =>
        rw [c2] at hq
        refine ⟨_, s1, Eq.trans (b := some (Ex.nrm, ?_, s1)) ?_ rfl, t', ?_, e3⟩
        case refine_2 =>
          simp only [M10b0, E10b, List.replicate, List.cons_append, List.nil_append, h1, h2, h3, hq, hx.ixa i hi', cut_bytes xs i hi', e1, env0, List.length_cons, List.length_nil, Nat.reduceAdd, Nat.reduceSub, List.replicate, List.cons_append, List.nil_append, evC_seq, evC_reg, evC_skip, evC_exit, evC_ret, evC_block, evC_condX, condX_true, condX_false, evOps_nil, evOps_one, contR_some, evOps_gd, gdR_tt, gdR_ft, gdR_tf, gdR_ff, gdR_un, bq_true, bq_false, ev1_mv, ev1_pick, ev1_bin, ev1_eqv, ev1_un, un_not, ev1_mki, ev1_slc, ev1_lenV, ev1_ixaV, ev1_appV, ev1_load, ev1_call, ev1_mn, ev1_mx, ev1_conv, ev1_alloc, ev1_storeV, ev1_bslR, bslR_sl, bslR_hs, fill_nil, fill_cons, fill1_u8a, fill1_u8b, fill1_ca, fill1_cb, thenO_some, loadR_rp, opd, Env.put, Env.at, seqR_nrm, seqR_exit, seqR_ret, regR_some, List.set_cons_zero, List.set_cons_succ, List.getD_cons_zero, List.getD_cons_succ, pR_some, wR_some, callR_some, freezeL, freeze_int, freeze_bool, freeze_str, freeze_u16, freeze_u8, freeze_ptr, freeze_nils, boolR_true, boolR_false, blockR_nrm, blockR_exit, blockR_ret, outR_ret, outR_nrm, resVs, resV_tmp, oneOr, Option.map_some, Option.map_none, List.map_cons, List.map_nil, if_true, if_false, Bool.not_true, Bool.not_false, Bool.false_eq_true, reduceIte, decide_true, decide_false, i64_lss, i64_leq, i64_gtr, i64_geq, i64_eql, i64_neq, i64_add, i64_sub, load_ptr, ldV_some, cellAt_cells, List.getElem?_cons_zero, List.getElem?_cons_succ, store_ptr, stO_some, setAt_0, setAt_1, setAt_2, setAt_3, setAt_4, setAt_5, setAt_6, setAt_7, setAt_8, setAt_9, setAt_10, setAt_11, setAt_12, cells_int, cells_bool, cells_str, cells_nils, cells_nilp, cells_ptr, cells_sl, cells_u8, cells_u16, cells_agg, get_upd_is, Option.isSome_some, upd_upd, ev1_nchkV, ev1_faV, nchkV_ptr, faV_ptr, ev1_extV, extV_tup, eqptr_nil, eqptr_ptr, Nat.zero_add, Nat.add_zero]
          rfl
        case refine_3 => simp only [c1, c2]; rfl
  · rintro e' s' ⟨t, h, hh⟩
    rw [h, List.take_length, off]
    exact ⟨⟨s', rfl⟩, fun _ _ => by simp⟩
end Go.Proofs.Ytghfinbdgnggjaa
