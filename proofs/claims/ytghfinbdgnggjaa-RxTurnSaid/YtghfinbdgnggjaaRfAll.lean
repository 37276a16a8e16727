/- glowwormref1.All, as the evaluator answers it. No conditions. -/
import Derived.Test.YtghfinbdgnggjaaRf
set_option linter.unusedSimpArgs false
namespace Go.Proofs.Ytghfinbdgnggjaa
open Go Go.Ab
theorem rfNew_ev (m : Int) (k : Nat) (s : St) : ∃ s', ev (k + 1) 47 [.int .i64 m] s = some (.ptr s.next 0, s') ∧ RfAt s' s.next (rxNew m) s.next ∧ Ext s s' := by
  have hm : (if (if (200 : Int) < m then (200 : Int) else m) > (1 : Int) then (if (200 : Int) < m then (200 : Int) else m) else (1 : Int)) = ((rxMost m : Nat) : Int) := by
    unfold rxMost; split <;> split <;> omega
  refine ⟨s.new (.cells 0 [.int .i64 (rxMost m), .bool false, .bool false, .nils]), ?_, ⟨.nils, get_new_eq _ _, OwnT.nil _ _, by simp [St.new], by simp [St.new]⟩, (Ext.refl s).new _⟩
  rw [ev_in rfl tab47]
  simp only [M47, isNum, foldV, mnV, mxV, evP, hm, ev1_build, ev1_box, evW, cells_agg, env0, List.length_cons, List.length_nil, Nat.reduceAdd, Nat.reduceSub, List.replicate, List.cons_append, List.nil_append, evC_seq, evC_reg, evC_skip, evC_exit, evC_ret, evC_block, evC_condX, condX_true, condX_false, evOps_nil, evOps_one, contR_some, evOps_gd, gdR_tt, gdR_ft, gdR_tf, gdR_ff, gdR_un, bq_true, bq_false, ev1_mv, ev1_pick, ev1_bin, ev1_eqv, ev1_un, un_not, ev1_mki, ev1_slc, ev1_lenV, ev1_ixaV, ev1_appV, ev1_load, ev1_call, ev1_mn, ev1_mx, ev1_conv, ev1_alloc, ev1_storeV, ev1_bslR, bslR_sl, bslR_hs, fill_nil, fill_cons, fill1_u8a, fill1_u8b, fill1_ca, fill1_cb, thenO_some, loadR_rp, opd, Env.put, Env.at, seqR_nrm, seqR_exit, seqR_ret, regR_some, List.set_cons_zero, List.set_cons_succ, List.getD_cons_zero, List.getD_cons_succ, pR_some, wR_some, callR_some, freezeL, freeze_int, freeze_bool, freeze_str, freeze_u16, freeze_u8, freeze_ptr, freeze_nils, boolR_true, boolR_false, blockR_nrm, blockR_exit, blockR_ret, outR_ret, outR_nrm, resVs, resV_tmp, oneOr, Option.map_some, Option.map_none, List.map_cons, List.map_nil, if_true, if_false, Bool.not_true, Bool.not_false, Bool.false_eq_true, reduceIte, decide_true, decide_false, i64_lss, i64_leq, i64_gtr, i64_geq, i64_eql, i64_neq, i64_add, i64_sub]
theorem round41 {s0 s : St} {x o : AV} {xs : List UInt8} {ys : List AV} {fs : List (List UInt8)} {p t : Nat} {r : RxS} (hx : Bys x xs) (h : RfAt s p r t) (ho : OwnL s0.next s o ys p t) (ha : AllBys ys fs) (he : Ext s0 s) (hp : s0.next ≤ p) (ht : s0.next ≤ t)
    (hr : r.b.length ≤ r.most + 2) (hm : r.most ≤ 200) (i : Nat) (hi : i < xs.length) (hl : xs.length ≤ 100000) (hy : ys.length ≤ i) (k : Nat) (hk : 202 < k) :
    ∃ e' s' o' ys' t', evC noGl (ev (k + 34)) (k + 34) M41b0 ([.undef, x, .undef, .undef, .undef, .ptr p 0, o, .int .i64 i] ++ List.replicate 31 .undef) s = some (.nrm, e', s') ∧
      maskE M41b0l e' = [.undef, x, .undef, .undef, .undef, .ptr p 0, o', .int .i64 (i + 1 : Nat)] ++ List.replicate 31 .undef ∧
      RfAt s' p (rxStep (r, fs) xs[i]).1 t' ∧ OwnL s0.next s' o' ys' p t' ∧ AllBys ys' (rxStep (r, fs) xs[i]).2 ∧ Ext s0 s' ∧ s0.next ≤ t' ∧ ys'.length ≤ i + 1 := by
  have h1 : ((i : Int) < (xs.length : Int)) = True := eq_true (by omega)
  have h2 : IntKind.i64.wrap ((i : Int) + 1) = ((i + 1 : Nat) : Int) := by rw [wrapI _ (by omega) (by omega)]; omega
  obtain ⟨y, s1, t', g1, g2, g3, g4, g5⟩ := rfPut_ev h xs[i] k (by omega) (by omega) hm
  have ht' : s0.next ≤ t' := by
    rcases g4 with rfl | g4
    · exact ht
    · exact Nat.le_trans he.le g4
  have he1 := Still.ext he g5 hp ht
  have ho1 := ho.still g5 g4
  have hq : ((((rxPut r xs[i]).2.2.1 : Nat) : Int) == 0) = ((rxPut r xs[i]).2.2.1 == 0) := by rw [Bool.eq_iff_iff, beq_iff_eq, beq_iff_eq]; omega
  have idle : ((rxPut r xs[i]).2.2.2 && (rxPut r xs[i]).2.2.1 == 0) = false → (rxStep (r, fs) xs[i]) = ((rxPut r xs[i]).1, fs) := by
    intro hc; unfold rxStep; rw [hc]; rfl
  cases c1 : (rxPut r xs[i]).2.2.2 with
  | false =>
    rw [idle (by rw [c1]; rfl)]
    rw [c1] at g1
    refine ⟨_, s1, o, ys, t', Eq.trans (b := some (Ex.nrm, ?_, s1)) ?_ rfl, ?_, g3, ho1, ha, he1, ht', by omega⟩
    case refine_2 =>
      simp only [M41b0, h1, h2, hx.len, hx.ixa i hi, cut_bytes xs i hi, g1, env0, List.length_cons, List.length_nil, Nat.reduceAdd, Nat.reduceSub, List.replicate, List.cons_append, List.nil_append, evC_seq, evC_reg, evC_skip, evC_exit, evC_ret, evC_block, evC_condX, condX_true, condX_false, evOps_nil, evOps_one, contR_some, evOps_gd, gdR_tt, gdR_ft, gdR_tf, gdR_ff, gdR_un, bq_true, bq_false, ev1_mv, ev1_pick, ev1_bin, ev1_eqv, ev1_un, un_not, ev1_mki, ev1_slc, ev1_lenV, ev1_ixaV, ev1_appV, ev1_load, ev1_call, ev1_mn, ev1_mx, ev1_conv, ev1_alloc, ev1_storeV, ev1_bslR, bslR_sl, bslR_hs, fill_nil, fill_cons, fill1_u8a, fill1_u8b, fill1_ca, fill1_cb, thenO_some, loadR_rp, opd, Env.put, Env.at, seqR_nrm, seqR_exit, seqR_ret, regR_some, List.set_cons_zero, List.set_cons_succ, List.getD_cons_zero, List.getD_cons_succ, pR_some, wR_some, callR_some, freezeL, freeze_int, freeze_bool, freeze_str, freeze_u16, freeze_u8, freeze_ptr, freeze_nils, boolR_true, boolR_false, blockR_nrm, blockR_exit, blockR_ret, outR_ret, outR_nrm, resVs, resV_tmp, oneOr, Option.map_some, Option.map_none, List.map_cons, List.map_nil, if_true, if_false, Bool.not_true, Bool.not_false, Bool.false_eq_true, reduceIte, decide_true, decide_false, i64_lss, i64_leq, i64_gtr, i64_geq, i64_eql, i64_neq, i64_add, i64_sub, load_ptr, ldV_some, cellAt_cells, List.getElem?_cons_zero, List.getElem?_cons_succ, store_ptr, stO_some, setAt_0, setAt_1, setAt_2, setAt_3, setAt_4, setAt_5, setAt_6, setAt_7, setAt_8, setAt_9, setAt_10, setAt_11, setAt_12, cells_int, cells_bool, cells_str, cells_nils, cells_nilp, cells_ptr, cells_sl, cells_u8, cells_u16, cells_agg, get_upd_is, Option.isSome_some, upd_upd, ev1_nchkV, ev1_faV, nchkV_ptr, faV_ptr, ev1_extV, extV_tup, eqptr_nil, eqptr_ptr, Nat.zero_add, Nat.add_zero]
      rfl
    case refine_3 => rfl
  | true =>
  cases c2 : ((rxPut r xs[i]).2.2.1 == 0) with
  | false =>
    rw [idle (by rw [c1, c2]; rfl)]
    rw [c1] at g1
    rw [c2] at hq
    refine ⟨_, s1, o, ys, t', Eq.trans (b := some (Ex.nrm, ?_, s1)) ?_ rfl, ?_, g3, ho1, ha, he1, ht', by omega⟩
    case refine_2 =>
      simp only [M41b0, h1, h2, hx.len, hx.ixa i hi, cut_bytes xs i hi, g1, hq, env0, List.length_cons, List.length_nil, Nat.reduceAdd, Nat.reduceSub, List.replicate, List.cons_append, List.nil_append, evC_seq, evC_reg, evC_skip, evC_exit, evC_ret, evC_block, evC_condX, condX_true, condX_false, evOps_nil, evOps_one, contR_some, evOps_gd, gdR_tt, gdR_ft, gdR_tf, gdR_ff, gdR_un, bq_true, bq_false, ev1_mv, ev1_pick, ev1_bin, ev1_eqv, ev1_un, un_not, ev1_mki, ev1_slc, ev1_lenV, ev1_ixaV, ev1_appV, ev1_load, ev1_call, ev1_mn, ev1_mx, ev1_conv, ev1_alloc, ev1_storeV, ev1_bslR, bslR_sl, bslR_hs, fill_nil, fill_cons, fill1_u8a, fill1_u8b, fill1_ca, fill1_cb, thenO_some, loadR_rp, opd, Env.put, Env.at, seqR_nrm, seqR_exit, seqR_ret, regR_some, List.set_cons_zero, List.set_cons_succ, List.getD_cons_zero, List.getD_cons_succ, pR_some, wR_some, callR_some, freezeL, freeze_int, freeze_bool, freeze_str, freeze_u16, freeze_u8, freeze_ptr, freeze_nils, boolR_true, boolR_false, blockR_nrm, blockR_exit, blockR_ret, outR_ret, outR_nrm, resVs, resV_tmp, oneOr, Option.map_some, Option.map_none, List.map_cons, List.map_nil, if_true, if_false, Bool.not_true, Bool.not_false, Bool.false_eq_true, reduceIte, decide_true, decide_false, i64_lss, i64_leq, i64_gtr, i64_geq, i64_eql, i64_neq, i64_add, i64_sub, load_ptr, ldV_some, cellAt_cells, List.getElem?_cons_zero, List.getElem?_cons_succ, store_ptr, stO_some, setAt_0, setAt_1, setAt_2, setAt_3, setAt_4, setAt_5, setAt_6, setAt_7, setAt_8, setAt_9, setAt_10, setAt_11, setAt_12, cells_int, cells_bool, cells_str, cells_nils, cells_nilp, cells_ptr, cells_sl, cells_u8, cells_u16, cells_agg, get_upd_is, Option.isSome_some, upd_upd, ev1_nchkV, ev1_faV, nchkV_ptr, faV_ptr, ev1_extV, extV_tup, eqptr_nil, eqptr_ptr, Nat.zero_add, Nat.add_zero]
      rfl
    case refine_3 => rfl
  | true =>
    have hst : rxStep (r, fs) xs[i] = ((rxPut r xs[i]).1, fs ++ [(rxPut r xs[i]).2.1]) := by unfold rxStep; rw [c1, c2]; rfl
    rw [hst]
    rw [c1] at g1
    rw [c2] at hq
    obtain ⟨ob, a1, a2, a3, a4⟩ := g3
    have en := (Ext.refl s1).new (.tick 1 0)
    have ho2 : OwnL s0.next (s1.new (.tick 1 0)) o ys p t' := ho1.still (en.frame p t') (.inl rfl)
    obtain ⟨o', s2, b1, b2, b3, b4⟩ := ho2.app (Nat.lt_succ_of_lt a3) (Nat.lt_succ_of_lt a4) (Nat.le_succ_of_le he1.le) y (some (s1.next, 0, 1)) (by omega)
    have f1 : Ab.fill1 [AV.nils] 0 1 y = some [y] := g2.fill1 [.nils] 0 (by simp)
    refine ⟨_, s2, o', ys ++ [y], t', Eq.trans (b := some (Ex.nrm, ?_, s2)) ?_ rfl, ?_, ⟨ob, ?_, ?_, ?_, ?_⟩, b2, ha.snoc g2, ⟨Nat.le_trans (Nat.le_succ_of_le he1.le) b3, fun q hq' => ?_⟩, ht', by simp; omega⟩
    case refine_2 =>
      simp only [M41b0, h1, h2, hx.len, hx.ixa i hi, cut_bytes xs i hi, g1, hq, f1, b1, env0, List.length_cons, List.length_nil, Nat.reduceAdd, Nat.reduceSub, List.replicate, List.cons_append, List.nil_append, evC_seq, evC_reg, evC_skip, evC_exit, evC_ret, evC_block, evC_condX, condX_true, condX_false, evOps_nil, evOps_one, contR_some, evOps_gd, gdR_tt, gdR_ft, gdR_tf, gdR_ff, gdR_un, bq_true, bq_false, ev1_mv, ev1_pick, ev1_bin, ev1_eqv, ev1_un, un_not, ev1_mki, ev1_slc, ev1_lenV, ev1_ixaV, ev1_appV, ev1_load, ev1_call, ev1_mn, ev1_mx, ev1_conv, ev1_alloc, ev1_storeV, ev1_bslR, bslR_sl, bslR_hs, fill_nil, fill_cons, fill1_u8a, fill1_u8b, fill1_ca, fill1_cb, thenO_some, loadR_rp, opd, Env.put, Env.at, seqR_nrm, seqR_exit, seqR_ret, regR_some, List.set_cons_zero, List.set_cons_succ, List.getD_cons_zero, List.getD_cons_succ, pR_some, wR_some, callR_some, freezeL, freeze_int, freeze_bool, freeze_str, freeze_u16, freeze_u8, freeze_ptr, freeze_nils, boolR_true, boolR_false, blockR_nrm, blockR_exit, blockR_ret, outR_ret, outR_nrm, resVs, resV_tmp, oneOr, Option.map_some, Option.map_none, List.map_cons, List.map_nil, if_true, if_false, Bool.not_true, Bool.not_false, Bool.false_eq_true, reduceIte, decide_true, decide_false, i64_lss, i64_leq, i64_gtr, i64_geq, i64_eql, i64_neq, i64_add, i64_sub, load_ptr, ldV_some, cellAt_cells, List.getElem?_cons_zero, List.getElem?_cons_succ, store_ptr, stO_some, setAt_0, setAt_1, setAt_2, setAt_3, setAt_4, setAt_5, setAt_6, setAt_7, setAt_8, setAt_9, setAt_10, setAt_11, setAt_12, cells_int, cells_bool, cells_str, cells_nils, cells_nilp, cells_ptr, cells_sl, cells_u8, cells_u16, cells_agg, get_upd_is, Option.isSome_some, upd_upd, ev1_nchkV, ev1_faV, nchkV_ptr, faV_ptr, ev1_extV, extV_tup, eqptr_nil, eqptr_ptr, Nat.zero_add, Nat.add_zero]
      rfl
    case refine_3 => rfl
    case refine_4 => rw [b4 p (Nat.lt_succ_of_lt a3) (.inl rfl), en.get p a3]; exact a1
    case refine_5 => exact a2.keep (Nat.le_trans (Nat.le_succ _) b3) (fun v hv => by rw [b4 t' (Nat.lt_succ_of_lt a4) (.inr (.inl rfl)), en.get t' a4]; exact hv)
    case refine_6 => exact Nat.lt_of_lt_of_le (Nat.lt_succ_of_lt a3) b3
    case refine_7 => exact Nat.lt_of_lt_of_le (Nat.lt_succ_of_lt a4) b3
    case refine_8 =>
      have hlt : q < s1.next := Nat.lt_of_lt_of_le hq' he1.le
      rw [b4 q (Nat.lt_succ_of_lt hlt) (.inr (.inr hq')), en.get q hlt]
      exact he1.get q hq'
/-- rx.All, of any bytes. -/
theorem rfAll_ev {x : AV} {xs : List UInt8} (hx : Bys x xs) (m : Int) (k : Nat) (hk : xs.length + 202 < k) (hl : xs.length ≤ 100000) (s : St) :
    ∃ o s' ys, ev (k + 35) 41 [.int .i64 m, x] s = some (o, s') ∧ IsL o ys ∧ AllBys ys (rxAll m xs) ∧ Ext s s' := by
  obtain ⟨s1, n1, n2, n3⟩ := rfNew_ev m (k + 33) s
  let E (o : AV) (i : Int) : Env := [.undef, x, .undef, .undef, .undef, .ptr s.next 0, o, .int .i64 i] ++ List.replicate 31 .undef
  have off : ∀ o s', evC noGl (ev (k + 34)) (k + 34) M41b0 (E o xs.length) s' = some (.exit 0, (E o xs.length).set 13 (.int .i64 xs.length) |>.set 14 x |>.set 15 (.int .i64 xs.length) |>.set 16 (.bool false), s') := by
    intro o s'
    simp only [M41b0, E, hx.len, Int.lt_irrefl, env0, List.length_cons, List.length_nil, Nat.reduceAdd, Nat.reduceSub, List.replicate, List.cons_append, List.nil_append, evC_seq, evC_reg, evC_skip, evC_exit, evC_ret, evC_block, evC_condX, condX_true, condX_false, evOps_nil, evOps_one, contR_some, evOps_gd, gdR_tt, gdR_ft, gdR_tf, gdR_ff, gdR_un, bq_true, bq_false, ev1_mv, ev1_pick, ev1_bin, ev1_eqv, ev1_un, un_not, ev1_mki, ev1_slc, ev1_lenV, ev1_ixaV, ev1_appV, ev1_load, ev1_call, ev1_mn, ev1_mx, ev1_conv, ev1_alloc, ev1_storeV, ev1_bslR, bslR_sl, bslR_hs, fill_nil, fill_cons, fill1_u8a, fill1_u8b, fill1_ca, fill1_cb, thenO_some, loadR_rp, opd, Env.put, Env.at, seqR_nrm, seqR_exit, seqR_ret, regR_some, List.set_cons_zero, List.set_cons_succ, List.getD_cons_zero, List.getD_cons_succ, pR_some, wR_some, callR_some, freezeL, freeze_int, freeze_bool, freeze_str, freeze_u16, freeze_u8, freeze_ptr, freeze_nils, boolR_true, boolR_false, blockR_nrm, blockR_exit, blockR_ret, outR_ret, outR_nrm, resVs, resV_tmp, oneOr, Option.map_some, Option.map_none, List.map_cons, List.map_nil, if_true, if_false, Bool.not_true, Bool.not_false, Bool.false_eq_true, reduceIte, decide_true, decide_false, i64_lss, i64_leq, i64_gtr, i64_geq, i64_eql, i64_neq, i64_add, i64_sub]
  have key := iter_leave (evC noGl (ev (k + 34)) (k + 34) M41b0) M41b0l
    (fun i e' s' => ∃ o ys t, maskE M41b0l e' = E o (i : Nat) ∧ RfAt s' s.next (rxRun (rxNew m) (xs.take i)).1 t ∧ OwnL s.next s' o ys s.next t ∧ AllBys ys (rxRun (rxNew m) (xs.take i)).2 ∧ Ext s s' ∧ s.next ≤ t ∧ ys.length ≤ i)
    (fun r => ∃ o ys s', r = some (.exit 0, (E o xs.length).set 13 (.int .i64 xs.length) |>.set 14 x |>.set 15 (.int .i64 xs.length) |>.set 16 (.bool false), s') ∧ IsL o ys ∧ AllBys ys (rxAll m xs) ∧ Ext s s') xs.length ?_ ?_ xs.length 0 (E .nils 0) s1 (k + 34) (by omega)
    ⟨.nils, [], s.next, rfl, n2, .inl ⟨rfl, rfl⟩, trivial, n3, Nat.le_refl _, Nat.le_refl _⟩ (by omega)
  · obtain ⟨o, ys, s', k1, k2, k3, k4⟩ := key
    have key' : ∀ e, maskE M41b0l e = E .nils 0 → iter (evC noGl (ev (k + 34)) (k + 34) M41b0) M41b0l (k + 34) e s1 = some (.exit 0, (E o xs.length).set 13 (.int .i64 xs.length) |>.set 14 x |>.set 15 (.int .i64 xs.length) |>.set 16 (.bool false), s') :=
      fun e he => by rw [iter_mask _ _ _ e (E .nils 0) _ (he.trans rfl), k1]
    refine ⟨o, s', ys, ?_, k2, k3, k4⟩
    rw [show k + 35 = (k + 34) + 1 from rfl, ev_in rfl tab41]
    simp only [M41, hx.len, n1, evC_loop, env0, List.length_cons, List.length_nil, Nat.reduceAdd, Nat.reduceSub, List.replicate, List.cons_append, List.nil_append, evC_seq, evC_reg, evC_skip, evC_exit, evC_ret, evC_block, evC_condX, condX_true, condX_false, evOps_nil, evOps_one, contR_some, evOps_gd, gdR_tt, gdR_ft, gdR_tf, gdR_ff, gdR_un, bq_true, bq_false, ev1_mv, ev1_pick, ev1_bin, ev1_eqv, ev1_un, un_not, ev1_mki, ev1_slc, ev1_lenV, ev1_ixaV, ev1_appV, ev1_load, ev1_call, ev1_mn, ev1_mx, ev1_conv, ev1_alloc, ev1_storeV, ev1_bslR, bslR_sl, bslR_hs, fill_nil, fill_cons, fill1_u8a, fill1_u8b, fill1_ca, fill1_cb, thenO_some, loadR_rp, opd, Env.put, Env.at, seqR_nrm, seqR_exit, seqR_ret, regR_some, List.set_cons_zero, List.set_cons_succ, List.getD_cons_zero, List.getD_cons_succ, pR_some, wR_some, callR_some, freezeL, freeze_int, freeze_bool, freeze_str, freeze_u16, freeze_u8, freeze_ptr, freeze_nils, boolR_true, boolR_false, blockR_nrm, blockR_exit, blockR_ret, outR_ret, outR_nrm, resVs, resV_tmp, oneOr, Option.map_some, Option.map_none, List.map_cons, List.map_nil, if_true, if_false, Bool.not_true, Bool.not_false, Bool.false_eq_true, reduceIte, decide_true, decide_false, i64_lss, i64_leq, i64_gtr, i64_geq, i64_eql, i64_neq, i64_add, i64_sub]
    rw [key' _ rfl]
    simp only [E, List.replicate, List.cons_append, List.nil_append, k2.freeze, env0, List.length_cons, List.length_nil, Nat.reduceAdd, Nat.reduceSub, List.replicate, List.cons_append, List.nil_append, evC_seq, evC_reg, evC_skip, evC_exit, evC_ret, evC_block, evC_condX, condX_true, condX_false, evOps_nil, evOps_one, contR_some, evOps_gd, gdR_tt, gdR_ft, gdR_tf, gdR_ff, gdR_un, bq_true, bq_false, ev1_mv, ev1_pick, ev1_bin, ev1_eqv, ev1_un, un_not, ev1_mki, ev1_slc, ev1_lenV, ev1_ixaV, ev1_appV, ev1_load, ev1_call, ev1_mn, ev1_mx, ev1_conv, ev1_alloc, ev1_storeV, ev1_bslR, bslR_sl, bslR_hs, fill_nil, fill_cons, fill1_u8a, fill1_u8b, fill1_ca, fill1_cb, thenO_some, loadR_rp, opd, Env.put, Env.at, seqR_nrm, seqR_exit, seqR_ret, regR_some, List.set_cons_zero, List.set_cons_succ, List.getD_cons_zero, List.getD_cons_succ, pR_some, wR_some, callR_some, freezeL, freeze_int, freeze_bool, freeze_str, freeze_u16, freeze_u8, freeze_ptr, freeze_nils, boolR_true, boolR_false, blockR_nrm, blockR_exit, blockR_ret, outR_ret, outR_nrm, resVs, resV_tmp, oneOr, Option.map_some, Option.map_none, List.map_cons, List.map_nil, if_true, if_false, Bool.not_true, Bool.not_false, Bool.false_eq_true, reduceIte, decide_true, decide_false, i64_lss, i64_leq, i64_gtr, i64_geq, i64_eql, i64_neq, i64_add, i64_sub]
  · rintro i e' s' hi ⟨o, ys, t, h, hr, ho, ha, he, ht, hy⟩
    left
    obtain ⟨w1, w2⟩ := rxRun_inv (rxNew m) (xs.take i) (by simp [rxNew])
    have w3 : (rxNew m).most ≤ 200 := rxMost_le m
    obtain ⟨e2, s2, o2, ys2, t2, g1, g2, g3, g4, g5, g6, g7, g8⟩ := round41 hx hr ho ha he (Nat.le_refl _) ht w1 (by omega) i hi hl hy k (by omega)
    refine ⟨e2, s2, by rw [h]; exact g1, o2, ys2, t2, g2, ?_, g4, ?_, g6, g7, g8⟩
    · rw [rxRun_succ _ _ _ hi]; exact g3
    · rw [rxRun_succ _ _ _ hi]; exact g5
  · rintro e' s' ⟨o, ys, t, h, hr, ho, ha, he, ht, hy⟩
    rw [h, off]
    rw [List.take_length] at ha
    exact ⟨⟨o, ys, s', rfl, ho.isL, ha, he⟩, fun _ _ => by simp⟩
end Go.Proofs.Ytghfinbdgnggjaa
