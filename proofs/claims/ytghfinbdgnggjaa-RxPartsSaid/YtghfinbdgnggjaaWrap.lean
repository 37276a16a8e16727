/- Wrap and Abort of sir and of the reference, as the evaluator answers them. No conditions. -/
import Derived.Test.YtghfinbdgnggjaaRep
import Derived.Test.YtghfinbdgnggjaaConcat
import Derived.Test.YtghfinbdgnggjaaEsc
set_option linter.unusedSimpArgs false
namespace Go.Proofs.Ytghfinbdgnggjaa
open Go Go.Ab
/-- How many idle bytes are ahead. -/
def ahead (e : Int) : Nat := min (max e 0).toNat 10
theorem ahead_le (e : Int) : ahead e ≤ 10 := by unfold ahead; omega
theorem ahead_eq (e : Int) : (if (10 : Int) < (if (0 : Int) > e then (0 : Int) else e) then (10 : Int) else (if (0 : Int) > e then (0 : Int) else e)) = ((ahead e : Nat) : Int) := by
  unfold ahead
  split <;> split <;> omega
def wrapB (b : List UInt8) (e : Int) : List UInt8 := List.replicate (ahead e) 255 ++ [192] ++ esc (crcPut b) ++ [193]
def abortB (b : List UInt8) : List UInt8 := [192] ++ esc b ++ [125, 193]
theorem wrap_ev {x : AV} {xs : List UInt8} (hx : Bys x xs) (e : Int) (k : Nat) (hk : xs.length + 10 < k) (hl : xs.length ≤ 100000) (s : St) :
    ∃ y s', ev (k + 31) 29 [x, .int .i64 e] s = some (y, s') ∧ Own s s' y (wrapB xs e) ∧ Ext s s' := by
  have hn := ahead_le e
  obtain ⟨s1, r1, r2⟩ := repeat_ev (k + 24) (ahead e) hn (by omega) (some (s.next, 0, 1)) (s.new (.tick 1 0))
  have e1 : Ext s s1 := ((Ext.refl s).new _).trans r2
  have b0 : Bys (.sl (bytesAV (List.replicate (ahead e) 255)) (ahead e) none) (List.replicate (ahead e) 255) := by
    have := Bys.mk (List.replicate (ahead e) 255) none
    rwa [List.length_replicate] at this
  obtain ⟨y2, s2, p1, p2, p3⟩ := put_ev hx k (by omega) (by omega) (s1.new (.tick 1 0))
  have hpl := crcPut_length xs
  obtain ⟨y3, s3, q1, q2, q3⟩ := escape_ev p2.bys (k + 29) (by omega) (by omega) s2
  have hel := esc_length (crcPut xs)
  have e3 : Ext s s3 := ((e1.new _).trans p3).trans q3
  have b1 : Bys (.sl [.int .u8 192] 1 (some (s1.next, 0, 1))) [192] := Bys.mk [192] (some (s1.next, 0, 1))
  have b3 : Bys (.sl [.int .u8 193] 1 (some (s3.next, 0, 1))) [193] := Bys.mk [193] (some (s3.next, 0, 1))
  have all : AllBys [.sl (bytesAV (List.replicate (ahead e) 255)) (ahead e) none, .sl [.int .u8 192] 1 (some (s1.next, 0, 1)), y3, .sl [.int .u8 193] 1 (some (s3.next, 0, 1))] [List.replicate (ahead e) 255, [192], esc (crcPut xs), [193]] := ⟨b0, b1, q2.bys, b3, trivial⟩
  have flat : [List.replicate (ahead e) 255, [192], esc (crcPut xs), [193]].flatten = wrapB xs e := by simp [wrapB]
  obtain ⟨y4, s4, c1, c2, c3⟩ := concat_ev all (by simp; omega) (by simp) (some ((s3.new (.tick 1 0)).next, 0, 1)) (k + 28) (by simp) ((s3.new (.tick 1 0)).new (.tick 1 0))
  rw [flat] at c2
  refine ⟨y4, s4, ?_, c2.low (by have := e3.le; simp [St.new]; omega), ((e3.new _).new _).trans c3⟩
  rw [show k + 31 = (k + 30) + 1 from rfl, ev_in rfl tab29]
  have f0 := fun a b c d => b0.fill1 [a, b, c, d] 0 (by simp)
  have f1 := fun a b c d => b1.fill1 [a, b, c, d] 1 (by simp)
  have f2 := fun a b c d => q2.bys.fill1 [a, b, c, d] 2 (by simp)
  have f3 := fun a b c d => b3.fill1 [a, b, c, d] 3 (by simp)
  simp only [List.length_cons, List.length_nil, Nat.reduceAdd] at c1
  simp only [M29, isNum, foldV, mnV, mxV, evP, ahead_eq, freeze_sl, r1, hx.freeze, p1, p2.bys.freeze, q1, f0, f1, f2, f3, c1, c2.bys.freeze, env0, List.length_cons, List.length_nil, Nat.reduceAdd, Nat.reduceSub, List.replicate, List.cons_append, List.nil_append, evC_seq, evC_reg, evC_skip, evC_exit, evC_ret, evC_block, evC_condX, condX_true, condX_false, evOps_nil, evOps_one, contR_some, evOps_gd, gdR_tt, gdR_ft, gdR_tf, gdR_ff, gdR_un, bq_true, bq_false, ev1_mv, ev1_pick, ev1_bin, ev1_eqv, ev1_un, un_not, ev1_mki, ev1_slc, ev1_lenV, ev1_ixaV, ev1_appV, ev1_load, ev1_call, ev1_mn, ev1_mx, ev1_conv, ev1_alloc, ev1_storeV, ev1_bslR, bslR_sl, bslR_hs, fill_nil, fill_cons, fill1_u8a, fill1_u8b, fill1_ca, fill1_cb, thenO_some, loadR_rp, opd, Env.put, Env.at, seqR_nrm, seqR_exit, seqR_ret, regR_some, List.set_cons_zero, List.set_cons_succ, List.getD_cons_zero, List.getD_cons_succ, pR_some, wR_some, callR_some, freezeL, freeze_int, freeze_bool, freeze_str, freeze_u16, freeze_u8, freeze_ptr, freeze_nils, boolR_true, boolR_false, blockR_nrm, blockR_exit, blockR_ret, outR_ret, outR_nrm, resVs, resV_tmp, oneOr, Option.map_some, Option.map_none, List.map_cons, List.map_nil, if_true, if_false, Bool.not_true, Bool.not_false, Bool.false_eq_true, reduceIte, decide_true, decide_false, i64_lss, i64_leq, i64_gtr, i64_geq, i64_eql, i64_neq, i64_add, i64_sub]
theorem abort_ev {x : AV} {xs : List UInt8} (hx : Bys x xs) (k : Nat) (hk : xs.length + 10 < k) (hl : xs.length ≤ 100000) (s : St) :
    ∃ y s', ev (k + 31) 33 [x] s = some (y, s') ∧ Own s s' y (abortB xs) ∧ Ext s s' := by
  obtain ⟨y3, s3, q1, q2, q3⟩ := escape_ev hx (k + 29) (by omega) (by omega) (s.new (.tick 1 0))
  have hel := esc_length xs
  have e3 : Ext s s3 := ((Ext.refl s).new _).trans q3
  have b1 : Bys (.sl [.int .u8 192] 1 (some (s.next, 0, 1))) [192] := Bys.mk [192] (some (s.next, 0, 1))
  have b3 : Bys (.sl [.int .u8 125, .int .u8 193] 2 (some (s3.next, 0, 1))) [125, 193] := Bys.mk [125, 193] (some (s3.next, 0, 1))
  have all : AllBys [.sl [.int .u8 192] 1 (some (s.next, 0, 1)), y3, .sl [.int .u8 125, .int .u8 193] 2 (some (s3.next, 0, 1))] [[192], esc xs, [125, 193]] := ⟨b1, q2.bys, b3, trivial⟩
  have flat : [[192], esc xs, [125, 193]].flatten = abortB xs := by simp [abortB]
  obtain ⟨y4, s4, c1, c2, c3⟩ := concat_ev all (by simp; omega) (by simp) (some ((s3.new (.tick 1 0)).next, 0, 1)) (k + 28) (by simp) ((s3.new (.tick 1 0)).new (.tick 1 0))
  rw [flat] at c2
  refine ⟨y4, s4, ?_, c2.low (by have := e3.le; simp [St.new]; omega), ((e3.new _).new _).trans c3⟩
  rw [show k + 31 = (k + 30) + 1 from rfl, ev_in rfl tab33]
  have f1 := fun a b c => b1.fill1 [a, b, c] 0 (by simp)
  have f2 := fun a b c => q2.bys.fill1 [a, b, c] 1 (by simp)
  have f3 := fun a b c => b3.fill1 [a, b, c] 2 (by simp)
  simp only [List.length_cons, List.length_nil, Nat.reduceAdd] at c1
  simp only [M33, freeze_sl, hx.freeze, q1, f1, f2, f3, c1, c2.bys.freeze, env0, List.length_cons, List.length_nil, Nat.reduceAdd, Nat.reduceSub, List.replicate, List.cons_append, List.nil_append, evC_seq, evC_reg, evC_skip, evC_exit, evC_ret, evC_block, evC_condX, condX_true, condX_false, evOps_nil, evOps_one, contR_some, evOps_gd, gdR_tt, gdR_ft, gdR_tf, gdR_ff, gdR_un, bq_true, bq_false, ev1_mv, ev1_pick, ev1_bin, ev1_eqv, ev1_un, un_not, ev1_mki, ev1_slc, ev1_lenV, ev1_ixaV, ev1_appV, ev1_load, ev1_call, ev1_mn, ev1_mx, ev1_conv, ev1_alloc, ev1_storeV, ev1_bslR, bslR_sl, bslR_hs, fill_nil, fill_cons, fill1_u8a, fill1_u8b, fill1_ca, fill1_cb, thenO_some, loadR_rp, opd, Env.put, Env.at, seqR_nrm, seqR_exit, seqR_ret, regR_some, List.set_cons_zero, List.set_cons_succ, List.getD_cons_zero, List.getD_cons_succ, pR_some, wR_some, callR_some, freezeL, freeze_int, freeze_bool, freeze_str, freeze_u16, freeze_u8, freeze_ptr, freeze_nils, boolR_true, boolR_false, blockR_nrm, blockR_exit, blockR_ret, outR_ret, outR_nrm, resVs, resV_tmp, oneOr, Option.map_some, Option.map_none, List.map_cons, List.map_nil, if_true, if_false, Bool.not_true, Bool.not_false, Bool.false_eq_true, reduceIte, decide_true, decide_false, i64_lss, i64_leq, i64_gtr, i64_geq, i64_eql, i64_neq, i64_add, i64_sub]
theorem refAbort_ev {x : AV} {xs : List UInt8} (hx : Bys x xs) (k : Nat) (hk : xs.length + 10 < k) (hl : xs.length ≤ 100000) (s : St) :
    ∃ y s', ev (k + 31) 34 [x] s = some (y, s') ∧ Own s s' y (abortB xs) ∧ Ext s s' := by
  obtain ⟨y3, s3, q1, q2, q3⟩ := refEscape_ev hx (k + 29) (by omega) (by omega) (s.new (.tick 1 0))
  have hel := esc_length xs
  have o1 := (Own.mk s s (Ext.refl s) [192] [.int .u8 192] rfl 1 rfl).ext q3
  have e3 : Ext s s3 := ((Ext.refl s).new _).trans q3
  obtain ⟨y4, s4, a1, a2, a3⟩ := o1.app q2.bys e3 (by simp; omega)
  have b3 : Bys (.sl [.int .u8 125, .int .u8 193] 2 (some (s4.next, 0, 1))) [125, 193] := Bys.mk [125, 193] (some (s4.next, 0, 1))
  obtain ⟨y5, s5, c1, c2, c3⟩ := (a2.ext ((Ext.refl s4).new (.tick 1 0))).app b3 (a3.new _) (by simp; omega)
  refine ⟨y5, s5, ?_, by simpa [abortB] using c2, c3⟩
  rw [show k + 31 = (k + 30) + 1 from rfl, ev_in rfl tab34]
  simp only [M34, hx.freeze, q1, a1, c1, c2.bys.freeze, env0, List.length_cons, List.length_nil, Nat.reduceAdd, Nat.reduceSub, List.replicate, List.cons_append, List.nil_append, evC_seq, evC_reg, evC_skip, evC_exit, evC_ret, evC_block, evC_condX, condX_true, condX_false, evOps_nil, evOps_one, contR_some, evOps_gd, gdR_tt, gdR_ft, gdR_tf, gdR_ff, gdR_un, bq_true, bq_false, ev1_mv, ev1_pick, ev1_bin, ev1_eqv, ev1_un, un_not, ev1_mki, ev1_slc, ev1_lenV, ev1_ixaV, ev1_appV, ev1_load, ev1_call, ev1_mn, ev1_mx, ev1_conv, ev1_alloc, ev1_storeV, ev1_bslR, bslR_sl, bslR_hs, fill_nil, fill_cons, fill1_u8a, fill1_u8b, fill1_ca, fill1_cb, thenO_some, loadR_rp, opd, Env.put, Env.at, seqR_nrm, seqR_exit, seqR_ret, regR_some, List.set_cons_zero, List.set_cons_succ, List.getD_cons_zero, List.getD_cons_succ, pR_some, wR_some, callR_some, freezeL, freeze_int, freeze_bool, freeze_str, freeze_u16, freeze_u8, freeze_ptr, freeze_nils, boolR_true, boolR_false, blockR_nrm, blockR_exit, blockR_ret, outR_ret, outR_nrm, resVs, resV_tmp, oneOr, Option.map_some, Option.map_none, List.map_cons, List.map_nil, if_true, if_false, Bool.not_true, Bool.not_false, Bool.false_eq_true, reduceIte, decide_true, decide_false, i64_lss, i64_leq, i64_gtr, i64_geq, i64_eql, i64_neq, i64_add, i64_sub]
def E30 (x : AV) (e : Int) (o : AV) (i : Int) : Env := [x, .int .i64 e, .undef, .undef, .undef, o, .int .i64 i] ++ List.replicate 19 .undef
theorem round30 (call : Calls') (k : Nat) (x : AV) (e : Int) (i : Nat) (hi : i < ahead e) (s0 s : St) (o : AV) (ho : Own s0 s o (List.replicate i 255)) (he : Ext s0 s) :
    ∃ e' s' o', evC noGl call k M30b0 (E30 x e o i) s = some (.nrm, e', s') ∧ maskE M30b0l e' = E30 x e o' (i + 1 : Nat) ∧ Own s0 s' o' (List.replicate (i + 1) 255) ∧ Ext s0 s' := by
  have hn := ahead_le e
  have h1 : ((i : Int) < ((ahead e : Nat) : Int)) = True := eq_true (by omega)
  have h2 : IntKind.i64.wrap ((i : Int) + 1) = ((i + 1 : Nat) : Int) := by rw [wrapI _ (by omega) (by omega)]; omega
  obtain ⟨z, s', g1, g2, g3⟩ := (ho.ext ((Ext.refl s).new (.tick 1 0))).app (Own.mk s0 s he [255] [.int .u8 255] rfl 1 rfl).bys (he.new _) (by simp; omega)
  have hr : List.replicate i (255 : UInt8) ++ [255] = List.replicate (i + 1) 255 := by rw [List.replicate_succ']
  rw [hr] at g2
  refine ⟨_, s', z, Eq.trans (b := some (Ex.nrm, ?_, s')) ?_ rfl, ?_, g2, g3⟩
  case refine_2 =>
    simp only [M30b0, E30, isNum, foldV, mnV, mxV, evP, ahead_eq, h1, h2, g1, env0, List.length_cons, List.length_nil, Nat.reduceAdd, Nat.reduceSub, List.replicate, List.cons_append, List.nil_append, evC_seq, evC_reg, evC_skip, evC_exit, evC_ret, evC_block, evC_condX, condX_true, condX_false, evOps_nil, evOps_one, contR_some, evOps_gd, gdR_tt, gdR_ft, gdR_tf, gdR_ff, gdR_un, bq_true, bq_false, ev1_mv, ev1_pick, ev1_bin, ev1_eqv, ev1_un, un_not, ev1_mki, ev1_slc, ev1_lenV, ev1_ixaV, ev1_appV, ev1_load, ev1_call, ev1_mn, ev1_mx, ev1_conv, ev1_alloc, ev1_storeV, ev1_bslR, bslR_sl, bslR_hs, fill_nil, fill_cons, fill1_u8a, fill1_u8b, fill1_ca, fill1_cb, thenO_some, loadR_rp, opd, Env.put, Env.at, seqR_nrm, seqR_exit, seqR_ret, regR_some, List.set_cons_zero, List.set_cons_succ, List.getD_cons_zero, List.getD_cons_succ, pR_some, wR_some, callR_some, freezeL, freeze_int, freeze_bool, freeze_str, freeze_u16, freeze_u8, freeze_ptr, freeze_nils, boolR_true, boolR_false, blockR_nrm, blockR_exit, blockR_ret, outR_ret, outR_nrm, resVs, resV_tmp, oneOr, Option.map_some, Option.map_none, List.map_cons, List.map_nil, if_true, if_false, Bool.not_true, Bool.not_false, Bool.false_eq_true, reduceIte, decide_true, decide_false, i64_lss, i64_leq, i64_gtr, i64_geq, i64_eql, i64_neq, i64_add, i64_sub]
    rfl
  case refine_3 => rfl
theorem refWrap_ev {x : AV} {xs : List UInt8} (hx : Bys x xs) (e : Int) (k : Nat) (hk : xs.length + 10 < k) (hl : xs.length ≤ 100000) (s : St) :
    ∃ y s', ev (k + 31) 30 [x, .int .i64 e] s = some (y, s') ∧ Own s s' y (wrapB xs e) ∧ Ext s s' := by
  have hn := ahead_le e
  have off : ∀ o s', evC noGl (ev (k + 30)) (k + 30) M30b0 (E30 x e o (ahead e)) s' = some (.exit 0, (E30 x e o (ahead e)).set 7 (.int .i64 (ahead e)) |>.set 8 (.int .i64 e) |>.set 9 (.int .i64 (if (0 : Int) > e then (0 : Int) else e)) |>.set 10 (.int .i64 (ahead e)) |>.set 11 (.bool false), s') := by
    intro o s'
    simp only [M30b0, E30, isNum, foldV, mnV, mxV, evP, ahead_eq, Int.lt_irrefl, env0, List.length_cons, List.length_nil, Nat.reduceAdd, Nat.reduceSub, List.replicate, List.cons_append, List.nil_append, evC_seq, evC_reg, evC_skip, evC_exit, evC_ret, evC_block, evC_condX, condX_true, condX_false, evOps_nil, evOps_one, contR_some, evOps_gd, gdR_tt, gdR_ft, gdR_tf, gdR_ff, gdR_un, bq_true, bq_false, ev1_mv, ev1_pick, ev1_bin, ev1_eqv, ev1_un, un_not, ev1_mki, ev1_slc, ev1_lenV, ev1_ixaV, ev1_appV, ev1_load, ev1_call, ev1_mn, ev1_mx, ev1_conv, ev1_alloc, ev1_storeV, ev1_bslR, bslR_sl, bslR_hs, fill_nil, fill_cons, fill1_u8a, fill1_u8b, fill1_ca, fill1_cb, thenO_some, loadR_rp, opd, Env.put, Env.at, seqR_nrm, seqR_exit, seqR_ret, regR_some, List.set_cons_zero, List.set_cons_succ, List.getD_cons_zero, List.getD_cons_succ, pR_some, wR_some, callR_some, freezeL, freeze_int, freeze_bool, freeze_str, freeze_u16, freeze_u8, freeze_ptr, freeze_nils, boolR_true, boolR_false, blockR_nrm, blockR_exit, blockR_ret, outR_ret, outR_nrm, resVs, resV_tmp, oneOr, Option.map_some, Option.map_none, List.map_cons, List.map_nil, if_true, if_false, Bool.not_true, Bool.not_false, Bool.false_eq_true, reduceIte, decide_true, decide_false, i64_lss, i64_leq, i64_gtr, i64_geq, i64_eql, i64_neq, i64_add, i64_sub]
  have key := iter_leave (evC noGl (ev (k + 30)) (k + 30) M30b0) M30b0l (fun i e' s' => ∃ o, maskE M30b0l e' = E30 x e o (i : Nat) ∧ Own s s' o (List.replicate i 255) ∧ Ext s s')
    (fun r => ∃ o s', r = evC noGl (ev (k + 30)) (k + 30) M30b0 (E30 x e o (ahead e)) s' ∧ Own s s' o (List.replicate (ahead e) 255) ∧ Ext s s') (ahead e) ?_ ?_ (ahead e) 0 (E30 x e .nils 0) s (k + 30) (by omega) ⟨.nils, rfl, Own.nil s s, Ext.refl s⟩ (by omega)
  · obtain ⟨o, s1, k1, k2, k3⟩ := key
    have key2 : ∀ e', maskE M30b0l e' = E30 x e .nils 0 → iter (evC noGl (ev (k + 30)) (k + 30) M30b0) M30b0l (k + 30) e' s = evC noGl (ev (k + 30)) (k + 30) M30b0 (E30 x e o (ahead e)) s1 :=
      fun e' he => by rw [iter_mask _ _ _ e' (E30 x e .nils 0) _ (he.trans rfl), k1]
    obtain ⟨y1, s2, a1, a2, a3⟩ := (k2.ext ((Ext.refl s1).new (.tick 1 0))).app (Own.mk s s1 k3 [192] [.int .u8 192] rfl 1 rfl).bys (k3.new _) (by simp; omega)
    obtain ⟨y2, s3, p1, p2, p3⟩ : ∃ y s', ev (k + 30) 26 [x] s2 = some (y, s') ∧ Own s2 s' y (crcPut xs) ∧ Ext s2 s' := refPut_ev hx k (by omega) (by omega) s2
    have hpl := crcPut_length xs
    obtain ⟨y3, s4, q1, q2, q3⟩ := refEscape_ev p2.bys (k + 29) (by omega) (by omega) s3
    have hel := esc_length (crcPut xs)
    have e4 : Ext s2 s4 := p3.trans q3
    obtain ⟨y5, s5, b1, b2, b3⟩ := (a2.ext e4).app q2.bys (a3.trans e4) (by simp; omega)
    obtain ⟨y6, s6, c1, c2, c3⟩ := (b2.ext ((Ext.refl s5).new (.tick 1 0))).app (Own.mk s s5 b3 [193] [.int .u8 193] rfl 1 rfl).bys (b3.new _) (by simp; omega)
    refine ⟨y6, s6, ?_, c2, c3⟩
    rw [show k + 31 = (k + 30) + 1 from rfl, ev_in rfl tab30]
    simp only [M30, evC_loop, env0, List.length_cons, List.length_nil, Nat.reduceAdd, Nat.reduceSub, List.replicate, List.cons_append, List.nil_append, evC_seq, evC_reg, evC_skip, evC_exit, evC_ret, evC_block, evC_condX, condX_true, condX_false, evOps_nil, evOps_one, contR_some, evOps_gd, gdR_tt, gdR_ft, gdR_tf, gdR_ff, gdR_un, bq_true, bq_false, ev1_mv, ev1_pick, ev1_bin, ev1_eqv, ev1_un, un_not, ev1_mki, ev1_slc, ev1_lenV, ev1_ixaV, ev1_appV, ev1_load, ev1_call, ev1_mn, ev1_mx, ev1_conv, ev1_alloc, ev1_storeV, ev1_bslR, bslR_sl, bslR_hs, fill_nil, fill_cons, fill1_u8a, fill1_u8b, fill1_ca, fill1_cb, thenO_some, loadR_rp, opd, Env.put, Env.at, seqR_nrm, seqR_exit, seqR_ret, regR_some, List.set_cons_zero, List.set_cons_succ, List.getD_cons_zero, List.getD_cons_succ, pR_some, wR_some, callR_some, freezeL, freeze_int, freeze_bool, freeze_str, freeze_u16, freeze_u8, freeze_ptr, freeze_nils, boolR_true, boolR_false, blockR_nrm, blockR_exit, blockR_ret, outR_ret, outR_nrm, resVs, resV_tmp, oneOr, Option.map_some, Option.map_none, List.map_cons, List.map_nil, if_true, if_false, Bool.not_true, Bool.not_false, Bool.false_eq_true, reduceIte, decide_true, decide_false, i64_lss, i64_leq, i64_gtr, i64_geq, i64_eql, i64_neq, i64_add, i64_sub]
    rw [key2 _ rfl, off]
    simp only [E30, List.replicate, List.cons_append, List.nil_append, a1, hx.freeze, p1, p2.bys.freeze, q1, b1, c1, c2.bys.freeze, env0, List.length_cons, List.length_nil, Nat.reduceAdd, Nat.reduceSub, List.replicate, List.cons_append, List.nil_append, evC_seq, evC_reg, evC_skip, evC_exit, evC_ret, evC_block, evC_condX, condX_true, condX_false, evOps_nil, evOps_one, contR_some, evOps_gd, gdR_tt, gdR_ft, gdR_tf, gdR_ff, gdR_un, bq_true, bq_false, ev1_mv, ev1_pick, ev1_bin, ev1_eqv, ev1_un, un_not, ev1_mki, ev1_slc, ev1_lenV, ev1_ixaV, ev1_appV, ev1_load, ev1_call, ev1_mn, ev1_mx, ev1_conv, ev1_alloc, ev1_storeV, ev1_bslR, bslR_sl, bslR_hs, fill_nil, fill_cons, fill1_u8a, fill1_u8b, fill1_ca, fill1_cb, thenO_some, loadR_rp, opd, Env.put, Env.at, seqR_nrm, seqR_exit, seqR_ret, regR_some, List.set_cons_zero, List.set_cons_succ, List.getD_cons_zero, List.getD_cons_succ, pR_some, wR_some, callR_some, freezeL, freeze_int, freeze_bool, freeze_str, freeze_u16, freeze_u8, freeze_ptr, freeze_nils, boolR_true, boolR_false, blockR_nrm, blockR_exit, blockR_ret, outR_ret, outR_nrm, resVs, resV_tmp, oneOr, Option.map_some, Option.map_none, List.map_cons, List.map_nil, if_true, if_false, Bool.not_true, Bool.not_false, Bool.false_eq_true, reduceIte, decide_true, decide_false, i64_lss, i64_leq, i64_gtr, i64_geq, i64_eql, i64_neq, i64_add, i64_sub]
  · rintro i e' s' hi ⟨o, h, ho, he⟩
    left
    obtain ⟨e2, s2, o2, h1, h2, h3, h4⟩ := round30 (ev (k + 30)) (k + 30) x e i hi s s' o ho he
    exact ⟨e2, s2, by rw [h]; exact h1, o2, h2, h3, h4⟩
  · rintro e' s' ⟨o, h, ho, he⟩
    rw [h]
    exact ⟨⟨o, s', rfl, ho, he⟩, fun _ _ => by rw [off]; simp⟩
end Go.Proofs.Ytghfinbdgnggjaa
