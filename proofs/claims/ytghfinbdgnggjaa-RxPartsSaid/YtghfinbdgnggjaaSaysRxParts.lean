/- What the evaluator says of the law RxParts: true. No conditions. -/
import Derived.Test.YtghfinbdgnggjaaBegun
import Derived.Test.YtghfinbdgnggjaaPar
namespace Go.Proofs.Ytghfinbdgnggjaa.rxParts
open Go Go.Ab
set_option linter.unusedVariables false
set_option linter.unusedSimpArgs false
set_option maxRecDepth 100000 in
theorem says (b0 : List UInt8) {x0 : Ab.AV} (hx0 : Ab.IsBytes x0 b0) : Ab.saysTrue (evZ 1000 18 [x0] Ab.St.nil) = true := by
  obtain ⟨s1, hb⟩ := begun_ev
  obtain ⟨y, s2, p1, p2, p3⟩ : ∃ y s', ev 999 20 [x0, .int .i64 200] s1 = some (y, s') ∧ Own s1 s' y (b0.take 200) ∧ Ext s1 s' := short_ev hx0.bys 998 200 (by omega) s1
  have hl : (b0.take 200).length ≤ 200 := by simp; omega
  generalize b0.take 200 = xs at p2 hl
  have hy := p2.bys
  obtain ⟨s3, q1, q2, q3⟩ := rxNew_ev 50 998 s2
  have ly := hy.len
  have fy := hy.freeze
  have f0 := hx0.bys.freeze
  rw [← evP19] at hb
  rw [← evP20] at p1
  rw [show (998 : Nat) + 1 = 999 from rfl, ← evP36] at q1
  have key : ∃ S, rawR [MRes.tmp 0 2] (seqR (blockR 0 (iter (evC noGl (evP 999) 999 M1018b1) M1018b1l 999 (E18 y s2.next .nils (xs.length : Nat) 0) s3)) (evC noGl (evP 999) 999 M1018r1)) = some (.bool true, S) := by
    refine iter_leave (evC noGl (evP 999) 999 M1018b1) M1018b1l (fun i e S => ∃ gv, maskE M1018b1l e = E18 y s2.next gv (xs.length : Nat) (i : Nat) ∧ PI S s2.next gv xs i)
      (fun out => ∃ S, rawR [MRes.tmp 0 2] (seqR (blockR 0 out) (evC noGl (evP 999) 999 M1018r1)) = some (.bool true, S)) xs.length ?_ ?_ xs.length 0 _ _ 999 (by omega) ⟨.nils, rfl, s2.next, [], q2, .inl ⟨rfl, rfl⟩, trivial, by simp, fun j hj => by obtain ⟨_, _, _, _, hx⟩ := hj; cases hx⟩ (by omega)
    · rintro i e S hi ⟨gv, h1, h2⟩
      rw [h1]
      left
      obtain ⟨e', S', gv', a1, a2, a3⟩ := round18 y xs hy hl s2.next S gv i hi h2
      exact ⟨e', S', a1, gv', a2, a3⟩
    · rintro e S ⟨gv, h1, t, ys, h2, h3, h4, h5, h6⟩
      rw [h1]
      have n1 : (((xs.length : Nat) : Int) < ((xs.length : Nat) : Int)) = False := eq_false (by omega)
      obtain ⟨o, S2, zs, t1, t2, t3, t4⟩ : ∃ o s' ys, ev 999 35 [.int .i64 50, y] S = some (o, s') ∧ IsL o ys ∧ AllBys ys (rxAll 50 xs) ∧ Ext S s' := rxAll_ev hy 50 964 (by omega) (by omega) S
      have hf : (rx50 xs xs.length).2 = rxAll 50 xs := by unfold rx50 rxAll rxRun; rw [List.take_length]
      rw [hf] at h4
      have u1 : ev 999 40 [gv, o] S2 = some (.bool true, S2) := eqAll_ev h3.isL t2 h4 t3 998 (by omega) (by omega) S2
      rw [← evP35] at t1
      rw [← evP40] at u1
      have fg := h3.isL.freeze
      have fo := t2.freeze
      refine ⟨⟨S2, ?_⟩, fun _ _ h => ?_⟩
      · simp only [M1018b1, E18, M1018r1, n1, fy, t1, fg, fo, u1, rawR_ret, rawR_nrm, rawVs_nil, rawVs_tmp, env0, List.length_cons, List.length_nil, Nat.reduceAdd, Nat.reduceSub, List.replicate, List.cons_append, List.nil_append, evC_seq, evC_reg, evC_skip, evC_exit, evC_ret, evC_block, evC_condX, condX_true, condX_false, evOps_nil, evOps_one, contR_some, evOps_gd, gdR_tt, gdR_ft, gdR_tf, gdR_ff, gdR_un, bq_true, bq_false, ev1_mv, ev1_pick, ev1_bin, ev1_eqv, ev1_un, un_not, ev1_mki, ev1_slc, ev1_lenV, ev1_ixaV, ev1_appV, ev1_load, ev1_call, ev1_mn, ev1_mx, ev1_conv, ev1_alloc, ev1_storeV, ev1_bslR, bslR_sl, bslR_hs, fill_nil, fill_cons, fill1_u8a, fill1_u8b, fill1_ca, fill1_cb, thenO_some, loadR_rp, opd, Env.put, Env.at, seqR_nrm, seqR_exit, seqR_ret, regR_some, List.set_cons_zero, List.set_cons_succ, List.getD_cons_zero, List.getD_cons_succ, pR_some, wR_some, callR_some, freezeL, freeze_int, freeze_bool, freeze_str, freeze_u16, freeze_u8, freeze_ptr, freeze_nils, boolR_true, boolR_false, blockR_nrm, blockR_exit, blockR_ret, outR_ret, outR_nrm, resVs, resV_tmp, oneOr, Option.map_some, Option.map_none, List.map_cons, List.map_nil, if_true, if_false, Bool.not_true, Bool.not_false, Bool.false_eq_true, reduceIte, decide_true, decide_false, i64_lss, i64_leq, i64_gtr, i64_geq, i64_eql, i64_neq, i64_add, i64_sub]
      · simp only [M1018b1, E18, n1, env0, List.length_cons, List.length_nil, Nat.reduceAdd, Nat.reduceSub, List.replicate, List.cons_append, List.nil_append, evC_seq, evC_reg, evC_skip, evC_exit, evC_ret, evC_block, evC_condX, condX_true, condX_false, evOps_nil, evOps_one, contR_some, evOps_gd, gdR_tt, gdR_ft, gdR_tf, gdR_ff, gdR_un, bq_true, bq_false, ev1_mv, ev1_pick, ev1_bin, ev1_eqv, ev1_un, un_not, ev1_mki, ev1_slc, ev1_lenV, ev1_ixaV, ev1_appV, ev1_load, ev1_call, ev1_mn, ev1_mx, ev1_conv, ev1_alloc, ev1_storeV, ev1_bslR, bslR_sl, bslR_hs, fill_nil, fill_cons, fill1_u8a, fill1_u8b, fill1_ca, fill1_cb, thenO_some, loadR_rp, opd, Env.put, Env.at, seqR_nrm, seqR_exit, seqR_ret, regR_some, List.set_cons_zero, List.set_cons_succ, List.getD_cons_zero, List.getD_cons_succ, pR_some, wR_some, callR_some, freezeL, freeze_int, freeze_bool, freeze_str, freeze_u16, freeze_u8, freeze_ptr, freeze_nils, boolR_true, boolR_false, blockR_nrm, blockR_exit, blockR_ret, outR_ret, outR_nrm, resVs, resV_tmp, oneOr, Option.map_some, Option.map_none, List.map_cons, List.map_nil, if_true, if_false, Bool.not_true, Bool.not_false, Bool.false_eq_true, reduceIte, decide_true, decide_false, i64_lss, i64_leq, i64_gtr, i64_geq, i64_eql, i64_neq, i64_add, i64_sub] at h
        cases h
  obtain ⟨S, hS⟩ := key
  have hS' : ∀ e, maskE M1018b1l e = maskE M1018b1l (E18 y s2.next .nils (xs.length : Nat) 0) → rawR [MRes.tmp 0 2] (seqR (blockR 0 (iter (evC noGl (evP 999) 999 M1018b1) M1018b1l 999 e s3)) (evC noGl (evP 999) 999 M1018r1)) = some (.bool true, S) := fun e he => by
    rw [iter_mask _ _ _ _ _ _ he]; exact hS
  have hz : evZ 1000 18 [x0] St.nil = h18 [x0] St.nil := rfl
  rw [hz]
  suffices hv : h18 [x0] St.nil = some (.bool true, S) by rw [hv]; rfl
  have hp0 : eqAV .ptr (.ptr s2.next 0) .nilp = some false := rfl
  unfold h18
  simp only [M1018, hb, f0, p1, q1, ly, evC_loop, ev1_eqv, hp0, env0, List.length_cons, List.length_nil, Nat.reduceAdd, Nat.reduceSub, List.replicate, List.cons_append, List.nil_append, evC_seq, evC_reg, evC_skip, evC_exit, evC_ret, evC_block, evC_condX, condX_true, condX_false, evOps_nil, evOps_one, contR_some, evOps_gd, gdR_tt, gdR_ft, gdR_tf, gdR_ff, gdR_un, bq_true, bq_false, ev1_mv, ev1_pick, ev1_bin, ev1_eqv, ev1_un, un_not, ev1_mki, ev1_slc, ev1_lenV, ev1_ixaV, ev1_appV, ev1_load, ev1_call, ev1_mn, ev1_mx, ev1_conv, ev1_alloc, ev1_storeV, ev1_bslR, bslR_sl, bslR_hs, fill_nil, fill_cons, fill1_u8a, fill1_u8b, fill1_ca, fill1_cb, thenO_some, loadR_rp, opd, Env.put, Env.at, seqR_nrm, seqR_exit, seqR_ret, regR_some, List.set_cons_zero, List.set_cons_succ, List.getD_cons_zero, List.getD_cons_succ, pR_some, wR_some, callR_some, freezeL, freeze_int, freeze_bool, freeze_str, freeze_u16, freeze_u8, freeze_ptr, freeze_nils, boolR_true, boolR_false, blockR_nrm, blockR_exit, blockR_ret, outR_ret, outR_nrm, resVs, resV_tmp, oneOr, Option.map_some, Option.map_none, List.map_cons, List.map_nil, if_true, if_false, Bool.not_true, Bool.not_false, Bool.false_eq_true, reduceIte, decide_true, decide_false, i64_lss, i64_leq, i64_gtr, i64_geq, i64_eql, i64_neq, i64_add, i64_sub]
  exact hS' _ rfl
end Go.Proofs.Ytghfinbdgnggjaa.rxParts
