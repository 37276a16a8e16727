/- What the evaluator says of the law SirLong: true. No conditions. -/
import Derived.Test.YtghfinbdgnggjaaBegun
import Derived.Test.YtghfinbdgnggjaaLoop15
namespace Go.Proofs.Ytghfinbdgnggjaa.sirLong
open Go Go.Ab
set_option linter.unusedVariables false
set_option linter.unusedSimpArgs false
set_option maxRecDepth 100000 in
theorem says (b0 : List UInt8) {x0 : Ab.AV} (hx0 : Ab.IsBytes x0 b0) (n1 : Int) (hn1 : -9223372036854775808 ≤ n1 ∧ n1 ≤ 9223372036854775807) : Ab.saysTrue (ev 1000 14 [x0, .int .i64 n1] Ab.St.nil) = true := by
  obtain ⟨s1, hb⟩ := begun_ev
  obtain ⟨y, s2, h1, h2, h3⟩ : ∃ y s', ev 999 20 [x0, .int .i64 100] s1 = some (y, s') ∧ Own s1 s' y (b0.take 100) ∧ Ext s1 s' := short_ev hx0.bys 998 100 (by omega) s1
  have hlen : (b0.take 100).length ≤ 100 := by simp; omega
  generalize b0.take 100 = b at h2 hlen
  have hy := h2.bys
  have t0 := i64_rem n1 11 (by omega)
  have t1 := i64_rem (n1.tmod 11 + 11) 11 (by omega)
  have hr0 : -11 < n1.tmod 11 ∧ n1.tmod 11 < 11 := ⟨tmod11 n1, Int.tmod_lt_of_pos _ (by omega)⟩
  have hr1 : 0 ≤ (n1.tmod 11 + 11).tmod 11 := Int.tmod_nonneg _ (by omega)
  have hr2 : (n1.tmod 11 + 11).tmod 11 < 11 := Int.tmod_lt_of_pos _ (by omega)
  have w0 : IntKind.i64.wrap (n1.tmod 11 + 11) = n1.tmod 11 + 11 := wrapI _ (by omega) (by omega)
  generalize (n1.tmod 11 + 11).tmod 11 = r at t1 hr1 hr2
  have wr : ∀ e s, ∃ y' s', ev 999 29 [y, .int .i64 e] s = some (y', s') ∧ Own s s' y' (wrapB b e) ∧ Ext s s' := fun e s => wrap_ev hy e 968 (by omega) (by omega) s
  obtain ⟨z3, s3, p1, p2, p3⟩ := wr r s2
  obtain ⟨z4, s4, q1, q2, q3⟩ : ∃ y' s', ev 999 31 [y] s3 = some (y', s') ∧ Own s3 s' y' (esc b) ∧ Ext s3 s' := escape_ev hy 998 (by omega) (by omega) s3
  obtain ⟨z5, s5, r1, r2, r3⟩ := wr (-5) s4
  obtain ⟨z6, s6, v1, v2, v3⟩ := wr 0 s5
  obtain ⟨z7, s7, f1, f2, f3⟩ := wr 99 s6
  obtain ⟨z8, s8, g1, g2, g3⟩ := wr 10 s7
  have e1 := esc_length (crcPut b)
  have e2 := esc_ge (crcPut b)
  have e3 := esc_ge b
  rw [crcPut_length] at e1 e2
  have hw : ∀ e, (wrapB b e).length = ahead e + 2 + (esc (crcPut b)).length := by intro e; simp [wrapB]; omega
  have a0 : (ahead r : Int) = r := by unfold ahead; omega
  have c1 : IntKind.i64.wrap (r + (b.length : Int)) = r + (b.length : Int) := wrapI _ (by omega) (by omega)
  have c2 : IntKind.i64.wrap (r + (b.length : Int) + 4) = r + (b.length : Int) + 4 := wrapI _ (by omega) (by omega)
  have c3 : ((((wrapB b r).length : Nat) : Int) ≥ r + (b.length : Int) + 4) = True := eq_true (by rw [hw]; omega)
  have c4 : IntKind.i64.wrap ((b.length : Int) + 2) = (b.length : Int) + 2 := wrapI _ (by omega) (by omega)
  have c5 : IntKind.i64.wrap (2 * ((b.length : Int) + 2)) = 2 * ((b.length : Int) + 2) := wrapI _ (by omega) (by omega)
  have c6 : IntKind.i64.wrap (r + 2 * ((b.length : Int) + 2)) = r + 2 * ((b.length : Int) + 2) := wrapI _ (by omega) (by omega)
  have c7 : IntKind.i64.wrap (r + 2 * ((b.length : Int) + 2) + 2) = r + 2 * ((b.length : Int) + 2) + 2 := wrapI _ (by omega) (by omega)
  have c8 : ((((wrapB b r).length : Nat) : Int) ≤ r + 2 * ((b.length : Int) + 2) + 2) = True := eq_true (by rw [hw]; omega)
  have c9 : ((((esc b).length : Nat) : Int) ≥ (b.length : Int)) = True := eq_true (by omega)
  have c10 : (wrapB b (-5)).length = (wrapB b 0).length := by rw [hw, hw]; rfl
  have c11 : (wrapB b 99).length = (wrapB b 10).length := by rw [hw, hw]; rfl
  rw [show (1000 : Nat) = 999 + 1 from rfl, ev_in rfl tab14]
  simp only [M14, hb, hx0.bys.freeze, h1, hy.freeze, hy.len, t0, t1, w0, i64_mul, p1, p2.bys.len, q1, q2.bys.len, r1, r2.bys.len, v1, v2.bys.len, f1, f2.bys.len, g1, g2.bys.len, c1, c2, c3, c4, c5, c6, c7, c8, c9, c10, c11, env0, List.length_cons, List.length_nil, Nat.reduceAdd, Nat.reduceSub, List.replicate, List.cons_append, List.nil_append, evC_seq, evC_reg, evC_skip, evC_exit, evC_ret, evC_block, evC_condX, condX_true, condX_false, evOps_nil, evOps_one, contR_some, evOps_gd, gdR_tt, gdR_ft, gdR_tf, gdR_ff, gdR_un, bq_true, bq_false, ev1_mv, ev1_pick, ev1_bin, ev1_eqv, ev1_un, un_not, ev1_mki, ev1_slc, ev1_lenV, ev1_ixaV, ev1_appV, ev1_load, ev1_call, ev1_mn, ev1_mx, ev1_conv, ev1_alloc, ev1_storeV, ev1_bslR, bslR_sl, bslR_hs, fill_nil, fill_cons, fill1_u8a, fill1_u8b, fill1_ca, fill1_cb, thenO_some, loadR_rp, opd, Env.put, Env.at, seqR_nrm, seqR_exit, seqR_ret, regR_some, List.set_cons_zero, List.set_cons_succ, List.getD_cons_zero, List.getD_cons_succ, pR_some, wR_some, callR_some, freezeL, freeze_int, freeze_bool, freeze_str, freeze_u16, freeze_u8, freeze_ptr, freeze_nils, boolR_true, boolR_false, blockR_nrm, blockR_exit, blockR_ret, outR_ret, outR_nrm, resVs, resV_tmp, oneOr, Option.map_some, Option.map_none, List.map_cons, List.map_nil, if_true, if_false, Bool.not_true, Bool.not_false, Bool.false_eq_true, reduceIte, decide_true, decide_false, i64_lss, i64_leq, i64_gtr, i64_geq, i64_eql, i64_neq, i64_add, i64_sub, b16_not, b16_eql, str_eql, str_neq, u8_eql, u8_neq, eqAV, eqFl, eqSc, beq_self_eq_true]
  rfl
end Go.Proofs.Ytghfinbdgnggjaa.sirLong
