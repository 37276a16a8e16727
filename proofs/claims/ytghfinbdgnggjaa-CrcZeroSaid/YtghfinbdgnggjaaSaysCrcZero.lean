/- What the evaluator says of the law CrcZero: true. No conditions. -/
import Derived.Test.YtghfinbdgnggjaaBegun
import Derived.Test.YtghfinbdgnggjaaMb
namespace Go.Proofs.Ytghfinbdgnggjaa.crcZero
open Go Go.Ab
set_option linter.unusedVariables false
set_option linter.unusedSimpArgs false
set_option maxRecDepth 100000 in
theorem says (b0 : List UInt8) {x0 : Ab.AV} (hx0 : Ab.IsBytes x0 b0) : Ab.saysTrue (ev 1000 13 [x0] Ab.St.nil) = true := by
  obtain ⟨s1, hb⟩ := begun_ev
  obtain ⟨y, s2, h1, h2, h3⟩ : ∃ y s', ev 999 20 [x0, .int .i64 60] s1 = some (y, s') ∧ Own s1 s' y (b0.take 60) ∧ Ext s1 s' := short_ev hx0.bys 998 60 (by omega) s1
  have hlen : (b0.take 60).length ≤ 60 := by simp; omega
  generalize b0.take 60 = b at h2 hlen
  have hy := h2.bys
  have of' : ∀ {x : AV} {xs : List UInt8} (hx : Bys x xs) (hl : xs.length ≤ 900) (s : St), ev 999 21 [x] s = some (u16 (crcOf xs), s) := fun hx hl s => ofB hx 978 (by omega) (by omega) s
  have rof' : ∀ {x : AV} {xs : List UInt8} (hx : Bys x xs) (hl : xs.length ≤ 900) (s : St), ev 999 22 [x] s = some (u16 (crcOf xs), s) := fun hx hl s => refOfB hx 978 (by omega) (by omega) s
  obtain ⟨za, s3, a1, a2, a3⟩ := (Own.mk s2 s2 (Ext.refl s2) [0] [.int .u8 0] rfl 1 rfl).app hy ((Ext.refl s2).new _) (by simp; omega)
  obtain ⟨zc, s4, c1, c2, c3⟩ := Own.app0 s3 hy (by omega)
  obtain ⟨zd, s5, d1, d2, d3⟩ := (c2.ext ((Ext.refl s4).new (.tick 1 0))).app (Own.mk s3 s4 c3 [0] [.int .u8 0] rfl 1 rfl).bys (c3.new _) (by simp; omega)
  obtain ⟨zp, s6, p1, p2, p3⟩ : ∃ y' s', ev 999 25 [y] s5 = some (y', s') ∧ Own s5 s' y' (crcPut b) ∧ Ext s5 s' := put_ev hy 969 (by omega) (by omega) s5
  obtain ⟨s7, t1, t3⟩ : ∃ s', ev 999 27 [zp] s6 = some (.bool (crcFine (crcPut b)), s') ∧ Ext s6 s' := fine_ev p2.bys 968 (by rw [crcPut_length]; omega) (by rw [crcPut_length]; omega) s6
  rw [crcFine_put] at t1
  have o1 := of' hy (by omega)
  have o2 := of' d2.bys (by simp; omega)
  have o3 := of' a2.bys (by simp; omega)
  have o4 := rof' a2.bys (by simp; omega)
  have ad : ∀ c s, ev 999 23 [u16 c, .int .u8 0] s = some (u16 (crcAdd c 0), s) := fun c s => add_ev 979 c 0 s
  have e1 : ((crcPut b).length : Int) = IntKind.i64.wrap ((b.length : Int) + 2) := by rw [wrapI _ (by omega) (by omega), crcPut_length]; rfl
  have e2 : crcOf (b ++ [0]) = ~~~crcAdd (~~~crcOf b) 0 := by
    simp only [crcOf, crcFold, List.foldl_append, List.foldl_cons, List.foldl_nil, BitVec.not_not]
  rw [show (1000 : Nat) = 999 + 1 from rfl, ev_in rfl tab13]
  simp only [M13, hb, hx0.bys.freeze, h1, hy.freeze, hy.len, a1, c1, d1, p1, p2.bys.freeze, p2.bys.len, t1, d2.bys.freeze, a2.bys.freeze, o1, o2, o3, o4, b16_not, ad, b16_eql, e1, e2, beq_self_eq_true, env0, List.length_cons, List.length_nil, Nat.reduceAdd, Nat.reduceSub, List.replicate, List.cons_append, List.nil_append, evC_seq, evC_reg, evC_skip, evC_exit, evC_ret, evC_block, evC_condX, condX_true, condX_false, evOps_nil, evOps_one, contR_some, evOps_gd, gdR_tt, gdR_ft, gdR_tf, gdR_ff, gdR_un, bq_true, bq_false, ev1_mv, ev1_pick, ev1_bin, ev1_eqv, ev1_un, un_not, ev1_mki, ev1_slc, ev1_lenV, ev1_ixaV, ev1_appV, ev1_load, ev1_call, ev1_mn, ev1_mx, ev1_conv, ev1_alloc, ev1_storeV, ev1_bslR, bslR_sl, bslR_hs, fill_nil, fill_cons, fill1_u8a, fill1_u8b, fill1_ca, fill1_cb, thenO_some, loadR_rp, opd, Env.put, Env.at, seqR_nrm, seqR_exit, seqR_ret, regR_some, List.set_cons_zero, List.set_cons_succ, List.getD_cons_zero, List.getD_cons_succ, pR_some, wR_some, callR_some, freezeL, freeze_int, freeze_bool, freeze_str, freeze_u16, freeze_u8, freeze_ptr, freeze_nils, boolR_true, boolR_false, blockR_nrm, blockR_exit, blockR_ret, outR_ret, outR_nrm, resVs, resV_tmp, oneOr, Option.map_some, Option.map_none, List.map_cons, List.map_nil, if_true, if_false, Bool.not_true, Bool.not_false, Bool.false_eq_true, reduceIte, decide_true, decide_false, i64_lss, i64_leq, i64_gtr, i64_geq, i64_eql, i64_neq, i64_add, i64_sub]
  rfl
end Go.Proofs.Ytghfinbdgnggjaa.crcZero
