/- Short, slices.Clone, slices.Equal, Put and Fine of crc and of the reference, as the evaluator answers them. No conditions. -/
import Derived.Test.YtghfinbdgnggjaaRefOf
set_option linter.unusedSimpArgs false
namespace Go.Proofs.Ytghfinbdgnggjaa
open Go Go.Ab
/-- The sum of some bytes. -/
def crcOf (xs : List UInt8) : BitVec 16 := ~~~(crcFold 65535#16 xs)
def crcPut (xs : List UInt8) : List UInt8 := xs ++ [UInt8.ofBitVec ((crcOf xs).setWidth 8), UInt8.ofBitVec (((crcOf xs) >>> 8).setWidth 8)]
theorem crcPut_length (xs : List UInt8) : (crcPut xs).length = xs.length + 2 := by simp [crcPut]
theorem short_ev {x : AV} {xs : List UInt8} (hx : Bys x xs) (k : Nat) (n : Nat) (hn : n ≤ 1000000) (s : St) :
    ∃ y s', ev (k + 1) 20 [x, .int .i64 n] s = some (y, s') ∧ Own s s' y (xs.take n) ∧ Ext s s' := by
  obtain ⟨c, hc, hcb⟩ := hx.till (min xs.length n) (by omega)
  have hmin : (if (n : Int) < (xs.length : Int) then (n : Int) else (xs.length : Int)) = ((min xs.length n : Nat) : Int) := by split <;> omega
  obtain ⟨y, s', h1, h2, h3⟩ := Own.app0 s hcb (by simp; omega)
  refine ⟨y, s', ?_, by rwa [show xs.take (min xs.length n) = xs.take n from by rw [List.take_eq_take_iff]; omega] at h2, h3⟩
  rw [ev_in rfl tab20]
  simp only [M20, hx.len, isNum, foldV, mnV, evP, hmin, hc, h1, h2.bys.freeze, env0, List.length_cons, List.length_nil, Nat.reduceAdd, Nat.reduceSub, List.replicate, List.cons_append, List.nil_append, evC_seq, evC_reg, evC_skip, evC_exit, evC_ret, evC_block, evC_condX, condX_true, condX_false, evOps_nil, evOps_one, contR_some, evOps_gd, gdR_tt, gdR_ft, gdR_tf, gdR_ff, gdR_un, bq_true, bq_false, ev1_mv, ev1_pick, ev1_bin, ev1_eqv, ev1_un, un_not, ev1_mki, ev1_slc, ev1_lenV, ev1_ixaV, ev1_appV, ev1_load, ev1_call, ev1_mn, ev1_mx, ev1_conv, ev1_alloc, ev1_storeV, ev1_bslR, bslR_sl, bslR_hs, fill_nil, fill_cons, fill1_u8a, fill1_u8b, fill1_ca, fill1_cb, thenO_some, loadR_rp, opd, Env.put, Env.at, seqR_nrm, seqR_exit, seqR_ret, regR_some, List.set_cons_zero, List.set_cons_succ, List.getD_cons_zero, List.getD_cons_succ, pR_some, wR_some, callR_some, freezeL, freeze_int, freeze_bool, freeze_str, freeze_u16, freeze_u8, freeze_ptr, freeze_nils, boolR_true, boolR_false, blockR_nrm, blockR_exit, blockR_ret, outR_ret, outR_nrm, resVs, resV_tmp, oneOr, Option.map_some, Option.map_none, List.map_cons, List.map_nil, if_true, if_false, Bool.not_true, Bool.not_false, Bool.false_eq_true, reduceIte, decide_true, decide_false, i64_lss, i64_leq, i64_gtr, i64_geq, i64_eql, i64_neq, i64_add, i64_sub]
theorem b16_to_u8 (c : BitVec 16) : convP (.toInt .u8) (u16 c) = some (u8v (UInt8.ofBitVec (c.setWidth 8))) := by
  simp only [convP, u8v, u16]
  have : IntKind.u8.wrap (c.toNat : Int) = ((c.toNat % 256 : Nat) : Int) := by
    simp only [IntKind.wrap, IntKind.bits, IntKind.signed]; simp
  rw [this]; simp
theorem b16_shr8 (c : BitVec 16) : binV .shr (u16 c) (.int .u64 8) = some (u16 (c >>> 8)) := by
  show some (AV.int .u16 ((c.toNat : Int).fdiv 256)) = _
  rw [Int.fdiv_eq_ediv_of_nonneg _ (by omega)]
  simp only [u16]
  rw [BitVec.toNat_ushiftRight, Nat.shiftRight_eq_div_pow]
  rfl
theorem b16_quo256 (c : BitVec 16) : binV .quo (u16 c) (.int .u16 256) = some (u16 (c >>> 8)) := by
  show some (AV.int .u16 (IntKind.u16.wrap ((c.toNat : Int).tdiv 256))) = _
  have h : (c.toNat : Int).tdiv 256 = ((c.toNat / 256 : Nat) : Int) := by
    rw [Int.tdiv_eq_ediv_of_nonneg (by omega)]; omega
  rw [h, wrap16 _ (by have := c.isLt; omega)]
  simp [u16, BitVec.toNat_ushiftRight, Nat.shiftRight_eq_div_pow]
theorem b16_rem256 (c : BitVec 16) : binV .rem (u16 c) (.int .u16 256) = some (u16 ((c.setWidth 8).setWidth 16)) := by
  show some (AV.int .u16 ((c.toNat : Int).tmod 256)) = _
  have h : (c.toNat : Int).tmod 256 = ((c.toNat % 256 : Nat) : Int) := by
    rw [Int.tmod_eq_emod_of_nonneg (by omega)]; omega
  rw [h]
  simp only [u16, BitVec.toNat_setWidth]
  congr 2
  omega
theorem clone_ev {x : AV} {xs : List UInt8} (hx : Bys x xs) (hl : xs.length ≤ 1000000) (k : Nat) (s : St) :
    ∃ y s', ev (k + 1) 42 [x] s = some (y, s') ∧ Own s s' y xs ∧ Ext s s' := by
  rcases hx with ⟨rfl, rfl⟩ | ⟨tk, rfl⟩
  · refine ⟨.nils, s, ?_, Own.nil _ _, Ext.refl s⟩
    rw [ev_in rfl tab42]
    simp only [M42, eqAV, env0, List.length_cons, List.length_nil, Nat.reduceAdd, Nat.reduceSub, List.replicate, List.cons_append, List.nil_append, evC_seq, evC_reg, evC_skip, evC_exit, evC_ret, evC_block, evC_condX, condX_true, condX_false, evOps_nil, evOps_one, contR_some, evOps_gd, gdR_tt, gdR_ft, gdR_tf, gdR_ff, gdR_un, bq_true, bq_false, ev1_mv, ev1_pick, ev1_bin, ev1_eqv, ev1_un, un_not, ev1_mki, ev1_slc, ev1_lenV, ev1_ixaV, ev1_appV, ev1_load, ev1_call, ev1_mn, ev1_mx, ev1_conv, ev1_alloc, ev1_storeV, ev1_bslR, bslR_sl, bslR_hs, fill_nil, fill_cons, fill1_u8a, fill1_u8b, fill1_ca, fill1_cb, thenO_some, loadR_rp, opd, Env.put, Env.at, seqR_nrm, seqR_exit, seqR_ret, regR_some, List.set_cons_zero, List.set_cons_succ, List.getD_cons_zero, List.getD_cons_succ, pR_some, wR_some, callR_some, freezeL, freeze_int, freeze_bool, freeze_str, freeze_u16, freeze_u8, freeze_ptr, freeze_nils, boolR_true, boolR_false, blockR_nrm, blockR_exit, blockR_ret, outR_ret, outR_nrm, resVs, resV_tmp, oneOr, Option.map_some, Option.map_none, List.map_cons, List.map_nil, if_true, if_false, Bool.not_true, Bool.not_false, Bool.false_eq_true, reduceIte, decide_true, decide_false, i64_lss, i64_leq, i64_gtr, i64_geq, i64_eql, i64_neq, i64_add, i64_sub]
  · have h0 := Own.mk s s (Ext.refl s) [] [] rfl 0 rfl
    obtain ⟨y, s', h1, h2, h3⟩ := h0.app (Bys.mk xs tk) ((Ext.refl s).new _) (by simp; omega)
    refine ⟨y, s', ?_, by simpa using h2, h3⟩
    rw [ev_in rfl tab42]
    simp only [M42, eqAV, h1, h2.bys.freeze, env0, List.length_cons, List.length_nil, Nat.reduceAdd, Nat.reduceSub, List.replicate, List.cons_append, List.nil_append, evC_seq, evC_reg, evC_skip, evC_exit, evC_ret, evC_block, evC_condX, condX_true, condX_false, evOps_nil, evOps_one, contR_some, evOps_gd, gdR_tt, gdR_ft, gdR_tf, gdR_ff, gdR_un, bq_true, bq_false, ev1_mv, ev1_pick, ev1_bin, ev1_eqv, ev1_un, un_not, ev1_mki, ev1_slc, ev1_lenV, ev1_ixaV, ev1_appV, ev1_load, ev1_call, ev1_mn, ev1_mx, ev1_conv, ev1_alloc, ev1_storeV, ev1_bslR, bslR_sl, bslR_hs, fill_nil, fill_cons, fill1_u8a, fill1_u8b, fill1_ca, fill1_cb, thenO_some, loadR_rp, opd, Env.put, Env.at, seqR_nrm, seqR_exit, seqR_ret, regR_some, List.set_cons_zero, List.set_cons_succ, List.getD_cons_zero, List.getD_cons_succ, pR_some, wR_some, callR_some, freezeL, freeze_int, freeze_bool, freeze_str, freeze_u16, freeze_u8, freeze_ptr, freeze_nils, boolR_true, boolR_false, blockR_nrm, blockR_exit, blockR_ret, outR_ret, outR_nrm, resVs, resV_tmp, oneOr, Option.map_some, Option.map_none, List.map_cons, List.map_nil, if_true, if_false, Bool.not_true, Bool.not_false, Bool.false_eq_true, reduceIte, decide_true, decide_false, i64_lss, i64_leq, i64_gtr, i64_geq, i64_eql, i64_neq, i64_add, i64_sub]
theorem put_ev {x : AV} {xs : List UInt8} (hx : Bys x xs) (k : Nat) (hk : xs.length < k) (hl : xs.length ≤ 1000000) (s : St) :
    ∃ y s', ev (k + 30) 25 [x] s = some (y, s') ∧ Own s s' y (crcPut xs) ∧ Ext s s' := by
  have ho : ∀ s, ev (k + 29) 21 [x] s = some (u16 (crcOf xs), s) := fun s => ofB hx (k + 8) (by omega) hl s
  obtain ⟨y, s1, h1, h2, h3⟩ : ∃ y s', ev (k + 29) 42 [x] s = some (y, s') ∧ Own s s' y xs ∧ Ext s s' := clone_ev hx hl (k + 28) s
  obtain ⟨z, s2, g1, g2, g3⟩ := (h2.ext ((Ext.refl s1).new (.tick 1 0))).app (Own.mk s s1 h3 [UInt8.ofBitVec ((crcOf xs).setWidth 8), UInt8.ofBitVec (((crcOf xs) >>> 8).setWidth 8)] [u8v (UInt8.ofBitVec ((crcOf xs).setWidth 8)), u8v (UInt8.ofBitVec (((crcOf xs) >>> 8).setWidth 8))] rfl 2 rfl).bys (h3.new _) (by simp; omega)
  refine ⟨z, s2, ?_, g2, g3⟩
  rw [show k + 30 = (k + 29) + 1 from rfl, ev_in rfl tab25]
  simp only [M25, hx.freeze, ho, h1, b16_shr8, b16_to_u8, g1, g2.bys.freeze, env0, List.length_cons, List.length_nil, Nat.reduceAdd, Nat.reduceSub, List.replicate, List.cons_append, List.nil_append, evC_seq, evC_reg, evC_skip, evC_exit, evC_ret, evC_block, evC_condX, condX_true, condX_false, evOps_nil, evOps_one, contR_some, evOps_gd, gdR_tt, gdR_ft, gdR_tf, gdR_ff, gdR_un, bq_true, bq_false, ev1_mv, ev1_pick, ev1_bin, ev1_eqv, ev1_un, un_not, ev1_mki, ev1_slc, ev1_lenV, ev1_ixaV, ev1_appV, ev1_load, ev1_call, ev1_mn, ev1_mx, ev1_conv, ev1_alloc, ev1_storeV, ev1_bslR, bslR_sl, bslR_hs, fill_nil, fill_cons, fill1_u8a, fill1_u8b, fill1_ca, fill1_cb, thenO_some, loadR_rp, opd, Env.put, Env.at, seqR_nrm, seqR_exit, seqR_ret, regR_some, List.set_cons_zero, List.set_cons_succ, List.getD_cons_zero, List.getD_cons_succ, pR_some, wR_some, callR_some, freezeL, freeze_int, freeze_bool, freeze_str, freeze_u16, freeze_u8, freeze_ptr, freeze_nils, boolR_true, boolR_false, blockR_nrm, blockR_exit, blockR_ret, outR_ret, outR_nrm, resVs, resV_tmp, oneOr, Option.map_some, Option.map_none, List.map_cons, List.map_nil, if_true, if_false, Bool.not_true, Bool.not_false, Bool.false_eq_true, reduceIte, decide_true, decide_false, i64_lss, i64_leq, i64_gtr, i64_geq, i64_eql, i64_neq, i64_add, i64_sub]
end Go.Proofs.Ytghfinbdgnggjaa
