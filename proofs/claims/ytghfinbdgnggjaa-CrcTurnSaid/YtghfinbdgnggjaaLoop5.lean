/- The loop of CrcTurn. No conditions. -/
import Derived.Test.YtghfinbdgnggjaaBegun
import Derived.Test.YtghfinbdgnggjaaMb
import Derived.Test.YtghfinbdgnggjaaHs
import Derived.Test.YtghfinbdgnggjaaPCrc
set_option linter.unusedSimpArgs false
namespace Go.Proofs.Ytghfinbdgnggjaa
open Go Go.Ab
def E5 (w : BitVec 16) (k : Int) (x : AV) (i : Int) : Env := [.undef, .undef, u16 w, .undef, .undef, .undef, .undef, .undef, .undef, .int .i64 k, x, .int .i64 i] ++ List.replicate 48 .undef
theorem lit1' : (AV.int .u16 1) = u16 1#16 := rfl
theorem round5 (w : BitVec 16) (k : Nat) (b : Nat) (q : List UInt8) (i : Nat) (hi : i < 16) (hk : k + 16 ≤ 8 * q.length) (hl : q.length ≤ 200) (s : St) (hs : Has s b q) :
    ∃ e' s', evC noGl (ev 999) 999 M5b0 (E5 w k (.hs 1 b 0 q.length) i) s = some (.nrm, e', s') ∧ maskE M5b0l e' = E5 w k (.hs 1 b 0 q.length) (i + 1 : Nat) ∧ Has s' b (if w.getLsbD i then turnBit q (k + i) else q) := by
  have h1 : ((i : Int) < 16) = True := eq_true (by omega)
  have h2 : IntKind.i64.wrap ((i : Int) + 1) = ((i + 1 : Nat) : Int) := wrapI _ (by omega) (by omega)
  have h3 : IntKind.i64.wrap ((k : Int) + (i : Int)) = ((k + i : Nat) : Int) := by rw [wrapI _ (by omega) (by omega)]; omega
  have h4 := b16_shr w i (by omega)
  have h5 := bit_of w i
  have h6 : binV .quo (.int .i64 ((k + i : Nat) : Int)) (.int .i64 8) = some (.int .i64 (((k + i) / 8 : Nat) : Int)) := i64_quoN (k + i) 8 (by omega) (by omega)
  have h7 : binV .rem (.int .i64 ((k + i : Nat) : Int)) (.int .i64 8) = some (.int .i64 (((k + i) % 8 : Nat) : Int)) := i64_remN (k + i) 8 (by omega)
  have h8 := u8_shl1 ((k + i) % 8) (by omega)
  have hj : (k + i) / 8 < q.length := by omega
  have h9 := hs_ixa b q.length ((k + i) / 8) hj
  have h10 := hs.load ((k + i) / 8) hj
  have h11 := hs.store ((k + i) / 8) hj (q[(k + i) / 8] ^^^ (1 <<< UInt8.ofNat ((k + i) % 8)))
  cases hb : w.getLsbD i with
  | false =>
    rw [hb] at h5
    refine ⟨_, s, Eq.trans (b := some (Ex.nrm, ?_, s)) ?_ rfl, ?_, by simpa using hs⟩
    case refine_2 =>
      simp only [M5b0, E5, h1, h2, h4, h5, lit1', b16_and, env0, List.length_cons, List.length_nil, Nat.reduceAdd, Nat.reduceSub, List.replicate, List.cons_append, List.nil_append, evC_seq, evC_reg, evC_skip, evC_exit, evC_ret, evC_block, evC_condX, condX_true, condX_false, evOps_nil, evOps_one, contR_some, evOps_gd, gdR_tt, gdR_ft, gdR_tf, gdR_ff, gdR_un, bq_true, bq_false, ev1_mv, ev1_pick, ev1_bin, ev1_eqv, ev1_un, un_not, ev1_mki, ev1_slc, ev1_lenV, ev1_ixaV, ev1_appV, ev1_load, ev1_call, ev1_mn, ev1_mx, ev1_conv, ev1_alloc, ev1_storeV, ev1_bslR, bslR_sl, bslR_hs, fill_nil, fill_cons, fill1_u8a, fill1_u8b, fill1_ca, fill1_cb, thenO_some, loadR_rp, opd, Env.put, Env.at, seqR_nrm, seqR_exit, seqR_ret, regR_some, List.set_cons_zero, List.set_cons_succ, List.getD_cons_zero, List.getD_cons_succ, pR_some, wR_some, callR_some, freezeL, freeze_int, freeze_bool, freeze_str, freeze_u16, freeze_u8, freeze_ptr, freeze_nils, boolR_true, boolR_false, blockR_nrm, blockR_exit, blockR_ret, outR_ret, outR_nrm, resVs, resV_tmp, oneOr, Option.map_some, Option.map_none, List.map_cons, List.map_nil, if_true, if_false, Bool.not_true, Bool.not_false, Bool.false_eq_true, reduceIte, decide_true, decide_false, i64_lss, i64_leq, i64_gtr, i64_geq, i64_eql, i64_neq, i64_add, i64_sub, b16_not, b16_eql, str_eql, str_neq, u8_eql, u8_neq, eqAV, eqFl, eqSc, beq_self_eq_true]
      rfl
    case refine_3 => rfl
  | true =>
    rw [hb] at h5
    refine ⟨_, _, Eq.trans (b := some (Ex.nrm, ?_, s.upd b (.cells 1 (bytesAV (q.set ((k + i) / 8) (q[(k + i) / 8] ^^^ (1 <<< UInt8.ofNat ((k + i) % 8)))))))) ?_ rfl, ?_, ?_⟩
    case refine_2 =>
      simp only [M5b0, E5, h1, h2, h3, h4, h5, h6, h7, h8, h9, h10, h11, b8_xor, lit1', b16_and, env0, List.length_cons, List.length_nil, Nat.reduceAdd, Nat.reduceSub, List.replicate, List.cons_append, List.nil_append, evC_seq, evC_reg, evC_skip, evC_exit, evC_ret, evC_block, evC_condX, condX_true, condX_false, evOps_nil, evOps_one, contR_some, evOps_gd, gdR_tt, gdR_ft, gdR_tf, gdR_ff, gdR_un, bq_true, bq_false, ev1_mv, ev1_pick, ev1_bin, ev1_eqv, ev1_un, un_not, ev1_mki, ev1_slc, ev1_lenV, ev1_ixaV, ev1_appV, ev1_load, ev1_call, ev1_mn, ev1_mx, ev1_conv, ev1_alloc, ev1_storeV, ev1_bslR, bslR_sl, bslR_hs, fill_nil, fill_cons, fill1_u8a, fill1_u8b, fill1_ca, fill1_cb, thenO_some, loadR_rp, opd, Env.put, Env.at, seqR_nrm, seqR_exit, seqR_ret, regR_some, List.set_cons_zero, List.set_cons_succ, List.getD_cons_zero, List.getD_cons_succ, pR_some, wR_some, callR_some, freezeL, freeze_int, freeze_bool, freeze_str, freeze_u16, freeze_u8, freeze_ptr, freeze_nils, boolR_true, boolR_false, blockR_nrm, blockR_exit, blockR_ret, outR_ret, outR_nrm, resVs, resV_tmp, oneOr, Option.map_some, Option.map_none, List.map_cons, List.map_nil, if_true, if_false, Bool.not_true, Bool.not_false, Bool.false_eq_true, reduceIte, decide_true, decide_false, i64_lss, i64_leq, i64_gtr, i64_geq, i64_eql, i64_neq, i64_add, i64_sub, b16_not, b16_eql, str_eql, str_neq, u8_eql, u8_neq, eqAV, eqFl, eqSc, beq_self_eq_true, evC_draw, evLoud_nil, evLoud_one, az_mv, az_pick, az_bin, az_eqv, az_un, az_conv, az_mki, az_slc, az_sls, az_lens, az_ixs, az_fa, az_fld, az_ixa, az_ixp, az_ix, az_load, az_store, az_nchk, az_tas, az_ext, az_call, az_len, az_mn, az_mx, az_app, az_build, az_bsl, az_box, az_mks, az_cpy, az_rng, az_nxt, bk_mv, bk_pick, bk_bin, bk_eqv, bk_un, bk_mki, bk_slc, bk_sls, bk_lens, bk_ixs, bk_fa, bk_fld, bk_ixa, bk_ixp, bk_ix, bk_store, bk_nchk, bk_tas, bk_ext, bk_call, bk_len, bk_mn, bk_mx, bk_app, bk_build, bk_bsl, bk_box, bk_mks, bk_cpy, bk_rng, bk_nxt, bk_alloc, reserve_nil, reserve_none, reserve_gd, reserve_alloc, contL_some, evLoud_gd, gdL_tt, gdL_ft, gdL_tf, gdL_ff, gdL_un, evLoud_alloc, placeR]
      rw [drawR_ok]; case h => exact calm_quiet (by simp only [List.map_cons, List.map_nil]; decide +kernel)
      simp only [h2, env0, List.length_cons, List.length_nil, Nat.reduceAdd, Nat.reduceSub, List.replicate, List.cons_append, List.nil_append, evC_seq, evC_reg, evC_skip, evC_exit, evC_ret, evC_block, evC_condX, condX_true, condX_false, evOps_nil, evOps_one, contR_some, evOps_gd, gdR_tt, gdR_ft, gdR_tf, gdR_ff, gdR_un, bq_true, bq_false, ev1_mv, ev1_pick, ev1_bin, ev1_eqv, ev1_un, un_not, ev1_mki, ev1_slc, ev1_lenV, ev1_ixaV, ev1_appV, ev1_load, ev1_call, ev1_mn, ev1_mx, ev1_conv, ev1_alloc, ev1_storeV, ev1_bslR, bslR_sl, bslR_hs, fill_nil, fill_cons, fill1_u8a, fill1_u8b, fill1_ca, fill1_cb, thenO_some, loadR_rp, opd, Env.put, Env.at, seqR_nrm, seqR_exit, seqR_ret, regR_some, List.set_cons_zero, List.set_cons_succ, List.getD_cons_zero, List.getD_cons_succ, pR_some, wR_some, callR_some, freezeL, freeze_int, freeze_bool, freeze_str, freeze_u16, freeze_u8, freeze_ptr, freeze_nils, boolR_true, boolR_false, blockR_nrm, blockR_exit, blockR_ret, outR_ret, outR_nrm, resVs, resV_tmp, oneOr, Option.map_some, Option.map_none, List.map_cons, List.map_nil, if_true, if_false, Bool.not_true, Bool.not_false, Bool.false_eq_true, reduceIte, decide_true, decide_false, i64_lss, i64_leq, i64_gtr, i64_geq, i64_eql, i64_neq, i64_add, i64_sub]
      rfl
    case refine_3 => rfl
    case refine_4 =>
      have : turnBit q (k + i) = q.set ((k + i) / 8) (q[(k + i) / 8] ^^^ (1 <<< UInt8.ofNat ((k + i) % 8))) := by
        simp [turnBit, hj]
      rw [if_pos rfl, this]
      exact hs.upd _
theorem loop5 (w : BitVec 16) (k : Nat) (b : Nat) (p : List UInt8) (hk : k + 16 ≤ 8 * p.length) (hl : p.length ≤ 200) (s : St) (hs : Has s b p) :
    ∃ s', (∀ e, maskE M5b0l e = E5 w k (.hs 1 b 0 p.length) 0 → iter (evC noGl (ev 999) 999 M5b0) M5b0l 999 e s = evC noGl (ev 999) 999 M5b0 (E5 w k (.hs 1 b 0 p.length) 16) s') ∧ Has s' b (turnBits w k 16 p) := by
  have off : ∀ s', evC noGl (ev 999) 999 M5b0 (E5 w k (.hs 1 b 0 p.length) 16) s' = some (.exit 0, (E5 w k (.hs 1 b 0 p.length) 16).set 34 (.int .i64 16) |>.set 35 (.bool false), s') := by
    intro s'
    simp only [M5b0, E5, show ((16 : Int) < 16) = False from by simp, env0, List.length_cons, List.length_nil, Nat.reduceAdd, Nat.reduceSub, List.replicate, List.cons_append, List.nil_append, evC_seq, evC_reg, evC_skip, evC_exit, evC_ret, evC_block, evC_condX, condX_true, condX_false, evOps_nil, evOps_one, contR_some, evOps_gd, gdR_tt, gdR_ft, gdR_tf, gdR_ff, gdR_un, bq_true, bq_false, ev1_mv, ev1_pick, ev1_bin, ev1_eqv, ev1_un, un_not, ev1_mki, ev1_slc, ev1_lenV, ev1_ixaV, ev1_appV, ev1_load, ev1_call, ev1_mn, ev1_mx, ev1_conv, ev1_alloc, ev1_storeV, ev1_bslR, bslR_sl, bslR_hs, fill_nil, fill_cons, fill1_u8a, fill1_u8b, fill1_ca, fill1_cb, thenO_some, loadR_rp, opd, Env.put, Env.at, seqR_nrm, seqR_exit, seqR_ret, regR_some, List.set_cons_zero, List.set_cons_succ, List.getD_cons_zero, List.getD_cons_succ, pR_some, wR_some, callR_some, freezeL, freeze_int, freeze_bool, freeze_str, freeze_u16, freeze_u8, freeze_ptr, freeze_nils, boolR_true, boolR_false, blockR_nrm, blockR_exit, blockR_ret, outR_ret, outR_nrm, resVs, resV_tmp, oneOr, Option.map_some, Option.map_none, List.map_cons, List.map_nil, if_true, if_false, Bool.not_true, Bool.not_false, Bool.false_eq_true, reduceIte, decide_true, decide_false, i64_lss, i64_leq, i64_gtr, i64_geq, i64_eql, i64_neq, i64_add, i64_sub]
  have key := iter_leave (evC noGl (ev 999) 999 M5b0) M5b0l (fun i e' s' => maskE M5b0l e' = E5 w k (.hs 1 b 0 p.length) (i : Nat) ∧ Has s' b (turnBits w k i p))
    (fun r => ∃ s', r = evC noGl (ev 999) 999 M5b0 (E5 w k (.hs 1 b 0 p.length) 16) s' ∧ Has s' b (turnBits w k 16 p)) 16 ?_ ?_ 16 0 (E5 w k (.hs 1 b 0 p.length) 0) s 999 rfl ⟨rfl, hs⟩ (by omega)
  · obtain ⟨s', k1, k2⟩ := key
    exact ⟨s', fun e he => by rw [iter_mask _ _ _ e (E5 w k (.hs 1 b 0 p.length) 0) _ (by rw [he]; rfl), k1], k2⟩
  · rintro i e' s' hi ⟨h, hh⟩
    left
    have hlen := turnBits_length w k i p
    obtain ⟨e2, s2, h1, h2, h3⟩ := round5 w k b (turnBits w k i p) i hi (by rw [hlen]; omega) (by rw [hlen]; omega) s' hh
    rw [hlen] at h1 h2
    exact ⟨e2, s2, by rw [h]; exact h1, h2, h3⟩
  · rintro e' s' ⟨h, hh⟩
    rw [h]
    exact ⟨⟨s', rfl, hh⟩, fun e2 s2 => by rw [show (((16 : Nat) : Int)) = 16 from rfl, off]; simp⟩
end Go.Proofs.Ytghfinbdgnggjaa
