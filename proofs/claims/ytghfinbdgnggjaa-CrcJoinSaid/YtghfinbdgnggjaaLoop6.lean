/- The loop of CrcJoin. No conditions. -/
import Derived.Test.YtghfinbdgnggjaaBegun
import Derived.Test.YtghfinbdgnggjaaMb
set_option linter.unusedSimpArgs false
namespace Go.Proofs.Ytghfinbdgnggjaa
open Go Go.Ab
def E6 (x y : AV) (c : BitVec 16) (n i : Int) : Env := [x, y, .undef, .undef, .undef, .undef, u16 c, .undef, .undef, .undef, .undef, .undef, .undef, .undef, .undef, .undef, .undef, .undef, .undef, .int .i64 n, .int .i64 i, .undef, .undef, .undef, .undef, .undef, .undef, .undef, .undef, .undef, .undef, .undef, .undef, .undef, .undef, .undef, .undef, .undef]
theorem round6 (x y : AV) (xs : List UInt8) (hy : Bys y xs) (c : BitVec 16) (i : Nat) (hi : i < xs.length) (hl : xs.length ≤ 60) (s : St) :
    ∃ e', evC noGl (ev 999) 999 M6b0 (E6 x y c xs.length i) s = some (.nrm, e', s) ∧ maskE M6b0l e' = E6 x y (crcAdd c xs[i]) xs.length (i + 1 : Nat) := by
  have h1 : ((i : Int) < (xs.length : Int)) = True := eq_true (by omega)
  have h2 : IntKind.i64.wrap ((i : Int) + 1) = ((i + 1 : Nat) : Int) := wrapI _ (by omega) (by omega)
  have ad : ∀ c b s, ev 999 23 [u16 c, u8v b] s = some (u16 (crcAdd c b), s) := fun c b s => add_ev 979 c b s
  refine ⟨_, Eq.trans (b := some (Ex.nrm, ?_, s)) ?_ rfl, ?_⟩
  case refine_2 =>
    simp only [M6b0, E6, h1, h2, hy.ixa i hi, cut_bytes xs i hi, ad, env0, List.length_cons, List.length_nil, Nat.reduceAdd, Nat.reduceSub, List.replicate, List.cons_append, List.nil_append, evC_seq, evC_reg, evC_skip, evC_exit, evC_ret, evC_block, evC_condX, condX_true, condX_false, evOps_nil, evOps_one, contR_some, evOps_gd, gdR_tt, gdR_ft, gdR_tf, gdR_ff, gdR_un, bq_true, bq_false, ev1_mv, ev1_pick, ev1_bin, ev1_eqv, ev1_un, un_not, ev1_mki, ev1_slc, ev1_lenV, ev1_ixaV, ev1_appV, ev1_load, ev1_call, ev1_mn, ev1_mx, ev1_conv, ev1_alloc, ev1_storeV, ev1_bslR, bslR_sl, bslR_hs, fill_nil, fill_cons, fill1_u8a, fill1_u8b, fill1_ca, fill1_cb, thenO_some, loadR_rp, opd, Env.put, Env.at, seqR_nrm, seqR_exit, seqR_ret, regR_some, List.set_cons_zero, List.set_cons_succ, List.getD_cons_zero, List.getD_cons_succ, pR_some, wR_some, callR_some, freezeL, freeze_int, freeze_bool, freeze_str, freeze_u16, freeze_u8, freeze_ptr, freeze_nils, boolR_true, boolR_false, blockR_nrm, blockR_exit, blockR_ret, outR_ret, outR_nrm, resVs, resV_tmp, oneOr, Option.map_some, Option.map_none, List.map_cons, List.map_nil, if_true, if_false, Bool.not_true, Bool.not_false, Bool.false_eq_true, reduceIte, decide_true, decide_false, i64_lss, i64_leq, i64_gtr, i64_geq, i64_eql, i64_neq, i64_add, i64_sub]
    rfl
  case refine_3 => rfl
theorem loop6 (x y : AV) (xs : List UInt8) (hy : Bys y xs) (hl : xs.length ≤ 60) (c : BitVec 16) (s : St) (e : Env) (k : Nat) (he : maskE M6b0l e = E6 x y c xs.length 0) (hk : xs.length < k := by omega) :
    iter (evC noGl (ev 999) 999 M6b0) M6b0l k e s = evC noGl (ev 999) 999 M6b0 (E6 x y (crcFold c xs) xs.length xs.length) s := by
  refine iter_rounds _ _ (fun i e' s' => s' = s ∧ maskE M6b0l e' = E6 x y (crcFold c (xs.take i)) xs.length (i : Nat)) _ xs.length ?_ ?_ xs.length 0 e s k (by omega) ⟨rfl, he⟩ hk
  · rintro i e' s' hi ⟨rfl, h⟩
    obtain ⟨e2, h1, h2⟩ := round6 x y xs hy (crcFold c (xs.take i)) i hi hl s'
    exact ⟨e2, s', by rw [h]; exact h1, rfl, by rw [crcFold_succ c xs i hi]; exact h2⟩
  · rintro e' s' ⟨rfl, h⟩
    refine ⟨by rw [h, List.take_length], fun e2 s2 => ?_⟩
    simp only [M6b0, E6, Int.lt_irrefl, env0, List.length_cons, List.length_nil, Nat.reduceAdd, Nat.reduceSub, List.replicate, List.cons_append, List.nil_append, evC_seq, evC_reg, evC_skip, evC_exit, evC_ret, evC_block, evC_condX, condX_true, condX_false, evOps_nil, evOps_one, contR_some, evOps_gd, gdR_tt, gdR_ft, gdR_tf, gdR_ff, gdR_un, bq_true, bq_false, ev1_mv, ev1_pick, ev1_bin, ev1_eqv, ev1_un, un_not, ev1_mki, ev1_slc, ev1_lenV, ev1_ixaV, ev1_appV, ev1_load, ev1_call, ev1_mn, ev1_mx, ev1_conv, ev1_alloc, ev1_storeV, ev1_bslR, bslR_sl, bslR_hs, fill_nil, fill_cons, fill1_u8a, fill1_u8b, fill1_ca, fill1_cb, thenO_some, loadR_rp, opd, Env.put, Env.at, seqR_nrm, seqR_exit, seqR_ret, regR_some, List.set_cons_zero, List.set_cons_succ, List.getD_cons_zero, List.getD_cons_succ, pR_some, wR_some, callR_some, freezeL, freeze_int, freeze_bool, freeze_str, freeze_u16, freeze_u8, freeze_ptr, freeze_nils, boolR_true, boolR_false, blockR_nrm, blockR_exit, blockR_ret, outR_ret, outR_nrm, resVs, resV_tmp, oneOr, Option.map_some, Option.map_none, List.map_cons, List.map_nil, if_true, if_false, Bool.not_true, Bool.not_false, Bool.false_eq_true, reduceIte, decide_true, decide_false, i64_lss, i64_leq, i64_gtr, i64_geq, i64_eql, i64_neq, i64_add, i64_sub]
    simp
end Go.Proofs.Ytghfinbdgnggjaa
