/- slices.Concat, as the evaluator answers it. No conditions. -/
import Derived.Test.YtghfinbdgnggjaaBegun
import Derived.Test.YtghfinbdgnggjaaMc
import Derived.Test.YtghfinbdgnggjaaHs
set_option linter.unusedSimpArgs false
namespace Go.Ab
open Go
def AllBys : List AV → List (List UInt8) → Prop
  | [], [] => True
  | x :: xs, b :: bs => Bys x b ∧ AllBys xs bs
  | _, _ => False
theorem AllBys.length {ls : List AV} {bs : List (List UInt8)} (h : AllBys ls bs) : ls.length = bs.length := by
  induction ls generalizing bs with
  | nil => cases bs with
    | nil => rfl
    | cons b bs => exact absurd h id
  | cons x ls ih => cases bs with
    | nil => exact absurd h id
    | cons b bs => simp [ih h.2]
theorem AllBys.get {ls : List AV} {bs : List (List UInt8)} (h : AllBys ls bs) (i : Nat) (hi : i < ls.length) (hj : i < bs.length) : Bys ls[i] bs[i] := by
  induction ls generalizing bs i with
  | nil => simp at hi
  | cons x ls ih => cases bs with
    | nil => exact absurd h id
    | cons b bs => cases i with
      | zero => exact h.1
      | succ i => exact ih h.2 i (by simpa using hi) (by simpa using hj)
theorem sl_ixa (ls : List AV) (tk) (i : Nat) (h : i < ls.length) : ixaV 1 (.sl ls ls.length tk) (.int .i64 (i : Int)) = some (.rp (ls.drop i)) := by
  have : idx ls.length (.int .i64 (i : Int)) = some i := by simp [idx]; omega
  simp [ixaV, this]
theorem cut_drop (ls : List AV) (i : Nat) (h : i < ls.length) : Ab.cut (ls.drop i) 0 none = some ls[i] := by
  simp [Ab.cut, h]
theorem freeze_sl (n : Nat) (s : St) (cs : List AV) (m : Nat) (tk) : Ab.freeze n s (.sl cs m tk) = some (.sl cs m tk, s) := rfl
theorem Bys.fill1 {x : AV} {xs : List UInt8} (h : Bys x xs) (cs : List AV) (off : Nat) (ho : off < cs.length) : Ab.fill1 cs off 1 x = some (cs.set off x) := by
  have : cellsOf x = some [x] := by rcases h with ⟨rfl, _⟩ | ⟨tk, rfl⟩ <;> rfl
  simp only [Ab.fill1, this, storeL, fillL, List.length_cons, List.length_nil, Nat.zero_add, if_true]
  rw [if_pos (by omega)]
theorem flat_succ (bs : List (List UInt8)) (i : Nat) (h : i < bs.length) : (bs.take (i + 1)).flatten = (bs.take i).flatten ++ bs[i] := by
  rw [List.take_succ_eq_append_getElem h, List.flatten_append]; simp
theorem flat_le (bs : List (List UInt8)) (i : Nat) : (bs.take i).flatten.length ≤ bs.flatten.length := by
  have : bs.flatten = (bs.take i).flatten ++ (bs.drop i).flatten := by rw [← List.flatten_append, List.take_append_drop]
  rw [this]; simp
end Go.Ab
namespace Go.Proofs.Ytghfinbdgnggjaa
open Go Go.Ab
theorem grow_ev (k n : Nat) (h : n ≤ 1000000) (s : St) : ∃ y s', ev (k + 1) 50 [.nils, .int .i64 (n : Int)] s = some (y, s') ∧ Own s s' y [] ∧ Ext s s' := by
  have h0 : ev (k + 1) 50 [.nils, .int .i64 (n : Int)] s = growX [.nils, .int .i64 (n : Int)] s := rfl
  rw [h0]
  by_cases hn : n = 0
  · subst hn
    exact ⟨.nils, s, rfl, Own.nil s s, Ext.refl s⟩
  · refine ⟨_, _, ?_, Own.mk s s (Ext.refl s) [] [] rfl 0 rfl, (Ext.refl s).new _⟩
    simp only [growX]
    rw [if_neg (by omega), if_pos ⟨by omega, by omega⟩]
def E45a (x : AV) (t n i : Int) : Env := [x, .undef, .undef, .int .i64 t, .undef, .undef, .undef, .undef, .undef, x, .int .i64 n, .int .i64 i] ++ List.replicate 24 .undef
def E45b (o x : AV) (n i : Int) : Env := [.undef, .undef, .undef, .undef, .undef, .undef, o] ++ List.replicate 18 .undef ++ [x, .int .i64 n, .int .i64 i] ++ List.replicate 8 .undef
section
variable {ls : List AV} {bs : List (List UInt8)} (h : AllBys ls bs) (hl : bs.flatten.length ≤ 1000000) (hn : ls.length ≤ 1000) (tk : Option (Nat × Nat × Nat))
include h hl hn
theorem round45a (call : Calls') (k i : Nat) (hi : i < ls.length) (s : St) :
    ∃ e', evC noGl call k M45b1 (E45a (.sl ls ls.length tk) (bs.take i).flatten.length ls.length i) s = some (.nrm, e', s) ∧ maskE M45b1l e' = E45a (.sl ls ls.length tk) (bs.take (i + 1)).flatten.length ls.length (i + 1 : Nat) := by
  have hj : i < bs.length := by rw [← h.length]; exact hi
  have hb := h.get i hi hj
  have h1 : ((i : Int) < (ls.length : Int)) = True := eq_true (by omega)
  have h2 : IntKind.i64.wrap ((i : Int) + 1) = ((i + 1 : Nat) : Int) := by rw [wrapI _ (by omega) (by omega)]; omega
  have hle := flat_le bs (i + 1)
  have hfl : ((bs.take (i + 1)).flatten.length : Int) = ((bs.take i).flatten.length : Int) + (bs[i].length : Int) := by rw [flat_succ bs i hj, List.length_append]; omega
  have h3 : IntKind.i64.wrap (((bs.take i).flatten.length : Int) + (bs[i].length : Int)) = ((bs.take (i + 1)).flatten.length : Int) := by rw [wrapI _ (by omega) (by omega), hfl]
  have h4 : (((bs.take (i + 1)).flatten.length : Int) < 0) = False := eq_false (by omega)
  refine ⟨_, Eq.trans (b := some (Ex.nrm, ?_, s)) ?_ rfl, ?_⟩
  case refine_2 =>
    simp only [M45b1, E45a, h1, h2, sl_ixa ls tk i hi, cut_drop ls i hi, hb.len, h3, h4, env0, List.length_cons, List.length_nil, Nat.reduceAdd, Nat.reduceSub, List.replicate, List.cons_append, List.nil_append, evC_seq, evC_reg, evC_skip, evC_exit, evC_ret, evC_block, evC_condX, condX_true, condX_false, evOps_nil, evOps_one, contR_some, evOps_gd, gdR_tt, gdR_ft, gdR_tf, gdR_ff, gdR_un, bq_true, bq_false, ev1_mv, ev1_pick, ev1_bin, ev1_eqv, ev1_un, un_not, ev1_mki, ev1_slc, ev1_lenV, ev1_ixaV, ev1_appV, ev1_load, ev1_call, ev1_mn, ev1_mx, ev1_conv, ev1_alloc, ev1_storeV, ev1_bslR, bslR_sl, bslR_hs, fill_nil, fill_cons, fill1_u8a, fill1_u8b, fill1_ca, fill1_cb, thenO_some, loadR_rp, opd, Env.put, Env.at, seqR_nrm, seqR_exit, seqR_ret, regR_some, List.set_cons_zero, List.set_cons_succ, List.getD_cons_zero, List.getD_cons_succ, pR_some, wR_some, callR_some, freezeL, freeze_int, freeze_bool, freeze_str, freeze_u16, freeze_u8, freeze_ptr, freeze_nils, boolR_true, boolR_false, blockR_nrm, blockR_exit, blockR_ret, outR_ret, outR_nrm, resVs, resV_tmp, oneOr, Option.map_some, Option.map_none, List.map_cons, List.map_nil, if_true, if_false, Bool.not_true, Bool.not_false, Bool.false_eq_true, reduceIte, decide_true, decide_false, i64_lss, i64_leq, i64_gtr, i64_geq, i64_eql, i64_neq, i64_add, i64_sub]
    rfl
  case refine_3 => rfl
theorem round45b (call : Calls') (k i : Nat) (hi : i < ls.length) (s0 s : St) (o : AV) (ho : Own s0 s o (bs.take i).flatten) (he : Ext s0 s) :
    ∃ e' s' o', evC noGl call k M45b0 (E45b o (.sl ls ls.length tk) ls.length i) s = some (.nrm, e', s') ∧ maskE M45b0l e' = E45b o' (.sl ls ls.length tk) ls.length (i + 1 : Nat) ∧ Own s0 s' o' (bs.take (i + 1)).flatten ∧ Ext s0 s' := by
  have hj : i < bs.length := by rw [← h.length]; exact hi
  have hb := h.get i hi hj
  have h1 : ((i : Int) < (ls.length : Int)) = True := eq_true (by omega)
  have h2 : IntKind.i64.wrap ((i : Int) + 1) = ((i + 1 : Nat) : Int) := by rw [wrapI _ (by omega) (by omega)]; omega
  have hle := flat_le bs (i + 1)
  rw [flat_succ bs i hj, List.length_append] at hle
  obtain ⟨z, s', g1, g2, g3⟩ := ho.app hb he (by omega)
  rw [flat_succ bs i hj]
  refine ⟨_, s', z, Eq.trans (b := some (Ex.nrm, ?_, s')) ?_ rfl, ?_, g2, g3⟩
  case refine_2 =>
    simp only [M45b0, E45b, List.replicate, List.cons_append, List.nil_append, h1, h2, sl_ixa ls tk i hi, cut_drop ls i hi, g1, env0, List.length_cons, List.length_nil, Nat.reduceAdd, Nat.reduceSub, List.replicate, List.cons_append, List.nil_append, evC_seq, evC_reg, evC_skip, evC_exit, evC_ret, evC_block, evC_condX, condX_true, condX_false, evOps_nil, evOps_one, contR_some, evOps_gd, gdR_tt, gdR_ft, gdR_tf, gdR_ff, gdR_un, bq_true, bq_false, ev1_mv, ev1_pick, ev1_bin, ev1_eqv, ev1_un, un_not, ev1_mki, ev1_slc, ev1_lenV, ev1_ixaV, ev1_appV, ev1_load, ev1_call, ev1_mn, ev1_mx, ev1_conv, ev1_alloc, ev1_storeV, ev1_bslR, bslR_sl, bslR_hs, fill_nil, fill_cons, fill1_u8a, fill1_u8b, fill1_ca, fill1_cb, thenO_some, loadR_rp, opd, Env.put, Env.at, seqR_nrm, seqR_exit, seqR_ret, regR_some, List.set_cons_zero, List.set_cons_succ, List.getD_cons_zero, List.getD_cons_succ, pR_some, wR_some, callR_some, freezeL, freeze_int, freeze_bool, freeze_str, freeze_u16, freeze_u8, freeze_ptr, freeze_nils, boolR_true, boolR_false, blockR_nrm, blockR_exit, blockR_ret, outR_ret, outR_nrm, resVs, resV_tmp, oneOr, Option.map_some, Option.map_none, List.map_cons, List.map_nil, if_true, if_false, Bool.not_true, Bool.not_false, Bool.false_eq_true, reduceIte, decide_true, decide_false, i64_lss, i64_leq, i64_gtr, i64_geq, i64_eql, i64_neq, i64_add, i64_sub]
    rfl
  case refine_3 => rfl
theorem concat_ev (k : Nat) (hk : ls.length < k) (s : St) :
    ∃ y s', ev (k + 2) 45 [.sl ls ls.length tk] s = some (y, s') ∧ Own s s' y bs.flatten ∧ Ext s s' := by
  have key1 : ∀ s e, maskE M45b1l e = E45a (.sl ls ls.length tk) 0 ls.length 0 → iter (evC noGl (ev (k + 1)) (k + 1) M45b1) M45b1l (k + 1) e s = evC noGl (ev (k + 1)) (k + 1) M45b1 (E45a (.sl ls ls.length tk) bs.flatten.length ls.length ls.length) s := by
    intro s e he
    refine iter_rounds _ _ (fun i e' s' => s' = s ∧ maskE M45b1l e' = E45a (.sl ls ls.length tk) (bs.take i).flatten.length ls.length (i : Nat)) _ ls.length ?_ ?_ ls.length 0 e s (k + 1) (by omega) ⟨rfl, by rw [he]; rfl⟩ (by omega)
    · rintro i e' s' hi ⟨rfl, hm⟩
      obtain ⟨e2, h1, h2⟩ := round45a h hl hn tk (ev (k + 1)) (k + 1) i hi s'
      exact ⟨e2, s', by rw [hm]; exact h1, rfl, h2⟩
    · rintro e' s' ⟨rfl, hm⟩
      refine ⟨by rw [hm, h.length, List.take_length], fun e2 s2 => ?_⟩
      simp only [M45b1, E45a, Int.lt_irrefl, env0, List.length_cons, List.length_nil, Nat.reduceAdd, Nat.reduceSub, List.replicate, List.cons_append, List.nil_append, evC_seq, evC_reg, evC_skip, evC_exit, evC_ret, evC_block, evC_condX, condX_true, condX_false, evOps_nil, evOps_one, contR_some, evOps_gd, gdR_tt, gdR_ft, gdR_tf, gdR_ff, gdR_un, bq_true, bq_false, ev1_mv, ev1_pick, ev1_bin, ev1_eqv, ev1_un, un_not, ev1_mki, ev1_slc, ev1_lenV, ev1_ixaV, ev1_appV, ev1_load, ev1_call, ev1_mn, ev1_mx, ev1_conv, ev1_alloc, ev1_storeV, ev1_bslR, bslR_sl, bslR_hs, fill_nil, fill_cons, fill1_u8a, fill1_u8b, fill1_ca, fill1_cb, thenO_some, loadR_rp, opd, Env.put, Env.at, seqR_nrm, seqR_exit, seqR_ret, regR_some, List.set_cons_zero, List.set_cons_succ, List.getD_cons_zero, List.getD_cons_succ, pR_some, wR_some, callR_some, freezeL, freeze_int, freeze_bool, freeze_str, freeze_u16, freeze_u8, freeze_ptr, freeze_nils, boolR_true, boolR_false, blockR_nrm, blockR_exit, blockR_ret, outR_ret, outR_nrm, resVs, resV_tmp, oneOr, Option.map_some, Option.map_none, List.map_cons, List.map_nil, if_true, if_false, Bool.not_true, Bool.not_false, Bool.false_eq_true, reduceIte, decide_true, decide_false, i64_lss, i64_leq, i64_gtr, i64_geq, i64_eql, i64_neq, i64_add, i64_sub]
      simp
  obtain ⟨z, s1, z1, z2, z3⟩ := grow_ev k bs.flatten.length hl s
  have off : ∀ o s', evC noGl (ev (k + 1)) (k + 1) M45b0 (E45b o (.sl ls ls.length tk) ls.length ls.length) s' = some (.exit 2, (E45b o (.sl ls ls.length tk) ls.length ls.length).set 28 (.bool false), s') := by
    intro o s'
    simp only [M45b0, E45b, List.replicate, List.cons_append, List.nil_append, Int.lt_irrefl, env0, List.length_cons, List.length_nil, Nat.reduceAdd, Nat.reduceSub, List.replicate, List.cons_append, List.nil_append, evC_seq, evC_reg, evC_skip, evC_exit, evC_ret, evC_block, evC_condX, condX_true, condX_false, evOps_nil, evOps_one, contR_some, evOps_gd, gdR_tt, gdR_ft, gdR_tf, gdR_ff, gdR_un, bq_true, bq_false, ev1_mv, ev1_pick, ev1_bin, ev1_eqv, ev1_un, un_not, ev1_mki, ev1_slc, ev1_lenV, ev1_ixaV, ev1_appV, ev1_load, ev1_call, ev1_mn, ev1_mx, ev1_conv, ev1_alloc, ev1_storeV, ev1_bslR, bslR_sl, bslR_hs, fill_nil, fill_cons, fill1_u8a, fill1_u8b, fill1_ca, fill1_cb, thenO_some, loadR_rp, opd, Env.put, Env.at, seqR_nrm, seqR_exit, seqR_ret, regR_some, List.set_cons_zero, List.set_cons_succ, List.getD_cons_zero, List.getD_cons_succ, pR_some, wR_some, callR_some, freezeL, freeze_int, freeze_bool, freeze_str, freeze_u16, freeze_u8, freeze_ptr, freeze_nils, boolR_true, boolR_false, blockR_nrm, blockR_exit, blockR_ret, outR_ret, outR_nrm, resVs, resV_tmp, oneOr, Option.map_some, Option.map_none, List.map_cons, List.map_nil, if_true, if_false, Bool.not_true, Bool.not_false, Bool.false_eq_true, reduceIte, decide_true, decide_false, i64_lss, i64_leq, i64_gtr, i64_geq, i64_eql, i64_neq, i64_add, i64_sub]
  have key := iter_leave (evC noGl (ev (k + 1)) (k + 1) M45b0) M45b0l (fun i e' s' => ∃ o, maskE M45b0l e' = E45b o (.sl ls ls.length tk) ls.length (i : Nat) ∧ Own s s' o (bs.take i).flatten ∧ Ext s s')
    (fun r => ∃ o s', r = some (.exit 2, (E45b o (.sl ls ls.length tk) ls.length ls.length).set 28 (.bool false), s') ∧ Own s s' o bs.flatten ∧ Ext s s') ls.length ?_ ?_ ls.length 0 (E45b z (.sl ls ls.length tk) ls.length 0) s1 (k + 1) (by omega) ⟨z, rfl, z2, z3⟩ (by omega)
  · obtain ⟨o, s', k1, k2, k3⟩ := key
    have key2 : ∀ e, maskE M45b0l e = E45b z (.sl ls ls.length tk) ls.length 0 → iter (evC noGl (ev (k + 1)) (k + 1) M45b0) M45b0l (k + 1) e s1 = some (.exit 2, (E45b o (.sl ls ls.length tk) ls.length ls.length).set 28 (.bool false), s') :=
      fun e he => by rw [iter_mask _ _ _ e (E45b z (.sl ls ls.length tk) ls.length 0) _ (he.trans rfl), k1]
    refine ⟨o, s', ?_, k2, k3⟩
    rw [show k + 2 = (k + 1) + 1 from rfl, ev_in rfl tab45]
    simp only [M45, lenV, evC_loop, env0, List.length_cons, List.length_nil, Nat.reduceAdd, Nat.reduceSub, List.replicate, List.cons_append, List.nil_append, evC_seq, evC_reg, evC_skip, evC_exit, evC_ret, evC_block, evC_condX, condX_true, condX_false, evOps_nil, evOps_one, contR_some, evOps_gd, gdR_tt, gdR_ft, gdR_tf, gdR_ff, gdR_un, bq_true, bq_false, ev1_mv, ev1_pick, ev1_bin, ev1_eqv, ev1_un, un_not, ev1_mki, ev1_slc, ev1_lenV, ev1_ixaV, ev1_appV, ev1_load, ev1_call, ev1_mn, ev1_mx, ev1_conv, ev1_alloc, ev1_storeV, ev1_bslR, bslR_sl, bslR_hs, fill_nil, fill_cons, fill1_u8a, fill1_u8b, fill1_ca, fill1_cb, thenO_some, loadR_rp, opd, Env.put, Env.at, seqR_nrm, seqR_exit, seqR_ret, regR_some, List.set_cons_zero, List.set_cons_succ, List.getD_cons_zero, List.getD_cons_succ, pR_some, wR_some, callR_some, freezeL, freeze_int, freeze_bool, freeze_str, freeze_u16, freeze_u8, freeze_ptr, freeze_nils, boolR_true, boolR_false, blockR_nrm, blockR_exit, blockR_ret, outR_ret, outR_nrm, resVs, resV_tmp, oneOr, Option.map_some, Option.map_none, List.map_cons, List.map_nil, if_true, if_false, Bool.not_true, Bool.not_false, Bool.false_eq_true, reduceIte, decide_true, decide_false, i64_lss, i64_leq, i64_gtr, i64_geq, i64_eql, i64_neq, i64_add, i64_sub]
    rw [key1 _ _ rfl]
    simp only [M45b1, E45a, lenV, Int.lt_irrefl, evC_loop, z1, env0, List.length_cons, List.length_nil, Nat.reduceAdd, Nat.reduceSub, List.replicate, List.cons_append, List.nil_append, evC_seq, evC_reg, evC_skip, evC_exit, evC_ret, evC_block, evC_condX, condX_true, condX_false, evOps_nil, evOps_one, contR_some, evOps_gd, gdR_tt, gdR_ft, gdR_tf, gdR_ff, gdR_un, bq_true, bq_false, ev1_mv, ev1_pick, ev1_bin, ev1_eqv, ev1_un, un_not, ev1_mki, ev1_slc, ev1_lenV, ev1_ixaV, ev1_appV, ev1_load, ev1_call, ev1_mn, ev1_mx, ev1_conv, ev1_alloc, ev1_storeV, ev1_bslR, bslR_sl, bslR_hs, fill_nil, fill_cons, fill1_u8a, fill1_u8b, fill1_ca, fill1_cb, thenO_some, loadR_rp, opd, Env.put, Env.at, seqR_nrm, seqR_exit, seqR_ret, regR_some, List.set_cons_zero, List.set_cons_succ, List.getD_cons_zero, List.getD_cons_succ, pR_some, wR_some, callR_some, freezeL, freeze_int, freeze_bool, freeze_str, freeze_u16, freeze_u8, freeze_ptr, freeze_nils, boolR_true, boolR_false, blockR_nrm, blockR_exit, blockR_ret, outR_ret, outR_nrm, resVs, resV_tmp, oneOr, Option.map_some, Option.map_none, List.map_cons, List.map_nil, if_true, if_false, Bool.not_true, Bool.not_false, Bool.false_eq_true, reduceIte, decide_true, decide_false, i64_lss, i64_leq, i64_gtr, i64_geq, i64_eql, i64_neq, i64_add, i64_sub]
    rw [key2 _ rfl]
    simp only [E45b, List.replicate, List.cons_append, List.nil_append, k2.bys.freeze, env0, List.length_cons, List.length_nil, Nat.reduceAdd, Nat.reduceSub, List.replicate, List.cons_append, List.nil_append, evC_seq, evC_reg, evC_skip, evC_exit, evC_ret, evC_block, evC_condX, condX_true, condX_false, evOps_nil, evOps_one, contR_some, evOps_gd, gdR_tt, gdR_ft, gdR_tf, gdR_ff, gdR_un, bq_true, bq_false, ev1_mv, ev1_pick, ev1_bin, ev1_eqv, ev1_un, un_not, ev1_mki, ev1_slc, ev1_lenV, ev1_ixaV, ev1_appV, ev1_load, ev1_call, ev1_mn, ev1_mx, ev1_conv, ev1_alloc, ev1_storeV, ev1_bslR, bslR_sl, bslR_hs, fill_nil, fill_cons, fill1_u8a, fill1_u8b, fill1_ca, fill1_cb, thenO_some, loadR_rp, opd, Env.put, Env.at, seqR_nrm, seqR_exit, seqR_ret, regR_some, List.set_cons_zero, List.set_cons_succ, List.getD_cons_zero, List.getD_cons_succ, pR_some, wR_some, callR_some, freezeL, freeze_int, freeze_bool, freeze_str, freeze_u16, freeze_u8, freeze_ptr, freeze_nils, boolR_true, boolR_false, blockR_nrm, blockR_exit, blockR_ret, outR_ret, outR_nrm, resVs, resV_tmp, oneOr, Option.map_some, Option.map_none, List.map_cons, List.map_nil, if_true, if_false, Bool.not_true, Bool.not_false, Bool.false_eq_true, reduceIte, decide_true, decide_false, i64_lss, i64_leq, i64_gtr, i64_geq, i64_eql, i64_neq, i64_add, i64_sub]
  · rintro i e' s' hi ⟨o, hm, ho, he⟩
    left
    obtain ⟨e2, s2, o2, h1, h2, h3, h4⟩ := round45b h hl hn tk (ev (k + 1)) (k + 1) i hi s s' o ho he
    exact ⟨e2, s2, by rw [hm]; exact h1, o2, h2, h3, h4⟩
  · rintro e' s' ⟨o, hm, ho, he⟩
    rw [hm, off]
    exact ⟨⟨o, s', rfl, by rwa [h.length, List.take_length] at ho, he⟩, fun _ _ => by simp⟩
end
end Go.Proofs.Ytghfinbdgnggjaa
