/- What is escaped has neither end in it; the loop of SirEscape. No conditions. -/
import Derived.Test.YtghfinbdgnggjaaWrap
set_option linter.unusedSimpArgs false
namespace Go.Proofs.Ytghfinbdgnggjaa
open Go Go.Ab
theorem tmod11 (n : Int) : -11 < n.tmod 11 := by
  rcases Int.le_total 0 n with h | h
  · have := Int.tmod_nonneg 11 h; omega
  · have := Int.tmod_lt_of_pos (-n) (show (0:Int) < 11 by omega)
    rw [Int.neg_tmod] at this
    omega
theorem esc_ge (xs : List UInt8) : xs.length ≤ (esc xs).length := by
  induction xs with
  | nil => simp
  | cons x xs ih =>
    have : 1 ≤ (escB x).length := by unfold escB; split <;> simp
    simp only [esc, List.flatMap_cons, List.length_append, List.length_cons] at ih ⊢
    omega
theorem escB_mem (x y : UInt8) (h : y ∈ escB x) : y ≠ 192 ∧ y ≠ 193 := by
  unfold escB at h
  split at h
  · rename_i hc
    simp only [Bool.or_eq_true, beq_iff_eq] at hc
    rcases hc with (rfl | rfl) | rfl <;> simp at h <;> rcases h with rfl | rfl <;> decide
  · rename_i hc
    simp only [Bool.or_eq_true, beq_iff_eq, not_or] at hc
    simp at h
    subst h
    exact ⟨hc.1.1, hc.1.2⟩
theorem esc_mem (xs : List UInt8) (y : UInt8) (h : y ∈ esc xs) : y ≠ 192 ∧ y ≠ 193 := by
  simp only [esc, List.mem_flatMap] at h
  obtain ⟨x, _, hy⟩ := h
  exact escB_mem x y hy
theorem esc_last (xs : List UInt8) (y : UInt8) (h : (esc xs).getLast? = some y) : y ≠ 125 := by
  rcases List.eq_nil_or_concat xs with rfl | ⟨ys, x, rfl⟩
  · simp [esc] at h
  · have : esc (ys.concat x) = esc ys ++ escB x := by rw [List.concat_eq_append]; simp [esc]
    rw [this] at h
    unfold escB at h
    split at h
    · rename_i hc
      simp at h
      simp only [Bool.or_eq_true, beq_iff_eq] at hc
      subst h
      rcases hc with (rfl | rfl) | rfl <;> decide
    · rename_i hc
      simp at h
      simp only [Bool.or_eq_true, beq_iff_eq, not_or] at hc
      subst h
      exact hc.2
def E15 (xa xb xe : AV) (n i : Int) : Env := [xa, xb, .undef, .undef, .undef, .undef, xe, .undef, .undef, .undef, .undef, .undef, .undef, .undef, .undef, .undef, .undef, .undef, .undef, .undef, .undef, .int .i64 n, .int .i64 i] ++ List.replicate 38 .undef
theorem round15 (xa xb : AV) {xe : AV} {xs : List UInt8} (hx : Bys xe (esc xs)) (hl : (esc xs).length ≤ 1000) (i : Nat) (hi : i < (esc xs).length) (s : St) :
    ∃ e', evC noGl (ev 999) 999 M15b0 (E15 xa xb xe (esc xs).length i) s = some (.nrm, e', s) ∧ maskE M15b0l e' = E15 xa xb xe (esc xs).length (i + 1 : Nat) := by
  have h1 : ((i : Int) < ((esc xs).length : Int)) = True := eq_true (by omega)
  have h2 : IntKind.i64.wrap ((i : Int) + 1) = ((i + 1 : Nat) : Int) := by rw [wrapI _ (by omega) (by omega)]; omega
  obtain ⟨m1, m2⟩ := esc_mem xs _ (List.getElem_mem hi)
  have c1 : ((esc xs)[i] == 192) = false := beq_eq_false_iff_ne.2 m1
  have c2 : ((esc xs)[i] == 193) = false := beq_eq_false_iff_ne.2 m2
  cases c3 : ((esc xs)[i] == 125) with
  | false =>
    refine ⟨_, Eq.trans (b := some (Ex.nrm, ?_, s)) ?_ rfl, ?_⟩
    case refine_2 =>
      simp only [M15b0, E15, h1, h2, hx.ixa i hi, cut_bytes _ i hi, eql192, eql193, eql125, c1, c2, c3, env0, List.length_cons, List.length_nil, Nat.reduceAdd, Nat.reduceSub, List.replicate, List.cons_append, List.nil_append, evC_seq, evC_reg, evC_skip, evC_exit, evC_ret, evC_block, evC_condX, condX_true, condX_false, evOps_nil, evOps_one, contR_some, evOps_gd, gdR_tt, gdR_ft, gdR_tf, gdR_ff, gdR_un, bq_true, bq_false, ev1_mv, ev1_pick, ev1_bin, ev1_eqv, ev1_un, un_not, ev1_mki, ev1_slc, ev1_lenV, ev1_ixaV, ev1_appV, ev1_load, ev1_call, ev1_mn, ev1_mx, ev1_conv, ev1_alloc, ev1_storeV, ev1_bslR, bslR_sl, bslR_hs, fill_nil, fill_cons, fill1_u8a, fill1_u8b, fill1_ca, fill1_cb, thenO_some, loadR_rp, opd, Env.put, Env.at, seqR_nrm, seqR_exit, seqR_ret, regR_some, List.set_cons_zero, List.set_cons_succ, List.getD_cons_zero, List.getD_cons_succ, pR_some, wR_some, callR_some, freezeL, freeze_int, freeze_bool, freeze_str, freeze_u16, freeze_u8, freeze_ptr, freeze_nils, boolR_true, boolR_false, blockR_nrm, blockR_exit, blockR_ret, outR_ret, outR_nrm, resVs, resV_tmp, oneOr, Option.map_some, Option.map_none, List.map_cons, List.map_nil, if_true, if_false, Bool.not_true, Bool.not_false, Bool.false_eq_true, reduceIte, decide_true, decide_false, i64_lss, i64_leq, i64_gtr, i64_geq, i64_eql, i64_neq, i64_add, i64_sub]
      rfl
    case refine_3 => rfl
  | true =>
    have hne : (((i + 1 : Nat) : Int) == ((esc xs).length : Int)) = false := by
      rw [beq_eq_false_iff_ne]
      intro he
      have hlast : (esc xs).getLast? = some (esc xs)[i] := by
        rw [List.getLast?_eq_getElem?, show (esc xs).length - 1 = i from by omega]
        exact List.getElem?_eq_getElem hi
      exact esc_last xs _ hlast (by simpa using c3)
    refine ⟨_, Eq.trans (b := some (Ex.nrm, ?_, s)) ?_ rfl, ?_⟩
    case refine_2 =>
      simp only [M15b0, E15, h1, h2, hx.ixa i hi, hx.len, cut_bytes _ i hi, eql192, eql193, eql125, c1, c2, c3, hne, env0, List.length_cons, List.length_nil, Nat.reduceAdd, Nat.reduceSub, List.replicate, List.cons_append, List.nil_append, evC_seq, evC_reg, evC_skip, evC_exit, evC_ret, evC_block, evC_condX, condX_true, condX_false, evOps_nil, evOps_one, contR_some, evOps_gd, gdR_tt, gdR_ft, gdR_tf, gdR_ff, gdR_un, bq_true, bq_false, ev1_mv, ev1_pick, ev1_bin, ev1_eqv, ev1_un, un_not, ev1_mki, ev1_slc, ev1_lenV, ev1_ixaV, ev1_appV, ev1_load, ev1_call, ev1_mn, ev1_mx, ev1_conv, ev1_alloc, ev1_storeV, ev1_bslR, bslR_sl, bslR_hs, fill_nil, fill_cons, fill1_u8a, fill1_u8b, fill1_ca, fill1_cb, thenO_some, loadR_rp, opd, Env.put, Env.at, seqR_nrm, seqR_exit, seqR_ret, regR_some, List.set_cons_zero, List.set_cons_succ, List.getD_cons_zero, List.getD_cons_succ, pR_some, wR_some, callR_some, freezeL, freeze_int, freeze_bool, freeze_str, freeze_u16, freeze_u8, freeze_ptr, freeze_nils, boolR_true, boolR_false, blockR_nrm, blockR_exit, blockR_ret, outR_ret, outR_nrm, resVs, resV_tmp, oneOr, Option.map_some, Option.map_none, List.map_cons, List.map_nil, if_true, if_false, Bool.not_true, Bool.not_false, Bool.false_eq_true, reduceIte, decide_true, decide_false, i64_lss, i64_leq, i64_gtr, i64_geq, i64_eql, i64_neq, i64_add, i64_sub]
      rfl
    case refine_3 => rfl
theorem loop15 (xa xb : AV) {xe : AV} {xs : List UInt8} (hx : Bys xe (esc xs)) (hl : (esc xs).length ≤ 900) (s : St) (e : Env) (he : maskE M15b0l e = E15 xa xb xe (esc xs).length 0) :
    iter (evC noGl (ev 999) 999 M15b0) M15b0l 999 e s = evC noGl (ev 999) 999 M15b0 (E15 xa xb xe (esc xs).length (esc xs).length) s := by
  refine iter_rounds _ _ (fun i e' s' => s' = s ∧ maskE M15b0l e' = E15 xa xb xe (esc xs).length (i : Nat)) _ (esc xs).length ?_ ?_ (esc xs).length 0 e s 999 (by omega) ⟨rfl, he⟩ (by omega)
  · rintro i e' s' hi ⟨rfl, h⟩
    obtain ⟨e2, h1, h2⟩ := round15 xa xb hx (by omega) i hi s'
    exact ⟨e2, s', by rw [h]; exact h1, rfl, h2⟩
  · rintro e' s' ⟨rfl, h⟩
    refine ⟨by rw [h], fun e2 s2 => ?_⟩
    simp only [M15b0, E15, Int.lt_irrefl, env0, List.length_cons, List.length_nil, Nat.reduceAdd, Nat.reduceSub, List.replicate, List.cons_append, List.nil_append, evC_seq, evC_reg, evC_skip, evC_exit, evC_ret, evC_block, evC_condX, condX_true, condX_false, evOps_nil, evOps_one, contR_some, evOps_gd, gdR_tt, gdR_ft, gdR_tf, gdR_ff, gdR_un, bq_true, bq_false, ev1_mv, ev1_pick, ev1_bin, ev1_eqv, ev1_un, un_not, ev1_mki, ev1_slc, ev1_lenV, ev1_ixaV, ev1_appV, ev1_load, ev1_call, ev1_mn, ev1_mx, ev1_conv, ev1_alloc, ev1_storeV, ev1_bslR, bslR_sl, bslR_hs, fill_nil, fill_cons, fill1_u8a, fill1_u8b, fill1_ca, fill1_cb, thenO_some, loadR_rp, opd, Env.put, Env.at, seqR_nrm, seqR_exit, seqR_ret, regR_some, List.set_cons_zero, List.set_cons_succ, List.getD_cons_zero, List.getD_cons_succ, pR_some, wR_some, callR_some, freezeL, freeze_int, freeze_bool, freeze_str, freeze_u16, freeze_u8, freeze_ptr, freeze_nils, boolR_true, boolR_false, blockR_nrm, blockR_exit, blockR_ret, outR_ret, outR_nrm, resVs, resV_tmp, oneOr, Option.map_some, Option.map_none, List.map_cons, List.map_nil, if_true, if_false, Bool.not_true, Bool.not_false, Bool.false_eq_true, reduceIte, decide_true, decide_false, i64_lss, i64_leq, i64_gtr, i64_geq, i64_eql, i64_neq, i64_add, i64_sub]
    simp
end Go.Proofs.Ytghfinbdgnggjaa
