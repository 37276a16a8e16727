/- Parameters that are cut off; the loops of the laws TupleCut and TupleAll. No conditions. -/
import Derived.Test.YthcblggiojpmcaaDoorTpB
import Derived.Test.YthcblggiojpmcaaDoorM4_18
import Derived.Test.YthcblggiojpmcaaDoorM4_8
set_option linter.unusedSimpArgs false
set_option linter.unusedVariables false
set_option maxRecDepth 100000
set_option maxHeartbeats 4000000
namespace Go.Proofs.YthcblggiojpmcaaDoor
open Go Go.Ab
theorem seam_step (seam : Bool) (n k w : Nat) (x : Bool) : (seam || (decide (n ≤ k) && (decide (k - n = 0) || (decide (w ≤ k - n) && x)))) = ((seam || (((n : Nat) : Int) == (k : Nat))) || (decide (n + w ≤ k) && x)) ∨ n > k := by
  by_cases h : n > k
  · exact .inr h
  · left
    rw [decide_eq_true (show n ≤ k by omega)]
    have e1 : (((n : Nat) : Int) == (k : Nat)) = decide (k - n = 0) := by
      rw [Bool.eq_iff_iff, beq_iff_eq, decide_eq_true_eq]; omega
    have e2 : decide (w ≤ k - n) = decide (n + w ≤ k) := decide_eq_decide.2 (by omega)
    rw [e1, e2]
    cases seam <;> cases decide (k - n = 0) <;> rfl
theorem encL_cons (t : Tp) (l : List Tp) : encL (t :: l) = encT t ++ encL l := rfl
def E18c (va : AV) (s : List UInt8) (k : Nat) (seam : Bool) (n : Nat) (z : Nat) (i : Int) : Env := [va, .undef, .undef, .undef, .undef, .undef, .str s, .undef, .int .i64 (k : Nat), .bool seam, .int .i64 (n : Nat), .undef, .undef, .undef, .undef, .undef, .undef, .undef, .undef, .undef, .undef, .undef, .undef, .undef, .undef, .undef, .undef, .undef, .undef, .undef, .undef, .undef, .undef, .undef, .undef, .undef, .undef, .undef, .undef, .undef, .int .i64 (z : Nat), .int .i64 i, .undef, .undef, .undef, .undef, .undef, .undef, .undef, .undef, .undef, .undef, .undef, .undef, .undef, .undef, .undef, .undef, .undef, .undef, .undef, .undef, .undef, .undef, .undef, .undef, .undef, .undef, .undef, .undef]
theorem cut_loop {va : AV} {A : List Tp} (h : IsTp va A) (hA : A.length ≤ 8) (hp : putOk A) (k : Nat) (hk : k < (encL A).length) (st : St) :
    ∀ e, maskE M18b0l e = E18c va (encL A) k false 0 A.length 0 → valR (outR M18.res (seqR (blockR 0 (iter (evC tabGl (evB 999) 999 M18b0) M18b0l 999 e st)) (evC tabGl (evB 999) 999 M18r0))) = some (.bool true) := by
  intro e he
  obtain ⟨R, hR⟩ : ∃ R, seamT A k = R := ⟨_, rfl⟩
  have ln := h.len
  refine iter_leave (evC tabGl (evB 999) 999 M18b0) M18b0l (fun i e s => ∃ seam n, maskE M18b0l e = E18c va (encL A) k seam n A.length (i : Int) ∧ n = (encL (A.take i)).length ∧ (seam || (decide (n ≤ k) && seamT (A.drop i) (k - n))) = R)
    (fun out => valR (outR M18.res (seqR (blockR 0 out) (evC tabGl (evB 999) 999 M18r0))) = some (.bool true)) A.length ?_ ?_ A.length 0 _ _ 999 (by omega) ⟨false, 0, he, rfl, by rw [List.drop_zero, Nat.sub_zero, hR, decide_eq_true (Nat.zero_le k)]; rfl⟩ (by omega)
  · rintro i e s hi ⟨seam, n, h1, h2, h3⟩
    rw [h1]
    left
    obtain ⟨r, hr⟩ := h.ixa i hi
    have hsucc := encL_succ A i hi
    rw [List.drop_eq_getElem_cons hi] at h3
    obtain ⟨⟨id, val⟩, hx'⟩ : ∃ t, A[i] = t := ⟨_, rfl⟩
    have hok : okT (id, val) := hp.1 _ (hx' ▸ List.getElem_mem hi)
    rw [hx'] at hr hsucc h3
    have hv : val.length ≤ 40 := hok.2.2
    have hnl : (encL (A.take (i + 1))).length ≤ 64 := by
      have e1 : encL A = encL (A.take (i + 1)) ++ encL (A.drop (i + 1)) := by rw [← encL_app, List.take_append_drop]
      have := hp.2
      rw [e1, List.length_append] at this
      omega
    have hn' : (encL (A.take (i + 1))).length = n + (2 + val.length) := by
      rw [hsucc, List.length_append, encT_len, h2]
    have d0 : decide ((i : Int) < (A.length : Nat)) = true := decide_eq_true (by omega)
    have w1 : IntKind.i64.wrap ((i : Int) + 1) = ((i + 1 : Nat) : Int) := (wrapI _ (by omega) (by omega)).trans (by omega)
    have c1 : Ab.cut (.str val :: r) 0 none = some (.str val) := by simp [Ab.cut]
    have f1 : faV 1 (.rp (.int .i64 id :: .str val :: r)) = some (.rp (.str val :: r)) := faV_rp _ _ (by simp)
    have lx : lensV' (.str val) = some (.int .i64 (val.length : Nat)) := rfl
    have w2 : IntKind.i64.wrap (2 + (val.length : Int)) = ((2 + val.length : Nat) : Int) := (wrapI _ (by omega) (by omega)).trans (by omega)
    have w3 : IntKind.i64.wrap ((n : Int) + ((2 + val.length : Nat) : Int)) = ((n + (2 + val.length) : Nat) : Int) := (wrapI _ (by omega) (by omega)).trans (by omega)
    have h3' : ((seam || (((n : Nat) : Int) == (k : Nat))) || (decide (n + (2 + val.length) ≤ k) && seamT (A.drop (i + 1)) (k - (n + (2 + val.length))))) = R := by
      have e0 : seamT ((id, val) :: A.drop (i + 1)) (k - n) = (decide (k - n = 0) || (decide (2 + val.length ≤ k - n) && seamT (A.drop (i + 1)) (k - n - (2 + val.length)))) := rfl
      rw [← h3, e0]
      rcases seam_step seam n k (2 + val.length) (seamT (A.drop (i + 1)) (k - n - (2 + val.length))) with q | q
      · rw [q, Nat.sub_sub]
      · rw [decide_eq_false (show ¬ n ≤ k by omega), decide_eq_false (show ¬ n + (2 + val.length) ≤ k by omega)]
        have : (((n : Nat) : Int) == (k : Nat)) = false := by simp; omega
        rw [this]
        simp
    rw [show s = s.pl [] from rfl]
    cases seam with
    | true =>
      simp only [M18b0, E18c, hr, c1, f1, d0, w1, lx, w2, w3, loadR_rp, ev1_lensV', qES0, qES1, qES2, env0, List.length_cons, List.length_nil, Nat.reduceAdd, Nat.reduceSub, List.replicate, List.cons_append, List.nil_append, opd, Env.put, Env.at, List.set_cons_zero, List.set_cons_succ, List.getD_cons_zero, List.getD_cons_succ, freezeL, resVs, oneOr, Option.map_some, Option.map_none, List.map_cons, List.map_nil, if_true, if_false, Bool.not_true, Bool.not_false, Bool.false_eq_true, reduceIte, decide_true, decide_false, Int.reduceLT, Int.reduceLE, Int.reduceGT, Int.reduceGE, Int.reduceEq, Int.reduceBEq, Int.reduceBNe, load_ptr, ldV_some, cellAt_cells, List.getElem?_cons_zero, List.getElem?_cons_succ, store_ptr, stO_some, setAt_0, setAt_1, setAt_2, setAt_3, setAt_4, setAt_5, setAt_6, setAt_7, setAt_8, setAt_9, setAt_10, setAt_11, setAt_12, cells_int, cells_bool, cells_str, cells_nils, cells_nilp, cells_ptr, cells_sl, cells_u8, cells_u16, cells_agg, get_upd_is, Option.isSome_some, upd_upd, ev1_nchkV, ev1_faV, nchkV_ptr, faV_ptr, ev1_extV, extV_tup, eqptr_nil, eqptr_ptr, Nat.zero_add, Nat.add_zero, qPL0, qPL1, qPL2, qPL3, qPL4, qPL5, beq_self_eq_true]
      exact ⟨_, _, rfl, true, _, rfl, hn'.symm, by simpa using h3'⟩
    | false =>
      obtain ⟨q, hq⟩ : ∃ q, (((n : Nat) : Int) == (k : Nat)) = q := ⟨_, rfl⟩
      rw [hq] at h3'
      simp only [M18b0, E18c, hr, c1, f1, d0, w1, lx, w2, w3, hq, loadR_rp, ev1_lensV', qES0, qES1, qES2, env0, List.length_cons, List.length_nil, Nat.reduceAdd, Nat.reduceSub, List.replicate, List.cons_append, List.nil_append, opd, Env.put, Env.at, List.set_cons_zero, List.set_cons_succ, List.getD_cons_zero, List.getD_cons_succ, freezeL, resVs, oneOr, Option.map_some, Option.map_none, List.map_cons, List.map_nil, if_true, if_false, Bool.not_true, Bool.not_false, Bool.false_eq_true, reduceIte, decide_true, decide_false, Int.reduceLT, Int.reduceLE, Int.reduceGT, Int.reduceGE, Int.reduceEq, Int.reduceBEq, Int.reduceBNe, load_ptr, ldV_some, cellAt_cells, List.getElem?_cons_zero, List.getElem?_cons_succ, store_ptr, stO_some, setAt_0, setAt_1, setAt_2, setAt_3, setAt_4, setAt_5, setAt_6, setAt_7, setAt_8, setAt_9, setAt_10, setAt_11, setAt_12, cells_int, cells_bool, cells_str, cells_nils, cells_nilp, cells_ptr, cells_sl, cells_u8, cells_u16, cells_agg, get_upd_is, Option.isSome_some, upd_upd, ev1_nchkV, ev1_faV, nchkV_ptr, faV_ptr, ev1_extV, extV_tup, eqptr_nil, eqptr_ptr, Nat.zero_add, Nat.add_zero, qPL0, qPL1, qPL2, qPL3, qPL4, qPL5, beq_self_eq_true]
      exact ⟨_, _, rfl, q, _, rfl, hn'.symm, by simpa using h3'⟩
  · rintro e s ⟨seam, n, h1, h2, h3⟩
    rw [h1]
    rw [List.drop_length] at h3
    have h3' : seam = R := by rw [← h3]; simp [seamT]
    subst h3'
    have d0 : decide (((A.length : Nat) : Int) < (A.length : Nat)) = false := decide_eq_false (by omega)
    have ss := slcS_str (encL A) (k : Int) (by omega) (by omega)
    rw [Int.toNat_natCast] at ss
    have h53 := b53 998 ((encL A).take k)
    have hgc := getL_cut A k hp (by omega) hk
    rw [hR] at hgc
    rw [show s = s.pl [] from rfl]
    refine ⟨?_, fun e' s' hh => ?_⟩
    · cases hg : getL ((encL A).take k) with
      | none =>
        rw [hg] at h53 hgc
        obtain rfl : seam = false := hgc.symm
        have qb := eqB false
        simp only [getV] at h53
        simp only [M18, M18r0, M18b0, E18c, d0, ss, h53, qb, ev1_eqv, ev1_slsV, ev1_extV, qES0, qES1, qES2, env0, List.length_cons, List.length_nil, Nat.reduceAdd, Nat.reduceSub, List.replicate, List.cons_append, List.nil_append, opd, Env.put, Env.at, List.set_cons_zero, List.set_cons_succ, List.getD_cons_zero, List.getD_cons_succ, freezeL, resVs, oneOr, Option.map_some, Option.map_none, List.map_cons, List.map_nil, if_true, if_false, Bool.not_true, Bool.not_false, Bool.false_eq_true, reduceIte, decide_true, decide_false, Int.reduceLT, Int.reduceLE, Int.reduceGT, Int.reduceGE, Int.reduceEq, Int.reduceBEq, Int.reduceBNe, load_ptr, ldV_some, cellAt_cells, List.getElem?_cons_zero, List.getElem?_cons_succ, store_ptr, stO_some, setAt_0, setAt_1, setAt_2, setAt_3, setAt_4, setAt_5, setAt_6, setAt_7, setAt_8, setAt_9, setAt_10, setAt_11, setAt_12, cells_int, cells_bool, cells_str, cells_nils, cells_nilp, cells_ptr, cells_sl, cells_u8, cells_u16, cells_agg, get_upd_is, Option.isSome_some, upd_upd, ev1_nchkV, ev1_faV, nchkV_ptr, faV_ptr, ev1_extV, extV_tup, eqptr_nil, eqptr_ptr, Nat.zero_add, Nat.add_zero, qPL0, qPL1, qPL2, qPL3, qPL4, qPL5, beq_self_eq_true]
      | some l =>
        rw [hg] at h53 hgc
        obtain rfl : seam = true := hgc.symm
        have qb := eqB true
        simp only [getV] at h53
        simp only [M18, M18r0, M18b0, E18c, d0, ss, h53, qb, ev1_eqv, ev1_slsV, ev1_extV, qES0, qES1, qES2, env0, List.length_cons, List.length_nil, Nat.reduceAdd, Nat.reduceSub, List.replicate, List.cons_append, List.nil_append, opd, Env.put, Env.at, List.set_cons_zero, List.set_cons_succ, List.getD_cons_zero, List.getD_cons_succ, freezeL, resVs, oneOr, Option.map_some, Option.map_none, List.map_cons, List.map_nil, if_true, if_false, Bool.not_true, Bool.not_false, Bool.false_eq_true, reduceIte, decide_true, decide_false, Int.reduceLT, Int.reduceLE, Int.reduceGT, Int.reduceGE, Int.reduceEq, Int.reduceBEq, Int.reduceBNe, load_ptr, ldV_some, cellAt_cells, List.getElem?_cons_zero, List.getElem?_cons_succ, store_ptr, stO_some, setAt_0, setAt_1, setAt_2, setAt_3, setAt_4, setAt_5, setAt_6, setAt_7, setAt_8, setAt_9, setAt_10, setAt_11, setAt_12, cells_int, cells_bool, cells_str, cells_nils, cells_nilp, cells_ptr, cells_sl, cells_u8, cells_u16, cells_agg, get_upd_is, Option.isSome_some, upd_upd, ev1_nchkV, ev1_faV, nchkV_ptr, faV_ptr, ev1_extV, extV_tup, eqptr_nil, eqptr_ptr, Nat.zero_add, Nat.add_zero, qPL0, qPL1, qPL2, qPL3, qPL4, qPL5, beq_self_eq_true]
    · simp only [M18b0, E18c, d0, qES0, qES1, qES2, env0, List.length_cons, List.length_nil, Nat.reduceAdd, Nat.reduceSub, List.replicate, List.cons_append, List.nil_append, opd, Env.put, Env.at, List.set_cons_zero, List.set_cons_succ, List.getD_cons_zero, List.getD_cons_succ, freezeL, resVs, oneOr, Option.map_some, Option.map_none, List.map_cons, List.map_nil, if_true, if_false, Bool.not_true, Bool.not_false, Bool.false_eq_true, reduceIte, decide_true, decide_false, Int.reduceLT, Int.reduceLE, Int.reduceGT, Int.reduceGE, Int.reduceEq, Int.reduceBEq, Int.reduceBNe, load_ptr, ldV_some, cellAt_cells, List.getElem?_cons_zero, List.getElem?_cons_succ, store_ptr, stO_some, setAt_0, setAt_1, setAt_2, setAt_3, setAt_4, setAt_5, setAt_6, setAt_7, setAt_8, setAt_9, setAt_10, setAt_11, setAt_12, cells_int, cells_bool, cells_str, cells_nils, cells_nilp, cells_ptr, cells_sl, cells_u8, cells_u16, cells_agg, get_upd_is, Option.isSome_some, upd_upd, ev1_nchkV, ev1_faV, nchkV_ptr, faV_ptr, ev1_extV, extV_tup, eqptr_nil, eqptr_ptr, Nat.zero_add, Nat.add_zero, qPL0, qPL1, qPL2, qPL3, qPL4, qPL5, beq_self_eq_true] at hh
      cases hh
end Go.Proofs.YthcblggiojpmcaaDoor
