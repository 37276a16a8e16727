/- The document's numbers that are drawn, as the evaluator answers them. No conditions. -/
import Derived.Test.YtbeimfhodgmjhaaDoorFre
set_option linter.unusedSimpArgs false
set_option linter.unusedVariables false
set_option maxRecDepth 100000
set_option maxHeartbeats 4000000
namespace Go.Proofs.YtbeimfhodgmjhaaDoor
open Go Go.Ab
def E81 (v : AV) (n i : Int) : Env := [v, .int .u32 n, .undef, .undef, .undef, .int .i64 i, .undef, .undef, .undef, .undef, .undef, .undef, .undef, .undef, .undef, .undef, .undef, .undef]
theorem among_ev (k : Nat) {v : AV} {zs : List Int} (h : IsNums .u32 v zs) (hl : zs.length ≤ 100) (n : Int) (s : St) : evK (k + 102) 81 [v, .int .u32 n] s = some (.bool (decide (n ∈ zs)), s) := by
  rw [show k + 102 = (k + 101) + 1 from rfl, evK_in rfl tab81]
  have ln := nums_len h
  obtain ⟨R, hR⟩ : ∃ R, decide (n ∈ zs) = R := ⟨_, rfl⟩
  rw [hR]
  have key : ∀ e, maskE M81b0l e = E81 v n 0 → outR M81.res (seqR (blockR 0 (iter (evC tabGl (evK (k + 101)) (k + 101) M81b0) M81b0l (k + 101) e s)) (evC tabGl (evK (k + 101)) (k + 101) M81r0)) = some (.bool R, s) := by
    intro e he
    refine iter_leave (evC tabGl (evK (k + 101)) (k + 101) M81b0) M81b0l (fun i e st => maskE M81b0l e = E81 v n (i : Int) ∧ st = s ∧ R = decide (n ∈ zs.drop i))
      (fun out => outR M81.res (seqR (blockR 0 out) (evC tabGl (evK (k + 101)) (k + 101) M81r0)) = some (.bool R, s)) zs.length ?_ ?_ zs.length 0 _ _ (k + 101) (by omega) ⟨he, rfl, hR.symm⟩ (by omega)
    · rintro i e st hi ⟨h1, rfl, h3⟩
      rw [h1]
      obtain ⟨r, hr⟩ := nums_ixa h i hi
      rw [List.drop_eq_getElem_cons hi] at h3
      obtain ⟨a, ha⟩ : ∃ a, zs[i] = a := ⟨_, rfl⟩
      rw [ha] at hr h3
      have d0 : decide ((i : Int) < (zs.length : Nat)) = true := decide_eq_true (by omega)
      have w1 : IntKind.i64.wrap ((i : Int) + 1) = ((i + 1 : Nat) : Int) := (wrapI _ (by omega) (by omega)).trans (by omega)
      have c0 : Ab.cut (.int .u32 a :: r) 0 none = some (.int .u32 a) := by simp [Ab.cut]
      by_cases g : a = n
      · right
        have q : (a == n) = true := by simp [g]
        have hRt : R = true := by rw [h3]; simp [g]
        refine ⟨?_, fun e' s' hh => ?_⟩
        · rw [hRt]
          simp only [M81, M81b0, E81, hr, c0, d0, ln, q, u32_eql, loadR_rp, qES0, qES1, qES2, env0, List.length_cons, List.length_nil, Nat.reduceAdd, Nat.reduceSub, List.replicate, List.cons_append, List.nil_append, opd, Env.put, Env.at, List.set_cons_zero, List.set_cons_succ, List.getD_cons_zero, List.getD_cons_succ, freezeL, resVs, oneOr, Option.map_some, Option.map_none, List.map_cons, List.map_nil, if_true, if_false, Bool.not_true, Bool.not_false, Bool.false_eq_true, reduceIte, decide_true, decide_false, Int.reduceLT, Int.reduceLE, Int.reduceGT, Int.reduceGE, Int.reduceEq, Int.reduceBEq, Int.reduceBNe, load_ptr, ldV_some, cellAt_cells, List.getElem?_cons_zero, List.getElem?_cons_succ, store_ptr, stO_some, setAt_0, setAt_1, setAt_2, setAt_3, setAt_4, setAt_5, setAt_6, setAt_7, setAt_8, setAt_9, setAt_10, setAt_11, setAt_12, cells_int, cells_bool, cells_str, cells_nils, cells_nilp, cells_ptr, cells_sl, cells_u8, cells_u16, cells_agg, get_upd_is, Option.isSome_some, upd_upd, ev1_nchkV, ev1_faV, nchkV_ptr, faV_ptr, ev1_extV, extV_tup, eqptr_nil, eqptr_ptr, Nat.zero_add, Nat.add_zero, qPL0, qPL1, qPL2, qPL3, qPL4, qPL5, beq_self_eq_true]
        · simp only [M81b0, E81, hr, c0, d0, ln, q, u32_eql, loadR_rp, qES0, qES1, qES2, env0, List.length_cons, List.length_nil, Nat.reduceAdd, Nat.reduceSub, List.replicate, List.cons_append, List.nil_append, opd, Env.put, Env.at, List.set_cons_zero, List.set_cons_succ, List.getD_cons_zero, List.getD_cons_succ, freezeL, resVs, oneOr, Option.map_some, Option.map_none, List.map_cons, List.map_nil, if_true, if_false, Bool.not_true, Bool.not_false, Bool.false_eq_true, reduceIte, decide_true, decide_false, Int.reduceLT, Int.reduceLE, Int.reduceGT, Int.reduceGE, Int.reduceEq, Int.reduceBEq, Int.reduceBNe, load_ptr, ldV_some, cellAt_cells, List.getElem?_cons_zero, List.getElem?_cons_succ, store_ptr, stO_some, setAt_0, setAt_1, setAt_2, setAt_3, setAt_4, setAt_5, setAt_6, setAt_7, setAt_8, setAt_9, setAt_10, setAt_11, setAt_12, cells_int, cells_bool, cells_str, cells_nils, cells_nilp, cells_ptr, cells_sl, cells_u8, cells_u16, cells_agg, get_upd_is, Option.isSome_some, upd_upd, ev1_nchkV, ev1_faV, nchkV_ptr, faV_ptr, ev1_extV, extV_tup, eqptr_nil, eqptr_ptr, Nat.zero_add, Nat.add_zero, qPL0, qPL1, qPL2, qPL3, qPL4, qPL5, beq_self_eq_true] at hh
          cases hh
      · left
        have q : (a == n) = false := by simp [g]
        have h3' : R = decide (n ∈ zs.drop (i + 1)) := by rw [h3]; exact decide_eq_decide.2 ⟨fun hm => (List.mem_cons.1 hm).resolve_left (fun e => g e.symm), List.mem_cons_of_mem _⟩
        simp only [M81b0, E81, hr, c0, d0, ln, q, w1, u32_eql, loadR_rp, qES0, qES1, qES2, env0, List.length_cons, List.length_nil, Nat.reduceAdd, Nat.reduceSub, List.replicate, List.cons_append, List.nil_append, opd, Env.put, Env.at, List.set_cons_zero, List.set_cons_succ, List.getD_cons_zero, List.getD_cons_succ, freezeL, resVs, oneOr, Option.map_some, Option.map_none, List.map_cons, List.map_nil, if_true, if_false, Bool.not_true, Bool.not_false, Bool.false_eq_true, reduceIte, decide_true, decide_false, Int.reduceLT, Int.reduceLE, Int.reduceGT, Int.reduceGE, Int.reduceEq, Int.reduceBEq, Int.reduceBNe, load_ptr, ldV_some, cellAt_cells, List.getElem?_cons_zero, List.getElem?_cons_succ, store_ptr, stO_some, setAt_0, setAt_1, setAt_2, setAt_3, setAt_4, setAt_5, setAt_6, setAt_7, setAt_8, setAt_9, setAt_10, setAt_11, setAt_12, cells_int, cells_bool, cells_str, cells_nils, cells_nilp, cells_ptr, cells_sl, cells_u8, cells_u16, cells_agg, get_upd_is, Option.isSome_some, upd_upd, ev1_nchkV, ev1_faV, nchkV_ptr, faV_ptr, ev1_extV, extV_tup, eqptr_nil, eqptr_ptr, Nat.zero_add, Nat.add_zero, qPL0, qPL1, qPL2, qPL3, qPL4, qPL5, beq_self_eq_true]
        exact ⟨_, _, rfl, rfl, rfl, h3'⟩
    · rintro e st ⟨h1, rfl, h3⟩
      rw [h1]
      rw [List.drop_length] at h3
      have d0 : decide (((zs.length : Nat) : Int) < (zs.length : Nat)) = false := decide_eq_false (by omega)
      have h3' : R = false := by rw [h3]; simp
      refine ⟨?_, fun e' s' hh => ?_⟩
      · rw [h3']
        simp only [M81, M81r0, M81b0, E81, d0, ln, qES0, qES1, qES2, env0, List.length_cons, List.length_nil, Nat.reduceAdd, Nat.reduceSub, List.replicate, List.cons_append, List.nil_append, opd, Env.put, Env.at, List.set_cons_zero, List.set_cons_succ, List.getD_cons_zero, List.getD_cons_succ, freezeL, resVs, oneOr, Option.map_some, Option.map_none, List.map_cons, List.map_nil, if_true, if_false, Bool.not_true, Bool.not_false, Bool.false_eq_true, reduceIte, decide_true, decide_false, Int.reduceLT, Int.reduceLE, Int.reduceGT, Int.reduceGE, Int.reduceEq, Int.reduceBEq, Int.reduceBNe, load_ptr, ldV_some, cellAt_cells, List.getElem?_cons_zero, List.getElem?_cons_succ, store_ptr, stO_some, setAt_0, setAt_1, setAt_2, setAt_3, setAt_4, setAt_5, setAt_6, setAt_7, setAt_8, setAt_9, setAt_10, setAt_11, setAt_12, cells_int, cells_bool, cells_str, cells_nils, cells_nilp, cells_ptr, cells_sl, cells_u8, cells_u16, cells_agg, get_upd_is, Option.isSome_some, upd_upd, ev1_nchkV, ev1_faV, nchkV_ptr, faV_ptr, ev1_extV, extV_tup, eqptr_nil, eqptr_ptr, Nat.zero_add, Nat.add_zero, qPL0, qPL1, qPL2, qPL3, qPL4, qPL5, beq_self_eq_true]
      · simp only [M81b0, E81, d0, ln, qES0, qES1, qES2, env0, List.length_cons, List.length_nil, Nat.reduceAdd, Nat.reduceSub, List.replicate, List.cons_append, List.nil_append, opd, Env.put, Env.at, List.set_cons_zero, List.set_cons_succ, List.getD_cons_zero, List.getD_cons_succ, freezeL, resVs, oneOr, Option.map_some, Option.map_none, List.map_cons, List.map_nil, if_true, if_false, Bool.not_true, Bool.not_false, Bool.false_eq_true, reduceIte, decide_true, decide_false, Int.reduceLT, Int.reduceLE, Int.reduceGT, Int.reduceGE, Int.reduceEq, Int.reduceBEq, Int.reduceBNe, load_ptr, ldV_some, cellAt_cells, List.getElem?_cons_zero, List.getElem?_cons_succ, store_ptr, stO_some, setAt_0, setAt_1, setAt_2, setAt_3, setAt_4, setAt_5, setAt_6, setAt_7, setAt_8, setAt_9, setAt_10, setAt_11, setAt_12, cells_int, cells_bool, cells_str, cells_nils, cells_nilp, cells_ptr, cells_sl, cells_u8, cells_u16, cells_agg, get_upd_is, Option.isSome_some, upd_upd, ev1_nchkV, ev1_faV, nchkV_ptr, faV_ptr, ev1_extV, extV_tup, eqptr_nil, eqptr_ptr, Nat.zero_add, Nat.add_zero, qPL0, qPL1, qPL2, qPL3, qPL4, qPL5, beq_self_eq_true] at hh
        cases hh
  simp only [M81, ln, evC_loop, qES0, qES1, qES2, env0, List.length_cons, List.length_nil, Nat.reduceAdd, Nat.reduceSub, List.replicate, List.cons_append, List.nil_append, opd, Env.put, Env.at, List.set_cons_zero, List.set_cons_succ, List.getD_cons_zero, List.getD_cons_succ, freezeL, resVs, oneOr, Option.map_some, Option.map_none, List.map_cons, List.map_nil, if_true, if_false, Bool.not_true, Bool.not_false, Bool.false_eq_true, reduceIte, decide_true, decide_false, Int.reduceLT, Int.reduceLE, Int.reduceGT, Int.reduceGE, Int.reduceEq, Int.reduceBEq, Int.reduceBNe, load_ptr, ldV_some, cellAt_cells, List.getElem?_cons_zero, List.getElem?_cons_succ, store_ptr, stO_some, setAt_0, setAt_1, setAt_2, setAt_3, setAt_4, setAt_5, setAt_6, setAt_7, setAt_8, setAt_9, setAt_10, setAt_11, setAt_12, cells_int, cells_bool, cells_str, cells_nils, cells_nilp, cells_ptr, cells_sl, cells_u8, cells_u16, cells_agg, get_upd_is, Option.isSome_some, upd_upd, ev1_nchkV, ev1_faV, nchkV_ptr, faV_ptr, ev1_extV, extV_tup, eqptr_nil, eqptr_ptr, Nat.zero_add, Nat.add_zero, qPL0, qPL1, qPL2, qPL3, qPL4, qPL5, beq_self_eq_true]
  exact key _ rfl
def E53 (v w : AV) (i : Int) : Env := [v, w, .undef, .undef, .undef, .undef, .int .i64 i, .undef, .undef, .undef, .undef, .undef, .undef, .undef, .undef, .undef, .undef, .undef, .undef, .undef, .undef, .undef, .undef, .undef, .undef, .undef, .undef, .undef, .undef, .undef, .undef, .undef, .undef, .undef, .undef, .undef, .undef, .undef, .undef, .undef, .undef, .undef]
def E53b (v w : AV) (n : Int) : Env := [v, w, .undef, .undef, .undef, .undef, .undef, .int .u32 n, .undef, .undef, .undef, .undef, .undef, .undef, .undef, .undef, .undef, .undef, .undef, .undef, .undef, .undef, .undef, .undef, .undef, .undef, .undef, .undef, .undef, .undef, .undef, .undef, .undef, .undef, .undef, .undef, .undef, .undef, .undef, .undef, .undef, .undef]
section
variable {v w : AV} {ds no : List Int} (h : IsNums .u32 v ds) (g : IsNums .u32 w no) (hd : ds.length ≤ 100) (hn : no.length ≤ 100)
include h g hd hn
omit hd in
theorem rfresh_least (s : St) : ∀ e, maskE M53b0l e = E53b v w 1 → valR (outR M53.res (seqR (blockR 2 (iter (evC tabGl (evK 998) 998 M53b0) M53b0l 998 e s)) (evC tabGl (evK 998) 998 M53r0))) = some (.tup [.int .u32 (leastN no (no.length + 1) 1), .int .i64 (ds.length : Nat)]) := by
  intro e he
  have ln := nums_len h
  have fz := nums_freeze g
  obtain ⟨R, hR⟩ : ∃ R, leastN no (no.length + 1) 1 = R := ⟨_, rfl⟩
  rw [hR]
  refine iter_leave (evC tabGl (evK 998) 998 M53b0) M53b0l (fun i e st => maskE M53b0l e = E53b v w ((i : Int) + 1) ∧ (∀ j : Nat, j < i → ((j : Int) + 1) ∈ no) ∧ R = leastN no (no.length + 1 - i) ((i : Int) + 1))
    (fun out => valR (outR M53.res (seqR (blockR 2 out) (evC tabGl (evK 998) 998 M53r0))) = some (.tup [.int .u32 R, .int .i64 (ds.length : Nat)])) (no.length + 1) ?_ ?_ (no.length + 1) 0 _ _ 998 (by omega) ⟨he, fun j hj => by omega, hR.symm⟩ (by omega)
  · rintro i e st hi ⟨h1, h2, h3⟩
    rw [h1]
    have hc := among_ev 896 g hn ((i : Int) + 1)
    rw [show no.length + 1 - i = (no.length - i) + 1 by omega] at h3
    unfold leastN at h3
    by_cases hm : ((i : Int) + 1) ∈ no
    · left
      rw [decide_eq_true hm] at hc
      rw [if_pos hm] at h3
      have wa := u32_add ((i : Int) + 1) 1 (by unfold is32; omega)
      simp only [M53b0, E53b, hc, fz, wa, qES0, qES1, qES2, env0, List.length_cons, List.length_nil, Nat.reduceAdd, Nat.reduceSub, List.replicate, List.cons_append, List.nil_append, opd, Env.put, Env.at, List.set_cons_zero, List.set_cons_succ, List.getD_cons_zero, List.getD_cons_succ, freezeL, resVs, oneOr, Option.map_some, Option.map_none, List.map_cons, List.map_nil, if_true, if_false, Bool.not_true, Bool.not_false, Bool.false_eq_true, reduceIte, decide_true, decide_false, Int.reduceLT, Int.reduceLE, Int.reduceGT, Int.reduceGE, Int.reduceEq, Int.reduceBEq, Int.reduceBNe, load_ptr, ldV_some, cellAt_cells, List.getElem?_cons_zero, List.getElem?_cons_succ, store_ptr, stO_some, setAt_0, setAt_1, setAt_2, setAt_3, setAt_4, setAt_5, setAt_6, setAt_7, setAt_8, setAt_9, setAt_10, setAt_11, setAt_12, cells_int, cells_bool, cells_str, cells_nils, cells_nilp, cells_ptr, cells_sl, cells_u8, cells_u16, cells_agg, get_upd_is, Option.isSome_some, upd_upd, ev1_nchkV, ev1_faV, nchkV_ptr, faV_ptr, ev1_extV, extV_tup, eqptr_nil, eqptr_ptr, Nat.zero_add, Nat.add_zero, qPL0, qPL1, qPL2, qPL3, qPL4, qPL5, beq_self_eq_true]
      refine ⟨_, _, rfl, rfl, fun j hj => ?_, ?_⟩
      · by_cases hji : j < i
        · exact h2 j hji
        · have : j = i := by omega
          subst this; exact hm
      · rw [show no.length + 1 - (i + 1) = no.length - i by omega]; exact h3
    · right
      rw [decide_eq_false hm] at hc
      rw [if_neg hm] at h3
      refine ⟨?_, fun e' s' hh => ?_⟩
      · rw [h3]
        simp only [M53, M53r0, M53b0, E53b, hc, fz, ln, qES0, qES1, qES2, env0, List.length_cons, List.length_nil, Nat.reduceAdd, Nat.reduceSub, List.replicate, List.cons_append, List.nil_append, opd, Env.put, Env.at, List.set_cons_zero, List.set_cons_succ, List.getD_cons_zero, List.getD_cons_succ, freezeL, resVs, oneOr, Option.map_some, Option.map_none, List.map_cons, List.map_nil, if_true, if_false, Bool.not_true, Bool.not_false, Bool.false_eq_true, reduceIte, decide_true, decide_false, Int.reduceLT, Int.reduceLE, Int.reduceGT, Int.reduceGE, Int.reduceEq, Int.reduceBEq, Int.reduceBNe, load_ptr, ldV_some, cellAt_cells, List.getElem?_cons_zero, List.getElem?_cons_succ, store_ptr, stO_some, setAt_0, setAt_1, setAt_2, setAt_3, setAt_4, setAt_5, setAt_6, setAt_7, setAt_8, setAt_9, setAt_10, setAt_11, setAt_12, cells_int, cells_bool, cells_str, cells_nils, cells_nilp, cells_ptr, cells_sl, cells_u8, cells_u16, cells_agg, get_upd_is, Option.isSome_some, upd_upd, ev1_nchkV, ev1_faV, nchkV_ptr, faV_ptr, ev1_extV, extV_tup, eqptr_nil, eqptr_ptr, Nat.zero_add, Nat.add_zero, qPL0, qPL1, qPL2, qPL3, qPL4, qPL5, beq_self_eq_true]
      · simp only [M53b0, E53b, hc, fz, qES0, qES1, qES2, env0, List.length_cons, List.length_nil, Nat.reduceAdd, Nat.reduceSub, List.replicate, List.cons_append, List.nil_append, opd, Env.put, Env.at, List.set_cons_zero, List.set_cons_succ, List.getD_cons_zero, List.getD_cons_succ, freezeL, resVs, oneOr, Option.map_some, Option.map_none, List.map_cons, List.map_nil, if_true, if_false, Bool.not_true, Bool.not_false, Bool.false_eq_true, reduceIte, decide_true, decide_false, Int.reduceLT, Int.reduceLE, Int.reduceGT, Int.reduceGE, Int.reduceEq, Int.reduceBEq, Int.reduceBNe, load_ptr, ldV_some, cellAt_cells, List.getElem?_cons_zero, List.getElem?_cons_succ, store_ptr, stO_some, setAt_0, setAt_1, setAt_2, setAt_3, setAt_4, setAt_5, setAt_6, setAt_7, setAt_8, setAt_9, setAt_10, setAt_11, setAt_12, cells_int, cells_bool, cells_str, cells_nils, cells_nilp, cells_ptr, cells_sl, cells_u8, cells_u16, cells_agg, get_upd_is, Option.isSome_some, upd_upd, ev1_nchkV, ev1_faV, nchkV_ptr, faV_ptr, ev1_extV, extV_tup, eqptr_nil, eqptr_ptr, Nat.zero_add, Nat.add_zero, qPL0, qPL1, qPL2, qPL3, qPL4, qPL5, beq_self_eq_true] at hh
        cases hh
  · rintro e s ⟨h1, h2, h3⟩
    have := pigeon (no.length + 1) no h2
    omega
theorem rfresh_val : valR (evK 999 53 [v, w] St.nil) = some (.tup [.int .u32 (freshZ ds no).1, .int .i64 ((freshZ ds no).2 : Nat)]) := by
  rw [show (999 : Nat) = 998 + 1 from rfl, evK_in rfl tab53]
  have ln := nums_len h
  have fz := nums_freeze g
  obtain ⟨R, hR⟩ : ∃ R, freshZ ds no = R := ⟨_, rfl⟩
  rw [hR]
  have key : ∀ e, maskE M53b1l e = E53 v w 0 → valR (outR M53.res (seqR (blockR 0 (iter (evC tabGl (evK 998) 998 M53b1) M53b1l 998 e St.nil)) (evC tabGl (evK 998) 998 M53r1))) = some (.tup [.int .u32 R.1, .int .i64 (R.2 : Nat)]) := by
    intro e he
    refine iter_leave (evC tabGl (evK 998) 998 M53b1) M53b1l (fun i e st => maskE M53b1l e = E53 v w (i : Int) ∧ R = match freshD no (ds.drop i) i with
        | some p => p
        | none => (leastN no (no.length + 1) 1, ds.length))
      (fun out => valR (outR M53.res (seqR (blockR 0 out) (evC tabGl (evK 998) 998 M53r1))) = some (.tup [.int .u32 R.1, .int .i64 (R.2 : Nat)])) ds.length ?_ ?_ ds.length 0 _ _ 998 (by omega) ⟨he, hR.symm⟩ (by omega)
    · rintro i e st hi ⟨h1, h3⟩
      rw [h1]
      obtain ⟨r, hr⟩ := nums_ixa h i hi
      rw [List.drop_eq_getElem_cons hi] at h3
      unfold freshD at h3
      obtain ⟨a, ha⟩ : ∃ a, ds[i] = a := ⟨_, rfl⟩
      rw [ha] at hr h3
      have d0 : decide ((i : Int) < (ds.length : Nat)) = true := decide_eq_true (by omega)
      have w1 : IntKind.i64.wrap ((i : Int) + 1) = ((i + 1 : Nat) : Int) := (wrapI _ (by omega) (by omega)).trans (by omega)
      have c0 : Ab.cut (.int .u32 a :: r) 0 none = some (.int .u32 a) := by simp [Ab.cut]
      have hnm := own_ev 997 a
      have hc := among_ev 896 g hn a
      rcases Bool.eq_false_or_eq_true (nmd a) with q1 | q1
      · rw [q1] at hnm
        by_cases hm : a ∈ no
        · left
          rw [decide_eq_true hm] at hc
          have : okD no a = false := by unfold okD; rw [decide_eq_true hm]; simp
          rw [this, if_neg (by decide)] at h3
          simp only [M53b1, E53, hr, c0, d0, w1, ln, hnm, hc, fz, loadR_rp, qES0, qES1, qES2, env0, List.length_cons, List.length_nil, Nat.reduceAdd, Nat.reduceSub, List.replicate, List.cons_append, List.nil_append, opd, Env.put, Env.at, List.set_cons_zero, List.set_cons_succ, List.getD_cons_zero, List.getD_cons_succ, freezeL, resVs, oneOr, Option.map_some, Option.map_none, List.map_cons, List.map_nil, if_true, if_false, Bool.not_true, Bool.not_false, Bool.false_eq_true, reduceIte, decide_true, decide_false, Int.reduceLT, Int.reduceLE, Int.reduceGT, Int.reduceGE, Int.reduceEq, Int.reduceBEq, Int.reduceBNe, load_ptr, ldV_some, cellAt_cells, List.getElem?_cons_zero, List.getElem?_cons_succ, store_ptr, stO_some, setAt_0, setAt_1, setAt_2, setAt_3, setAt_4, setAt_5, setAt_6, setAt_7, setAt_8, setAt_9, setAt_10, setAt_11, setAt_12, cells_int, cells_bool, cells_str, cells_nils, cells_nilp, cells_ptr, cells_sl, cells_u8, cells_u16, cells_agg, get_upd_is, Option.isSome_some, upd_upd, ev1_nchkV, ev1_faV, nchkV_ptr, faV_ptr, ev1_extV, extV_tup, eqptr_nil, eqptr_ptr, Nat.zero_add, Nat.add_zero, qPL0, qPL1, qPL2, qPL3, qPL4, qPL5, beq_self_eq_true]
          exact ⟨_, _, rfl, rfl, h3⟩
        · right
          rw [decide_eq_false hm] at hc
          have : okD no a = true := by unfold okD; rw [q1, decide_eq_false hm]; rfl
          rw [this, if_pos rfl] at h3
          refine ⟨?_, fun e' s' hh => ?_⟩
          · rw [h3]
            simp only [M53, M53b1, E53, hr, c0, d0, w1, ln, hnm, hc, fz, loadR_rp, qES0, qES1, qES2, env0, List.length_cons, List.length_nil, Nat.reduceAdd, Nat.reduceSub, List.replicate, List.cons_append, List.nil_append, opd, Env.put, Env.at, List.set_cons_zero, List.set_cons_succ, List.getD_cons_zero, List.getD_cons_succ, freezeL, resVs, oneOr, Option.map_some, Option.map_none, List.map_cons, List.map_nil, if_true, if_false, Bool.not_true, Bool.not_false, Bool.false_eq_true, reduceIte, decide_true, decide_false, Int.reduceLT, Int.reduceLE, Int.reduceGT, Int.reduceGE, Int.reduceEq, Int.reduceBEq, Int.reduceBNe, load_ptr, ldV_some, cellAt_cells, List.getElem?_cons_zero, List.getElem?_cons_succ, store_ptr, stO_some, setAt_0, setAt_1, setAt_2, setAt_3, setAt_4, setAt_5, setAt_6, setAt_7, setAt_8, setAt_9, setAt_10, setAt_11, setAt_12, cells_int, cells_bool, cells_str, cells_nils, cells_nilp, cells_ptr, cells_sl, cells_u8, cells_u16, cells_agg, get_upd_is, Option.isSome_some, upd_upd, ev1_nchkV, ev1_faV, nchkV_ptr, faV_ptr, ev1_extV, extV_tup, eqptr_nil, eqptr_ptr, Nat.zero_add, Nat.add_zero, qPL0, qPL1, qPL2, qPL3, qPL4, qPL5, beq_self_eq_true]
          · simp only [M53b1, E53, hr, c0, d0, w1, ln, hnm, hc, fz, loadR_rp, qES0, qES1, qES2, env0, List.length_cons, List.length_nil, Nat.reduceAdd, Nat.reduceSub, List.replicate, List.cons_append, List.nil_append, opd, Env.put, Env.at, List.set_cons_zero, List.set_cons_succ, List.getD_cons_zero, List.getD_cons_succ, freezeL, resVs, oneOr, Option.map_some, Option.map_none, List.map_cons, List.map_nil, if_true, if_false, Bool.not_true, Bool.not_false, Bool.false_eq_true, reduceIte, decide_true, decide_false, Int.reduceLT, Int.reduceLE, Int.reduceGT, Int.reduceGE, Int.reduceEq, Int.reduceBEq, Int.reduceBNe, load_ptr, ldV_some, cellAt_cells, List.getElem?_cons_zero, List.getElem?_cons_succ, store_ptr, stO_some, setAt_0, setAt_1, setAt_2, setAt_3, setAt_4, setAt_5, setAt_6, setAt_7, setAt_8, setAt_9, setAt_10, setAt_11, setAt_12, cells_int, cells_bool, cells_str, cells_nils, cells_nilp, cells_ptr, cells_sl, cells_u8, cells_u16, cells_agg, get_upd_is, Option.isSome_some, upd_upd, ev1_nchkV, ev1_faV, nchkV_ptr, faV_ptr, ev1_extV, extV_tup, eqptr_nil, eqptr_ptr, Nat.zero_add, Nat.add_zero, qPL0, qPL1, qPL2, qPL3, qPL4, qPL5, beq_self_eq_true] at hh
            cases hh
      · left
        rw [q1] at hnm
        have : okD no a = false := by unfold okD; rw [q1]; rfl
        rw [this, if_neg (by decide)] at h3
        simp only [M53b1, E53, hr, c0, d0, w1, ln, hnm, loadR_rp, qES0, qES1, qES2, env0, List.length_cons, List.length_nil, Nat.reduceAdd, Nat.reduceSub, List.replicate, List.cons_append, List.nil_append, opd, Env.put, Env.at, List.set_cons_zero, List.set_cons_succ, List.getD_cons_zero, List.getD_cons_succ, freezeL, resVs, oneOr, Option.map_some, Option.map_none, List.map_cons, List.map_nil, if_true, if_false, Bool.not_true, Bool.not_false, Bool.false_eq_true, reduceIte, decide_true, decide_false, Int.reduceLT, Int.reduceLE, Int.reduceGT, Int.reduceGE, Int.reduceEq, Int.reduceBEq, Int.reduceBNe, load_ptr, ldV_some, cellAt_cells, List.getElem?_cons_zero, List.getElem?_cons_succ, store_ptr, stO_some, setAt_0, setAt_1, setAt_2, setAt_3, setAt_4, setAt_5, setAt_6, setAt_7, setAt_8, setAt_9, setAt_10, setAt_11, setAt_12, cells_int, cells_bool, cells_str, cells_nils, cells_nilp, cells_ptr, cells_sl, cells_u8, cells_u16, cells_agg, get_upd_is, Option.isSome_some, upd_upd, ev1_nchkV, ev1_faV, nchkV_ptr, faV_ptr, ev1_extV, extV_tup, eqptr_nil, eqptr_ptr, Nat.zero_add, Nat.add_zero, qPL0, qPL1, qPL2, qPL3, qPL4, qPL5, beq_self_eq_true]
        exact ⟨_, _, rfl, rfl, h3⟩
    · rintro e st ⟨h1, h3⟩
      rw [h1]
      rw [List.drop_length] at h3
      have h3' : R = (leastN no (no.length + 1) 1, ds.length) := h3
      have d0 : decide (((ds.length : Nat) : Int) < (ds.length : Nat)) = false := decide_eq_false (by omega)
      have hl := rfresh_least h g hn st
      refine ⟨?_, fun e' s' hh => ?_⟩
      · rw [h3']
        simp only [M53r1, M53b1, E53, d0, ln, evC_loop, qES0, qES1, qES2, env0, List.length_cons, List.length_nil, Nat.reduceAdd, Nat.reduceSub, List.replicate, List.cons_append, List.nil_append, opd, Env.put, Env.at, List.set_cons_zero, List.set_cons_succ, List.getD_cons_zero, List.getD_cons_succ, freezeL, resVs, oneOr, Option.map_some, Option.map_none, List.map_cons, List.map_nil, if_true, if_false, Bool.not_true, Bool.not_false, Bool.false_eq_true, reduceIte, decide_true, decide_false, Int.reduceLT, Int.reduceLE, Int.reduceGT, Int.reduceGE, Int.reduceEq, Int.reduceBEq, Int.reduceBNe, load_ptr, ldV_some, cellAt_cells, List.getElem?_cons_zero, List.getElem?_cons_succ, store_ptr, stO_some, setAt_0, setAt_1, setAt_2, setAt_3, setAt_4, setAt_5, setAt_6, setAt_7, setAt_8, setAt_9, setAt_10, setAt_11, setAt_12, cells_int, cells_bool, cells_str, cells_nils, cells_nilp, cells_ptr, cells_sl, cells_u8, cells_u16, cells_agg, get_upd_is, Option.isSome_some, upd_upd, ev1_nchkV, ev1_faV, nchkV_ptr, faV_ptr, ev1_extV, extV_tup, eqptr_nil, eqptr_ptr, Nat.zero_add, Nat.add_zero, qPL0, qPL1, qPL2, qPL3, qPL4, qPL5, beq_self_eq_true]
        exact hl _ rfl
      · simp only [M53b1, E53, d0, ln, qES0, qES1, qES2, env0, List.length_cons, List.length_nil, Nat.reduceAdd, Nat.reduceSub, List.replicate, List.cons_append, List.nil_append, opd, Env.put, Env.at, List.set_cons_zero, List.set_cons_succ, List.getD_cons_zero, List.getD_cons_succ, freezeL, resVs, oneOr, Option.map_some, Option.map_none, List.map_cons, List.map_nil, if_true, if_false, Bool.not_true, Bool.not_false, Bool.false_eq_true, reduceIte, decide_true, decide_false, Int.reduceLT, Int.reduceLE, Int.reduceGT, Int.reduceGE, Int.reduceEq, Int.reduceBEq, Int.reduceBNe, load_ptr, ldV_some, cellAt_cells, List.getElem?_cons_zero, List.getElem?_cons_succ, store_ptr, stO_some, setAt_0, setAt_1, setAt_2, setAt_3, setAt_4, setAt_5, setAt_6, setAt_7, setAt_8, setAt_9, setAt_10, setAt_11, setAt_12, cells_int, cells_bool, cells_str, cells_nils, cells_nilp, cells_ptr, cells_sl, cells_u8, cells_u16, cells_agg, get_upd_is, Option.isSome_some, upd_upd, ev1_nchkV, ev1_faV, nchkV_ptr, faV_ptr, ev1_extV, extV_tup, eqptr_nil, eqptr_ptr, Nat.zero_add, Nat.add_zero, qPL0, qPL1, qPL2, qPL3, qPL4, qPL5, beq_self_eq_true] at hh
        cases hh
  simp only [M53, evC_loop, qES0, qES1, qES2, env0, List.length_cons, List.length_nil, Nat.reduceAdd, Nat.reduceSub, List.replicate, List.cons_append, List.nil_append, opd, Env.put, Env.at, List.set_cons_zero, List.set_cons_succ, List.getD_cons_zero, List.getD_cons_succ, freezeL, resVs, oneOr, Option.map_some, Option.map_none, List.map_cons, List.map_nil, if_true, if_false, Bool.not_true, Bool.not_false, Bool.false_eq_true, reduceIte, decide_true, decide_false, Int.reduceLT, Int.reduceLE, Int.reduceGT, Int.reduceGE, Int.reduceEq, Int.reduceBEq, Int.reduceBNe, load_ptr, ldV_some, cellAt_cells, List.getElem?_cons_zero, List.getElem?_cons_succ, store_ptr, stO_some, setAt_0, setAt_1, setAt_2, setAt_3, setAt_4, setAt_5, setAt_6, setAt_7, setAt_8, setAt_9, setAt_10, setAt_11, setAt_12, cells_int, cells_bool, cells_str, cells_nils, cells_nilp, cells_ptr, cells_sl, cells_u8, cells_u16, cells_agg, get_upd_is, Option.isSome_some, upd_upd, ev1_nchkV, ev1_faV, nchkV_ptr, faV_ptr, ev1_extV, extV_tup, eqptr_nil, eqptr_ptr, Nat.zero_add, Nat.add_zero, qPL0, qPL1, qPL2, qPL3, qPL4, qPL5, beq_self_eq_true]
  exact key _ rfl
end
/-! As functions that are known. -/
def unNums : List AV → Option (List Int)
  | [] => some []
  | .int .u32 n :: r => (unNums r).map (n :: ·)
  | _ => none
theorem unNums_of : ∀ {cs : List AV} {zs : List Int}, unNums cs = some zs → cs = zs.map (.int .u32 ·)
  | [], zs, h => by cases h; rfl
  | c :: cs, zs, h => by
    unfold unNums at h
    split at h
    · rename_i h0; cases h0
    · rename_i n r h0
      cases h0
      obtain ⟨y, h1, rfl⟩ := Option.map_eq_some_iff.1 h
      rw [unNums_of h1]; rfl
    · cases h
theorem unNums_mk (zs : List Int) : unNums (zs.map (.int .u32 ·)) = some zs := by
  induction zs with
  | nil => rfl
  | cons z zs ih => simp only [List.map_cons, unNums, ih, Option.map_some]
def toNums : AV → Option (List Int)
  | .nils => some []
  | .sl cs n none => match unNums cs with
    | some zs => if n = zs.length then some zs else none
    | none => none
  | _ => none
theorem toNums_of {v : AV} {zs : List Int} (h : toNums v = some zs) : IsNums .u32 v zs := by
  unfold toNums at h
  split at h
  · cases h; exact .inl ⟨rfl, rfl⟩
  · split at h
    · rename_i cs n zs' h1
      split at h
      · rename_i h2
        cases h
        subst h2
        rw [unNums_of h1]
        exact .inr rfl
      · cases h
    · cases h
  · cases h
theorem toNums_mk {v : AV} {zs : List Int} (h : IsNums .u32 v zs) : toNums v = some zs := by
  rcases h with ⟨rfl, rfl⟩ | rfl
  · rfl
  · simp only [toNums, unNums_mk, if_true]
theorem nums_flat {v : AV} {zs : List Int} (h : IsNums .u32 v zs) : Ab.flat v = true := by
  rcases h with ⟨rfl, rfl⟩ | rfl
  · rfl
  · have : ∀ zs : List Int, flatL (zs.map (.int .u32 ·)) = true := by
      intro zs
      induction zs with
      | nil => rfl
      | cons z zs ih => simp only [List.map_cons, flatL, Ab.flat, ih, Bool.and_self, Bool.true_and]
    simp only [Ab.flat, this]; rfl
theorem nums_dry {v : AV} {zs : List Int} (h : IsNums .u32 v zs) : dry1 v = v := by
  rcases h with ⟨rfl, rfl⟩ | rfl <;> rfl
def hFresh : List AV → St → Option AV
  | [v, w], _ => match toNums v, toNums w with
    | some ds, some no => if ds.length ≤ 100 ∧ no.length ≤ 100 then some (.tup [.int .u32 (freshZ ds no).1, .int .i64 ((freshZ ds no).2 : Nat)]) else none
    | _, _ => none
  | _, _ => none
theorem pureFresh {call : Calls'} {F : Nat} (hh : ∀ {v w : AV} {ds no : List Int}, IsNums .u32 v ds → IsNums .u32 w no → ds.length ≤ 100 → no.length ≤ 100 → valR (call F [v, w] St.nil) = some (.tup [.int .u32 (freshZ ds no).1, .int .i64 ((freshZ ds no).2 : Nat)])) : PureOk call F hFresh := pureOk_of (by
  intro args s v hv
  unfold hFresh at hv
  split at hv
  · split at hv
    · rename_i h1 h2
      split at hv
      · rename_i hl
        cases hv
        have i1 := toNums_of h1
        have i2 := toNums_of h2
        exact ⟨rfl, by simp [flatL, nums_flat i1, nums_flat i2], hh i1 i2 hl.1 hl.2⟩
      · cases hv
    · cases hv
  · cases hv)
end Go.Proofs.YtbeimfhodgmjhaaDoor
