/- The document's GetOffer, as the evaluator answers it. No conditions. -/
import Derived.Test.YtbeimfhodgmjhaaDoorQ10
set_option linter.unusedSimpArgs false
set_option linter.unusedVariables false
set_option maxRecDepth 100000
set_option maxHeartbeats 4000000
namespace Go.Proofs.YtbeimfhodgmjhaaDoor
open Go Go.Ab
def E39 (ts : AV) (id i : Int) : Env := [.undef, .undef, .ptr St.nil.next 0, .undef, ts, .undef, .ptr (St.nil.next + 1) 0, .int .i64 id, .int .i64 i, .undef, .undef, .undef, .undef, .undef, .undef, .undef, .undef, .undef, .undef, .undef, .undef, .undef, .undef, .undef, .undef, .undef, .undef, .undef, .undef, .undef, .undef, .undef, .undef, .undef, .undef, .undef, .undef, .undef, .undef, .undef, .undef, .undef, .undef, .undef, .undef, .undef, .undef, .undef, .undef, .undef, .undef, .undef, .undef, .undef, .undef, .undef, .undef, .undef, .undef, .undef, .undef, .undef, .undef, .undef, .undef, .undef, .undef]
def E39o (ts : AV) (id : Int) : Env := [.undef, .undef, .ptr St.nil.next 0, .undef, ts, .undef, .ptr (St.nil.next + 1) 0, .int .i64 id, .undef, .undef, .undef, .undef, .undef, .undef, .undef, .undef, .undef, .undef, .undef, .undef, .undef, .undef, .undef, .undef, .undef, .undef, .undef, .undef, .undef, .undef, .undef, .undef, .undef, .undef, .undef, .undef, .undef, .undef, .undef, .undef, .undef, .undef, .undef, .undef, .undef, .undef, .undef, .undef, .undef, .undef, .undef, .undef, .undef, .undef, .undef, .undef, .undef, .undef, .undef, .undef, .undef, .undef, .undef, .undef, .undef, .undef, .undef]
def S39 (cs : List Int) : St := S38 cs
/-- The inner loop: the first parameter of a number. -/
theorem inner39 (l : List Tp) (hl : l.length ≤ 100) (cs : List Int) (hc : cs.length = 6) (d : Nat) (hd : d < 6) (h0 : cs.getD d 0 = 0) :
    ∀ e, maskE M39b0l e = E39 (tpV l) d 0 → ∃ e', seqR (blockR 1 (blockR 2 (iter (evC tabGl (evB 999) 999 M39b0) M39b0l 999 e (S38 cs)))) (evC tabGl (evB 999) 999 M39r0) = some (.nrm, e', S38 (cs.set d (setOf l d))) ∧ maskE M39b1l e' = E39o (tpV l) ((d + 1 : Nat) : Int) := by
  have wd : IntKind.i64.wrap ((d : Int) + 1) = ((d + 1 : Nat) : Int) := (wrapI _ (by omega) (by omega)).trans (by omega)
  intro e he
  have hI := tpV_is l
  have ln := hI.len
  refine iter_leave (evC tabGl (evB 999) 999 M39b0) M39b0l (fun i e st => maskE M39b0l e = E39 (tpV l) d (i : Int) ∧ st = S38 cs ∧ ∀ j (hj : j < l.length), j < i → l[j].1 ≠ (d : Int))
    (fun out => ∃ e', seqR (blockR 1 (blockR 2 out)) (evC tabGl (evB 999) 999 M39r0) = some (.nrm, e', S38 (cs.set d (setOf l d))) ∧ maskE M39b1l e' = E39o (tpV l) ((d + 1 : Nat) : Int)) l.length ?_ ?_ l.length 0 _ _ 999 (by omega) ⟨he, rfl, fun j _ hj => by omega⟩ (by omega)
  · rintro i e st hi ⟨h1, rfl, h4⟩
    rw [h1]
    obtain ⟨r, hr⟩ := hI.ixa i hi
    have hs := findT_skip d l i h4
    rw [List.drop_eq_getElem_cons hi] at hs
    have hne : ∀ (hx : l[i].1 ≠ (d : Int)) j (hj : j < l.length), j < i + 1 → l[j].1 ≠ (d : Int) := by
      intro hx j hj hji
      by_cases hji' : j < i
      · exact h4 j hj hji'
      · have : j = i := by omega
        subst this; exact hx
    obtain ⟨⟨a, val⟩, hx⟩ : ∃ t, l[i] = t := ⟨_, rfl⟩
    rw [hx] at hr hs hne
    have d0 : decide ((i : Int) < (l.length : Nat)) = true := decide_eq_true (by omega)
    have w1 : IntKind.i64.wrap ((i : Int) + 1) = ((i + 1 : Nat) : Int) := (wrapI _ (by omega) (by omega)).trans (by omega)
    have c0 : Ab.cut (.int .i64 a :: .str val :: r) 0 none = some (.int .i64 a) := by simp [Ab.cut]
    have c1 : Ab.cut (.str val :: r) 0 none = some (.str val) := by simp [Ab.cut]
    have f0 : faV 0 (.rp (.int .i64 a :: .str val :: r)) = some (.rp (.int .i64 a :: .str val :: r)) := faV_rp _ _ (by simp)
    have f1 : faV 1 (.rp (.int .i64 a :: .str val :: r)) = some (.rp (.str val :: r)) := faV_rp _ _ (by simp)
    by_cases g : a = (d : Int)
    · right
      have q : (a != (d : Int)) = false := by simp [g]
      have hf : findT d l = some val := by
        rw [hs]; show (if a = (d : Int) then some val else _) = _; rw [if_pos g]
      match val, hf, hr, c0, c1, f0, f1 with
      | [], hf, hr, c0, c1, f0, f1 =>
        have hso : setOf l d = 0 := by unfold setOf; rw [hf]
        have hcs : cs.set d 0 = cs := by
          refine List.ext_getElem? fun j => ?_
          by_cases hj : j = d
          · subst hj
            rw [List.getElem?_set_self (by omega), List.getElem?_eq_getElem (by omega)]
            rw [List.getD_eq_getElem?_getD, List.getElem?_eq_getElem (by omega)] at h0
            exact congrArg some h0.symm
          · rw [List.getElem?_set_ne (Ne.symm hj)]
        rw [hso, hcs]
        have lx : lensV' (.str []) = some (.int .i64 0) := rfl
        refine ⟨?_, fun e' s' hh => ?_⟩
        · simp only [M39b0, M39r0, wd, E39, ln, hr, c0, c1, f0, f1, d0, q, w1, lx, loadR_rp, ev1_lensV', qES0, qES1, qES2, env0, List.length_cons, List.length_nil, Nat.reduceAdd, Nat.reduceSub, List.replicate, List.cons_append, List.nil_append, opd, Env.put, Env.at, List.set_cons_zero, List.set_cons_succ, List.getD_cons_zero, List.getD_cons_succ, freezeL, resVs, oneOr, Option.map_some, Option.map_none, List.map_cons, List.map_nil, if_true, if_false, Bool.not_true, Bool.not_false, Bool.false_eq_true, reduceIte, decide_true, decide_false, Int.reduceLT, Int.reduceLE, Int.reduceGT, Int.reduceGE, Int.reduceEq, Int.reduceBEq, Int.reduceBNe, load_ptr, ldV_some, cellAt_cells, List.getElem?_cons_zero, List.getElem?_cons_succ, store_ptr, stO_some, setAt_0, setAt_1, setAt_2, setAt_3, setAt_4, setAt_5, setAt_6, setAt_7, setAt_8, setAt_9, setAt_10, setAt_11, setAt_12, cells_int, cells_bool, cells_str, cells_nils, cells_nilp, cells_ptr, cells_sl, cells_u8, cells_u16, cells_agg, get_upd_is, Option.isSome_some, upd_upd, ev1_nchkV, ev1_faV, nchkV_ptr, faV_ptr, ev1_extV, extV_tup, eqptr_nil, eqptr_ptr, Nat.zero_add, Nat.add_zero, qPL0, qPL1, qPL2, qPL3, qPL4, qPL5, beq_self_eq_true]
          exact ⟨_, rfl, rfl⟩
        · simp only [M39b0, M39r0, wd, E39, ln, hr, c0, c1, f0, f1, d0, q, w1, lx, loadR_rp, ev1_lensV', qES0, qES1, qES2, env0, List.length_cons, List.length_nil, Nat.reduceAdd, Nat.reduceSub, List.replicate, List.cons_append, List.nil_append, opd, Env.put, Env.at, List.set_cons_zero, List.set_cons_succ, List.getD_cons_zero, List.getD_cons_succ, freezeL, resVs, oneOr, Option.map_some, Option.map_none, List.map_cons, List.map_nil, if_true, if_false, Bool.not_true, Bool.not_false, Bool.false_eq_true, reduceIte, decide_true, decide_false, Int.reduceLT, Int.reduceLE, Int.reduceGT, Int.reduceGE, Int.reduceEq, Int.reduceBEq, Int.reduceBNe, load_ptr, ldV_some, cellAt_cells, List.getElem?_cons_zero, List.getElem?_cons_succ, store_ptr, stO_some, setAt_0, setAt_1, setAt_2, setAt_3, setAt_4, setAt_5, setAt_6, setAt_7, setAt_8, setAt_9, setAt_10, setAt_11, setAt_12, cells_int, cells_bool, cells_str, cells_nils, cells_nilp, cells_ptr, cells_sl, cells_u8, cells_u16, cells_agg, get_upd_is, Option.isSome_some, upd_upd, ev1_nchkV, ev1_faV, nchkV_ptr, faV_ptr, ev1_extV, extV_tup, eqptr_nil, eqptr_ptr, Nat.zero_add, Nat.add_zero, qPL0, qPL1, qPL2, qPL3, qPL4, qPL5, beq_self_eq_true] at hh
          cases hh
      | b :: c :: y, hf, hr, c0, c1, f0, f1 =>
        have hso : setOf l d = 0 := by unfold setOf; rw [hf]
        have hcs : cs.set d 0 = cs := by
          refine List.ext_getElem? fun j => ?_
          by_cases hj : j = d
          · subst hj
            rw [List.getElem?_set_self (by omega), List.getElem?_eq_getElem (by omega)]
            rw [List.getD_eq_getElem?_getD, List.getElem?_eq_getElem (by omega)] at h0
            exact congrArg some h0.symm
          · rw [List.getElem?_set_ne (Ne.symm hj)]
        rw [hso, hcs]
        have lx : lensV' (.str (b :: c :: y)) = some (.int .i64 ((y.length + 2 : Nat) : Int)) := rfl
        have q2 : (((y.length + 2 : Nat) : Int) == 1) = false := by simp; omega
        refine ⟨?_, fun e' s' hh => ?_⟩
        · simp only [M39b0, M39r0, wd, E39, ln, hr, c0, c1, f0, f1, d0, q, q2, w1, lx, loadR_rp, ev1_lensV', qES0, qES1, qES2, env0, List.length_cons, List.length_nil, Nat.reduceAdd, Nat.reduceSub, List.replicate, List.cons_append, List.nil_append, opd, Env.put, Env.at, List.set_cons_zero, List.set_cons_succ, List.getD_cons_zero, List.getD_cons_succ, freezeL, resVs, oneOr, Option.map_some, Option.map_none, List.map_cons, List.map_nil, if_true, if_false, Bool.not_true, Bool.not_false, Bool.false_eq_true, reduceIte, decide_true, decide_false, Int.reduceLT, Int.reduceLE, Int.reduceGT, Int.reduceGE, Int.reduceEq, Int.reduceBEq, Int.reduceBNe, load_ptr, ldV_some, cellAt_cells, List.getElem?_cons_zero, List.getElem?_cons_succ, store_ptr, stO_some, setAt_0, setAt_1, setAt_2, setAt_3, setAt_4, setAt_5, setAt_6, setAt_7, setAt_8, setAt_9, setAt_10, setAt_11, setAt_12, cells_int, cells_bool, cells_str, cells_nils, cells_nilp, cells_ptr, cells_sl, cells_u8, cells_u16, cells_agg, get_upd_is, Option.isSome_some, upd_upd, ev1_nchkV, ev1_faV, nchkV_ptr, faV_ptr, ev1_extV, extV_tup, eqptr_nil, eqptr_ptr, Nat.zero_add, Nat.add_zero, qPL0, qPL1, qPL2, qPL3, qPL4, qPL5, beq_self_eq_true]
          exact ⟨_, rfl, rfl⟩
        · simp only [M39b0, M39r0, wd, E39, ln, hr, c0, c1, f0, f1, d0, q, q2, w1, lx, loadR_rp, ev1_lensV', qES0, qES1, qES2, env0, List.length_cons, List.length_nil, Nat.reduceAdd, Nat.reduceSub, List.replicate, List.cons_append, List.nil_append, opd, Env.put, Env.at, List.set_cons_zero, List.set_cons_succ, List.getD_cons_zero, List.getD_cons_succ, freezeL, resVs, oneOr, Option.map_some, Option.map_none, List.map_cons, List.map_nil, if_true, if_false, Bool.not_true, Bool.not_false, Bool.false_eq_true, reduceIte, decide_true, decide_false, Int.reduceLT, Int.reduceLE, Int.reduceGT, Int.reduceGE, Int.reduceEq, Int.reduceBEq, Int.reduceBNe, load_ptr, ldV_some, cellAt_cells, List.getElem?_cons_zero, List.getElem?_cons_succ, store_ptr, stO_some, setAt_0, setAt_1, setAt_2, setAt_3, setAt_4, setAt_5, setAt_6, setAt_7, setAt_8, setAt_9, setAt_10, setAt_11, setAt_12, cells_int, cells_bool, cells_str, cells_nils, cells_nilp, cells_ptr, cells_sl, cells_u8, cells_u16, cells_agg, get_upd_is, Option.isSome_some, upd_upd, ev1_nchkV, ev1_faV, nchkV_ptr, faV_ptr, ev1_extV, extV_tup, eqptr_nil, eqptr_ptr, Nat.zero_add, Nat.add_zero, qPL0, qPL1, qPL2, qPL3, qPL4, qPL5, beq_self_eq_true] at hh
          cases hh
      | [b], hf, hr, c0, c1, f0, f1 =>
        have hso : setOf l d = (b.toNat : Int) := by unfold setOf; rw [hf]
        rw [hso]
        have lx : lensV' (.str [b]) = some (.int .i64 1) := rfl
        have x0 : ixsV (.str [b]) (.int .i64 0) = some (.int .u8 (b.toNat : Int)) := ixsV_at [b] 0 (by simp)
        have wa : IntKind.i64.wrap (b.toNat : Int) = (b.toNat : Int) := wrapI _ (by omega) (by have := b.toNat_lt; omega)
        have hx := ixpV_at 6 (St.nil.next + 1) d hd
        have st := store38 cs d (by omega) (b.toNat : Int)
        refine ⟨?_, fun e' s' hh => ?_⟩
        · simp only [M39b0, M39r0, wd, E39, ln, hr, c0, c1, f0, f1, d0, q, w1, lx, x0, wa, hx, st, conv_int, loadR_rp, ev1_ixpV, ev1_ixsV, ev1_lensV', qES0, qES1, qES2, env0, List.length_cons, List.length_nil, Nat.reduceAdd, Nat.reduceSub, List.replicate, List.cons_append, List.nil_append, opd, Env.put, Env.at, List.set_cons_zero, List.set_cons_succ, List.getD_cons_zero, List.getD_cons_succ, freezeL, resVs, oneOr, Option.map_some, Option.map_none, List.map_cons, List.map_nil, if_true, if_false, Bool.not_true, Bool.not_false, Bool.false_eq_true, reduceIte, decide_true, decide_false, Int.reduceLT, Int.reduceLE, Int.reduceGT, Int.reduceGE, Int.reduceEq, Int.reduceBEq, Int.reduceBNe, load_ptr, ldV_some, cellAt_cells, List.getElem?_cons_zero, List.getElem?_cons_succ, store_ptr, stO_some, setAt_0, setAt_1, setAt_2, setAt_3, setAt_4, setAt_5, setAt_6, setAt_7, setAt_8, setAt_9, setAt_10, setAt_11, setAt_12, cells_int, cells_bool, cells_str, cells_nils, cells_nilp, cells_ptr, cells_sl, cells_u8, cells_u16, cells_agg, get_upd_is, Option.isSome_some, upd_upd, ev1_nchkV, ev1_faV, nchkV_ptr, faV_ptr, ev1_extV, extV_tup, eqptr_nil, eqptr_ptr, Nat.zero_add, Nat.add_zero, qPL0, qPL1, qPL2, qPL3, qPL4, qPL5, beq_self_eq_true]
          exact ⟨_, rfl, rfl⟩
        · simp only [M39b0, M39r0, wd, E39, ln, hr, c0, c1, f0, f1, d0, q, w1, lx, x0, wa, hx, st, conv_int, loadR_rp, ev1_ixpV, ev1_ixsV, ev1_lensV', qES0, qES1, qES2, env0, List.length_cons, List.length_nil, Nat.reduceAdd, Nat.reduceSub, List.replicate, List.cons_append, List.nil_append, opd, Env.put, Env.at, List.set_cons_zero, List.set_cons_succ, List.getD_cons_zero, List.getD_cons_succ, freezeL, resVs, oneOr, Option.map_some, Option.map_none, List.map_cons, List.map_nil, if_true, if_false, Bool.not_true, Bool.not_false, Bool.false_eq_true, reduceIte, decide_true, decide_false, Int.reduceLT, Int.reduceLE, Int.reduceGT, Int.reduceGE, Int.reduceEq, Int.reduceBEq, Int.reduceBNe, load_ptr, ldV_some, cellAt_cells, List.getElem?_cons_zero, List.getElem?_cons_succ, store_ptr, stO_some, setAt_0, setAt_1, setAt_2, setAt_3, setAt_4, setAt_5, setAt_6, setAt_7, setAt_8, setAt_9, setAt_10, setAt_11, setAt_12, cells_int, cells_bool, cells_str, cells_nils, cells_nilp, cells_ptr, cells_sl, cells_u8, cells_u16, cells_agg, get_upd_is, Option.isSome_some, upd_upd, ev1_nchkV, ev1_faV, nchkV_ptr, faV_ptr, ev1_extV, extV_tup, eqptr_nil, eqptr_ptr, Nat.zero_add, Nat.add_zero, qPL0, qPL1, qPL2, qPL3, qPL4, qPL5, beq_self_eq_true] at hh
          cases hh
    · left
      have q : (a != (d : Int)) = true := by simp [g]
      simp only [M39b0, M39r0, wd, E39, ln, hr, c0, c1, f0, f1, d0, q, w1, loadR_rp, qES0, qES1, qES2, env0, List.length_cons, List.length_nil, Nat.reduceAdd, Nat.reduceSub, List.replicate, List.cons_append, List.nil_append, opd, Env.put, Env.at, List.set_cons_zero, List.set_cons_succ, List.getD_cons_zero, List.getD_cons_succ, freezeL, resVs, oneOr, Option.map_some, Option.map_none, List.map_cons, List.map_nil, if_true, if_false, Bool.not_true, Bool.not_false, Bool.false_eq_true, reduceIte, decide_true, decide_false, Int.reduceLT, Int.reduceLE, Int.reduceGT, Int.reduceGE, Int.reduceEq, Int.reduceBEq, Int.reduceBNe, load_ptr, ldV_some, cellAt_cells, List.getElem?_cons_zero, List.getElem?_cons_succ, store_ptr, stO_some, setAt_0, setAt_1, setAt_2, setAt_3, setAt_4, setAt_5, setAt_6, setAt_7, setAt_8, setAt_9, setAt_10, setAt_11, setAt_12, cells_int, cells_bool, cells_str, cells_nils, cells_nilp, cells_ptr, cells_sl, cells_u8, cells_u16, cells_agg, get_upd_is, Option.isSome_some, upd_upd, ev1_nchkV, ev1_faV, nchkV_ptr, faV_ptr, ev1_extV, extV_tup, eqptr_nil, eqptr_ptr, Nat.zero_add, Nat.add_zero, qPL0, qPL1, qPL2, qPL3, qPL4, qPL5, beq_self_eq_true]
      exact ⟨_, _, rfl, rfl, rfl, hne g⟩
  · rintro e st ⟨h1, rfl, h4⟩
    rw [h1]
    have hs := findT_skip d l l.length (fun j hj _ => h4 j hj hj)
    rw [List.drop_length] at hs
    have hso : setOf l d = 0 := by unfold setOf; rw [hs]; rfl
    have hcs : cs.set d 0 = cs := by
      refine List.ext_getElem? fun j => ?_
      by_cases hj : j = d
      · subst hj
        rw [List.getElem?_set_self (by omega), List.getElem?_eq_getElem (by omega)]
        rw [List.getD_eq_getElem?_getD, List.getElem?_eq_getElem (by omega)] at h0
        exact congrArg some h0.symm
      · rw [List.getElem?_set_ne (Ne.symm hj)]
    rw [hso, hcs]
    have d0 : decide (((l.length : Nat) : Int) < ((l.length : Nat) : Int)) = false := decide_eq_false (by omega)
    refine ⟨?_, fun e' s' hh => ?_⟩
    · simp only [M39b0, M39r0, wd, E39, ln, d0, qES0, qES1, qES2, env0, List.length_cons, List.length_nil, Nat.reduceAdd, Nat.reduceSub, List.replicate, List.cons_append, List.nil_append, opd, Env.put, Env.at, List.set_cons_zero, List.set_cons_succ, List.getD_cons_zero, List.getD_cons_succ, freezeL, resVs, oneOr, Option.map_some, Option.map_none, List.map_cons, List.map_nil, if_true, if_false, Bool.not_true, Bool.not_false, Bool.false_eq_true, reduceIte, decide_true, decide_false, Int.reduceLT, Int.reduceLE, Int.reduceGT, Int.reduceGE, Int.reduceEq, Int.reduceBEq, Int.reduceBNe, load_ptr, ldV_some, cellAt_cells, List.getElem?_cons_zero, List.getElem?_cons_succ, store_ptr, stO_some, setAt_0, setAt_1, setAt_2, setAt_3, setAt_4, setAt_5, setAt_6, setAt_7, setAt_8, setAt_9, setAt_10, setAt_11, setAt_12, cells_int, cells_bool, cells_str, cells_nils, cells_nilp, cells_ptr, cells_sl, cells_u8, cells_u16, cells_agg, get_upd_is, Option.isSome_some, upd_upd, ev1_nchkV, ev1_faV, nchkV_ptr, faV_ptr, ev1_extV, extV_tup, eqptr_nil, eqptr_ptr, Nat.zero_add, Nat.add_zero, qPL0, qPL1, qPL2, qPL3, qPL4, qPL5, beq_self_eq_true]
      exact ⟨_, rfl, rfl⟩
    · simp only [M39b0, M39r0, wd, E39, ln, d0, qES0, qES1, qES2, env0, List.length_cons, List.length_nil, Nat.reduceAdd, Nat.reduceSub, List.replicate, List.cons_append, List.nil_append, opd, Env.put, Env.at, List.set_cons_zero, List.set_cons_succ, List.getD_cons_zero, List.getD_cons_succ, freezeL, resVs, oneOr, Option.map_some, Option.map_none, List.map_cons, List.map_nil, if_true, if_false, Bool.not_true, Bool.not_false, Bool.false_eq_true, reduceIte, decide_true, decide_false, Int.reduceLT, Int.reduceLE, Int.reduceGT, Int.reduceGE, Int.reduceEq, Int.reduceBEq, Int.reduceBNe, load_ptr, ldV_some, cellAt_cells, List.getElem?_cons_zero, List.getElem?_cons_succ, store_ptr, stO_some, setAt_0, setAt_1, setAt_2, setAt_3, setAt_4, setAt_5, setAt_6, setAt_7, setAt_8, setAt_9, setAt_10, setAt_11, setAt_12, cells_int, cells_bool, cells_str, cells_nils, cells_nilp, cells_ptr, cells_sl, cells_u8, cells_u16, cells_agg, get_upd_is, Option.isSome_some, upd_upd, ev1_nchkV, ev1_faV, nchkV_ptr, faV_ptr, ev1_extV, extV_tup, eqptr_nil, eqptr_ptr, Nat.zero_add, Nat.add_zero, qPL0, qPL1, qPL2, qPL3, qPL4, qPL5, beq_self_eq_true] at hh
      cases hh
theorem set_len (cs : List Int) (i : Nat) (x : Int) : (cs.set i x).length = cs.length := by simp
theorem rqget_val (s : List UInt8) : valR (evB 1000 39 [.str s] St.nil) = some (getOV (getO s)) := by
  rw [show (1000 : Nat) = 999 + 1 from rfl, evB_in rfl tab39, show St.nil = St.nil.pl [] from rfl]
  have h40 := b40 998 s
  cases hg : getL s with
  | none =>
    rw [hg] at h40
    simp only [getV] at h40
    have hR : getO s = none := by unfold getO; rw [hg]
    rw [hR]
    simp only [M39, h40, getOV, ofC, ev1_build, fill_nil, ev1_extV, qES0, qES1, qES2, env0, List.length_cons, List.length_nil, Nat.reduceAdd, Nat.reduceSub, List.replicate, List.cons_append, List.nil_append, opd, Env.put, Env.at, List.set_cons_zero, List.set_cons_succ, List.getD_cons_zero, List.getD_cons_succ, freezeL, resVs, oneOr, Option.map_some, Option.map_none, List.map_cons, List.map_nil, if_true, if_false, Bool.not_true, Bool.not_false, Bool.false_eq_true, reduceIte, decide_true, decide_false, Int.reduceLT, Int.reduceLE, Int.reduceGT, Int.reduceGE, Int.reduceEq, Int.reduceBEq, Int.reduceBNe, load_ptr, ldV_some, cellAt_cells, List.getElem?_cons_zero, List.getElem?_cons_succ, store_ptr, stO_some, setAt_0, setAt_1, setAt_2, setAt_3, setAt_4, setAt_5, setAt_6, setAt_7, setAt_8, setAt_9, setAt_10, setAt_11, setAt_12, cells_int, cells_bool, cells_str, cells_nils, cells_nilp, cells_ptr, cells_sl, cells_u8, cells_u16, cells_agg, get_upd_is, Option.isSome_some, upd_upd, ev1_nchkV, ev1_faV, nchkV_ptr, faV_ptr, ev1_extV, extV_tup, eqptr_nil, eqptr_ptr, Nat.zero_add, Nat.add_zero, qPL0, qPL1, qPL2, qPL3, qPL4, qPL5, beq_self_eq_true]
  | some l =>
    rw [hg] at h40
    simp only [getV] at h40
    have hl := getL_len hg
    have hR : getO s = if (ofL l).may then some (ofL l) else none := by unfold getO; rw [hg]
    have key : ∀ e, maskE M39b1l e = E39o (tpV l) 1 → valR (outR M39.res (seqR (blockR 0 (iter (evC tabGl (evB 999) 999 M39b1) M39b1l 999 e (S38 [0, 0, 0, 0, 0, 0]))) (evC tabGl (evB 999) 999 M39r1))) = some (getOV (getO s)) := by
      intro e he
      refine iter_leave (evC tabGl (evB 999) 999 M39b1) M39b1l (fun i e st => ∃ cs, maskE M39b1l e = E39o (tpV l) ((i + 1 : Nat) : Int) ∧ st = S38 cs ∧ cs.length = 6 ∧ (∀ j : Nat, j ≤ i → 1 ≤ j → cs.getD j 0 = setOf l j) ∧ (∀ j : Nat, i < j → j < 6 → cs.getD j 0 = 0))
        (fun out => valR (outR M39.res (seqR (blockR 0 out) (evC tabGl (evB 999) 999 M39r1))) = some (getOV (getO s))) 5 ?_ ?_ 5 0 _ _ 999 (by omega) ⟨[0, 0, 0, 0, 0, 0], he, rfl, rfl, fun j h1 h2 => by omega, fun j h1 h2 => by
          match j, h1, h2 with
          | 1, _, _ => rfl
          | 2, _, _ => rfl
          | 3, _, _ => rfl
          | 4, _, _ => rfl
          | 5, _, _ => rfl⟩ (by omega)
      · rintro i e st hi ⟨cs, h1, rfl, h3, h4, h5⟩
        rw [h1]
        left
        have d0 : decide (((i + 1 : Nat) : Int) ≤ 5) = true := decide_eq_true (by omega)
        have w1 : IntKind.i64.wrap (((i + 1 : Nat) : Int) + 1) = ((i + 1 + 1 : Nat) : Int) := (wrapI _ (by omega) (by omega)).trans (by omega)
        have hin := inner39 l hl cs h3 (i + 1) (by omega) (h5 (i + 1) (by omega) (by omega))
        have hset : ∀ j : Nat, j ≠ i + 1 → (cs.set (i + 1) (setOf l ((i + 1 : Nat) : Int))).getD j 0 = cs.getD j 0 := fun j hj => by
          rw [List.getD_eq_getElem?_getD, List.getElem?_set_ne (Ne.symm hj), ← List.getD_eq_getElem?_getD]
        have step : ∃ e', evC tabGl (evB 999) 999 M39b1 (E39o (tpV l) ((i + 1 : Nat) : Int)) (S38 cs) = some (.nrm, e', S38 (cs.set (i + 1) (setOf l ((i + 1 : Nat) : Int)))) ∧ maskE M39b1l e' = E39o (tpV l) ((i + 1 + 1 : Nat) : Int) := by
          simp only [M39b1, E39o, d0, evC_loop, qES0, qES1, qES2, env0, List.length_cons, List.length_nil, Nat.reduceAdd, Nat.reduceSub, List.replicate, List.cons_append, List.nil_append, opd, Env.put, Env.at, List.set_cons_zero, List.set_cons_succ, List.getD_cons_zero, List.getD_cons_succ, freezeL, resVs, oneOr, Option.map_some, Option.map_none, List.map_cons, List.map_nil, if_true, if_false, Bool.not_true, Bool.not_false, Bool.false_eq_true, reduceIte, decide_true, decide_false, Int.reduceLT, Int.reduceLE, Int.reduceGT, Int.reduceGE, Int.reduceEq, Int.reduceBEq, Int.reduceBNe, load_ptr, ldV_some, cellAt_cells, List.getElem?_cons_zero, List.getElem?_cons_succ, store_ptr, stO_some, setAt_0, setAt_1, setAt_2, setAt_3, setAt_4, setAt_5, setAt_6, setAt_7, setAt_8, setAt_9, setAt_10, setAt_11, setAt_12, cells_int, cells_bool, cells_str, cells_nils, cells_nilp, cells_ptr, cells_sl, cells_u8, cells_u16, cells_agg, get_upd_is, Option.isSome_some, upd_upd, ev1_nchkV, ev1_faV, nchkV_ptr, faV_ptr, ev1_extV, extV_tup, eqptr_nil, eqptr_ptr, Nat.zero_add, Nat.add_zero, qPL0, qPL1, qPL2, qPL3, qPL4, qPL5, beq_self_eq_true]
          obtain ⟨e1, g1, g2⟩ := hin (E39 (tpV l) ((i + 1 : Nat) : Int) 0) rfl
          have hit : ∀ e, maskE M39b0l e = E39 (tpV l) ((i + 1 : Nat) : Int) 0 → iter (evC tabGl (evB 999) 999 M39b0) M39b0l 999 e (S38 cs) = iter (evC tabGl (evB 999) 999 M39b0) M39b0l 999 (E39 (tpV l) ((i + 1 : Nat) : Int) 0) (S38 cs) := fun e he => iter_mask _ _ _ _ _ _ (he.trans rfl)
          rw [hit]
          rotate_left
          · rfl
          exact ⟨e1, g1, g2⟩
        obtain ⟨e', k1, k2⟩ := step
        refine ⟨e', _, k1, _, k2, rfl, by rw [set_len, h3], fun j q1 q2 => ?_, fun j q1 q2 => ?_⟩
        · by_cases hj : j = i + 1
          · subst hj
            rw [List.getD_eq_getElem?_getD, List.getElem?_set_self (by omega)]; rfl
          · rw [hset j hj]; exact h4 j (by omega) q2
        · rw [hset j (by omega)]; exact h5 j (by omega) q2
      · rintro e st ⟨cs, h1, rfl, h3, h4, h5⟩
        rw [h1]
        have d0 : decide (((5 + 1 : Nat) : Int) ≤ 5) = false := rfl
        obtain ⟨c0, c1, c2, c3, c4, c5, rfl⟩ : ∃ c0 c1 c2 c3 c4 c5, cs = [c0, c1, c2, c3, c4, c5] := by
          match cs, h3 with
          | [c0, c1, c2, c3, c4, c5], _ => exact ⟨_, _, _, _, _, _, rfl⟩
        have y1 : ∀ b, ixpV 6 1 (.ptr b 0) (.int .i64 1) = some (.ptr b 1) := fun b => ixpV_at 6 b 1 (by omega)
        have y2 : ∀ b, ixpV 6 1 (.ptr b 0) (.int .i64 2) = some (.ptr b 2) := fun b => ixpV_at 6 b 2 (by omega)
        have y3 : ∀ b, ixpV 6 1 (.ptr b 0) (.int .i64 3) = some (.ptr b 3) := fun b => ixpV_at 6 b 3 (by omega)
        have y4 : ∀ b, ixpV 6 1 (.ptr b 0) (.int .i64 4) = some (.ptr b 4) := fun b => ixpV_at 6 b 4 (by omega)
        have y5 : ∀ b, ixpV 6 1 (.ptr b 0) (.int .i64 5) = some (.ptr b 5) := fun b => ixpV_at 6 b 5 (by omega)
        have e0 : c1 = setOf l 1 := h4 1 (by omega) (by omega)
        have e1 : c2 = setOf l 2 := h4 2 (by omega) (by omega)
        have e2 : c3 = setOf l 3 := h4 3 (by omega) (by omega)
        have e3 : c4 = setOf l 4 := h4 4 (by omega) (by omega)
        have e4 : c5 = setOf l 5 := h4 5 (by omega) (by omega)
        have ho : (⟨c1, c2, c3, c4, c5⟩ : Of5) = ofL l := by rw [e0, e1, e2, e3, e4]; rfl
        have h58 := b58 998 ⟨c1, c2, c3, c4, c5⟩
        simp only [Of5.cells, ofC] at h58
        rw [← ho] at hR
        refine ⟨?_, fun e' s' hh => ?_⟩
        · by_cases hm : Of5.may ⟨c1, c2, c3, c4, c5⟩
          · rw [decide_eq_true hm] at h58
            rw [if_pos hm] at hR
            rw [hR]
            simp only [M39, M39r1, M39b1, E39o, S38, Z5, d0, y1, y2, y3, y4, y5, h58, getOV, Of5.cells, ofC, ev1_build, fill_nil, ev1_ixpV, qES0, qES1, qES2, env0, List.length_cons, List.length_nil, Nat.reduceAdd, Nat.reduceSub, List.replicate, List.cons_append, List.nil_append, opd, Env.put, Env.at, List.set_cons_zero, List.set_cons_succ, List.getD_cons_zero, List.getD_cons_succ, freezeL, resVs, oneOr, Option.map_some, Option.map_none, List.map_cons, List.map_nil, if_true, if_false, Bool.not_true, Bool.not_false, Bool.false_eq_true, reduceIte, decide_true, decide_false, Int.reduceLT, Int.reduceLE, Int.reduceGT, Int.reduceGE, Int.reduceEq, Int.reduceBEq, Int.reduceBNe, load_ptr, ldV_some, cellAt_cells, List.getElem?_cons_zero, List.getElem?_cons_succ, store_ptr, stO_some, setAt_0, setAt_1, setAt_2, setAt_3, setAt_4, setAt_5, setAt_6, setAt_7, setAt_8, setAt_9, setAt_10, setAt_11, setAt_12, cells_int, cells_bool, cells_str, cells_nils, cells_nilp, cells_ptr, cells_sl, cells_u8, cells_u16, cells_agg, get_upd_is, Option.isSome_some, upd_upd, ev1_nchkV, ev1_faV, nchkV_ptr, faV_ptr, ev1_extV, extV_tup, eqptr_nil, eqptr_ptr, Nat.zero_add, Nat.add_zero, qPL0, qPL1, qPL2, qPL3, qPL4, qPL5, beq_self_eq_true]
          · rw [decide_eq_false hm] at h58
            rw [if_neg hm] at hR
            rw [hR]
            simp only [M39, M39r1, M39b1, E39o, S38, Z5, d0, y1, y2, y3, y4, y5, h58, getOV, Of5.cells, ofC, ev1_build, fill_nil, ev1_ixpV, qES0, qES1, qES2, env0, List.length_cons, List.length_nil, Nat.reduceAdd, Nat.reduceSub, List.replicate, List.cons_append, List.nil_append, opd, Env.put, Env.at, List.set_cons_zero, List.set_cons_succ, List.getD_cons_zero, List.getD_cons_succ, freezeL, resVs, oneOr, Option.map_some, Option.map_none, List.map_cons, List.map_nil, if_true, if_false, Bool.not_true, Bool.not_false, Bool.false_eq_true, reduceIte, decide_true, decide_false, Int.reduceLT, Int.reduceLE, Int.reduceGT, Int.reduceGE, Int.reduceEq, Int.reduceBEq, Int.reduceBNe, load_ptr, ldV_some, cellAt_cells, List.getElem?_cons_zero, List.getElem?_cons_succ, store_ptr, stO_some, setAt_0, setAt_1, setAt_2, setAt_3, setAt_4, setAt_5, setAt_6, setAt_7, setAt_8, setAt_9, setAt_10, setAt_11, setAt_12, cells_int, cells_bool, cells_str, cells_nils, cells_nilp, cells_ptr, cells_sl, cells_u8, cells_u16, cells_agg, get_upd_is, Option.isSome_some, upd_upd, ev1_nchkV, ev1_faV, nchkV_ptr, faV_ptr, ev1_extV, extV_tup, eqptr_nil, eqptr_ptr, Nat.zero_add, Nat.add_zero, qPL0, qPL1, qPL2, qPL3, qPL4, qPL5, beq_self_eq_true]
        · simp only [M39b1, E39o, d0, qES0, qES1, qES2, env0, List.length_cons, List.length_nil, Nat.reduceAdd, Nat.reduceSub, List.replicate, List.cons_append, List.nil_append, opd, Env.put, Env.at, List.set_cons_zero, List.set_cons_succ, List.getD_cons_zero, List.getD_cons_succ, freezeL, resVs, oneOr, Option.map_some, Option.map_none, List.map_cons, List.map_nil, if_true, if_false, Bool.not_true, Bool.not_false, Bool.false_eq_true, reduceIte, decide_true, decide_false, Int.reduceLT, Int.reduceLE, Int.reduceGT, Int.reduceGE, Int.reduceEq, Int.reduceBEq, Int.reduceBNe, load_ptr, ldV_some, cellAt_cells, List.getElem?_cons_zero, List.getElem?_cons_succ, store_ptr, stO_some, setAt_0, setAt_1, setAt_2, setAt_3, setAt_4, setAt_5, setAt_6, setAt_7, setAt_8, setAt_9, setAt_10, setAt_11, setAt_12, cells_int, cells_bool, cells_str, cells_nils, cells_nilp, cells_ptr, cells_sl, cells_u8, cells_u16, cells_agg, get_upd_is, Option.isSome_some, upd_upd, ev1_nchkV, ev1_faV, nchkV_ptr, faV_ptr, ev1_extV, extV_tup, eqptr_nil, eqptr_ptr, Nat.zero_add, Nat.add_zero, qPL0, qPL1, qPL2, qPL3, qPL4, qPL5, beq_self_eq_true] at hh
          cases hh
    simp only [M39, h40, evC_loop, ev1_extV, qES0, qES1, qES2, env0, List.length_cons, List.length_nil, Nat.reduceAdd, Nat.reduceSub, List.replicate, List.cons_append, List.nil_append, opd, Env.put, Env.at, List.set_cons_zero, List.set_cons_succ, List.getD_cons_zero, List.getD_cons_succ, freezeL, resVs, oneOr, Option.map_some, Option.map_none, List.map_cons, List.map_nil, if_true, if_false, Bool.not_true, Bool.not_false, Bool.false_eq_true, reduceIte, decide_true, decide_false, Int.reduceLT, Int.reduceLE, Int.reduceGT, Int.reduceGE, Int.reduceEq, Int.reduceBEq, Int.reduceBNe, load_ptr, ldV_some, cellAt_cells, List.getElem?_cons_zero, List.getElem?_cons_succ, store_ptr, stO_some, setAt_0, setAt_1, setAt_2, setAt_3, setAt_4, setAt_5, setAt_6, setAt_7, setAt_8, setAt_9, setAt_10, setAt_11, setAt_12, cells_int, cells_bool, cells_str, cells_nils, cells_nilp, cells_ptr, cells_sl, cells_u8, cells_u16, cells_agg, get_upd_is, Option.isSome_some, upd_upd, ev1_nchkV, ev1_faV, nchkV_ptr, faV_ptr, ev1_extV, extV_tup, eqptr_nil, eqptr_ptr, Nat.zero_add, Nat.add_zero, qPL0, qPL1, qPL2, qPL3, qPL4, qPL5, beq_self_eq_true]
    exact key _ rfl
end Go.Proofs.YtbeimfhodgmjhaaDoor
