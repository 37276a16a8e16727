/- nick.Len, Plain and Cut, as the evaluator answers them. No conditions. -/
import Derived.Test.YthcblggiojpmcaaDoorNL
set_option linter.unusedSimpArgs false
set_option linter.unusedVariables false
set_option maxRecDepth 100000
set_option maxHeartbeats 4000000
namespace Go.Proofs.YthcblggiojpmcaaDoor
open Go Go.Ab
theorem nickOk_all (l : List UInt8) : ∀ (f p : Nat), l.length < f + p → nickOk l f p = (rns (l.drop p)).all (kOk kindOf) := by
  intro f
  induction f with
  | zero =>
    intro p h
    rw [List.drop_eq_nil_of_le (by omega)]
    rfl
  | succ f ih =>
    intro p h
    unfold nickOk
    by_cases hp : p < l.length
    · obtain ⟨b, t, hbt⟩ := drop_cons hp
      have hw := dec_w b t
      rw [if_pos hp, dec_drop l p b t hbt, hbt, rns_cons, List.all_cons, ih _ (by omega)]
      rw [show l.drop (p + (decT b t).2) = (b :: t).drop (decT b t).2 by rw [← hbt, List.drop_drop]]
      rfl
    · rw [if_neg hp, List.drop_eq_nil_of_le (by omega)]
      rfl
theorem mayN_R (l : List UInt8) : mayN l = mayR kindOf l := by
  unfold mayN mayR
  rw [nickOk_all l _ 0 (by omega), List.drop_zero]
theorem n_may (k : Nat) (l : List UInt8) (h : l.length ≤ 900) (s : St) : evN (k + 1) 22 [.str l] s = some (.bool (mayR kindOf l), s) := evF_ext (H := hNick) rfl ((if_pos h).trans (by rw [mayN_R]))
theorem n_rmay (k : Nat) (l : List UInt8) (h : l.length ≤ 900) (s : St) : evN (k + 1) 23 [.str l] s = some (.bool (mayR kindOf l), s) := evF_ext (H := hNick) rfl ((if_pos h).trans (by rw [mayN_R]))
/-- The next rune of a text. -/
theorem nxt_at (S : St) (l : List UInt8) (p : Nat) (b : UInt8) (t : List UInt8) (h : l.drop p = b :: t) :
    nxtS (S.pl [.iter l p]) S.next (some (.iter l p)) = some (.tup [.bool true, .int .i64 p, .int .i32 ((decT b t).1 : Nat)], S.pl [.iter l (p + (decT b t).2)]) := by
  have hp : p < l.length := by
    refine Nat.lt_of_not_le fun hh => ?_
    rw [List.drop_eq_nil_of_le hh] at h
    cases h
  simp only [nxtS]
  rw [if_pos hp, dec_drop l p b t h]
  simp only [qPL0, qPL1, qPL2, qPL3, qPL4, qPL5, beq_self_eq_true]
theorem nxt_end (S : St) (l : List UInt8) (p : Nat) (h : ¬ p < l.length) : nxtS (S.pl [.iter l p]) S.next (some (.iter l p)) = some (.tup [.bool false], S.pl [.iter l p]) := by
  simp only [nxtS]
  rw [if_neg h]
theorem drop_next {l : List UInt8} {p w : Nat} {b : UInt8} {t : List UInt8} (h : l.drop p = b :: t) : (b :: t).drop w = l.drop (p + w) := by rw [← h, List.drop_drop]
def E24n (n : Int) (b : Nat) : Env := [.undef, .undef, .undef, .int .i64 n, .undef, .ptr b 0, .undef, .undef, .undef, .undef, .undef]
theorem nlen_gen (k : Nat) (l : List UInt8) (hl : l.length ≤ 1000) (S : St) : ∃ p, evN (k + l.length + 3) 24 [.str l] S = some (.int .i64 ((rns l).length : Nat), S.pl [.iter l p]) := by
  rw [show k + l.length + 3 = (k + l.length + 2) + 1 from rfl, evN_in rfl tab24, show S = S.pl [] from rfl]
  obtain ⟨R, hR⟩ : ∃ R, (rns l).length = R := ⟨_, rfl⟩
  have hRl := rns_len l
  rw [hR] at hRl ⊢
  have key : ∀ e, maskE M24b0l e = E24n 0 S.next → ∃ p, outR M24.res (seqR (blockR 0 (iter (evC tabGl (evN (k + l.length + 2)) (k + l.length + 2) M24b0) M24b0l (k + l.length + 2) e (S.pl [.iter l 0]))) (evC tabGl (evN (k + l.length + 2)) (k + l.length + 2) M24r0)) = some (.int .i64 (R : Nat), S.pl [.iter l p]) := by
    intro e he
    refine iter_leave (evC tabGl (evN (k + l.length + 2)) (k + l.length + 2) M24b0) M24b0l (fun i e st => ∃ p, maskE M24b0l e = E24n (i : Int) S.next ∧ st = S.pl [.iter l p] ∧ i ≤ p ∧ i + (rns (l.drop p)).length = R)
      (fun out => ∃ p, outR M24.res (seqR (blockR 0 out) (evC tabGl (evN (k + l.length + 2)) (k + l.length + 2) M24r0)) = some (.int .i64 (R : Nat), S.pl [.iter l p])) l.length ?_ ?_ l.length 0 _ _ (k + l.length + 2) (by omega) ⟨0, he, rfl, Nat.le_refl _, by rw [List.drop_zero, hR, Nat.zero_add]⟩ (by omega)
    · rintro i e st hi ⟨p, h1, rfl, h3, h4⟩
      rw [h1]
      have hg : (S.pl [.iter l p]).get S.next = some (.iter l p) := plg0 _ _ _
      by_cases hp : p < l.length
      · left
        obtain ⟨b, t, hbt⟩ := drop_cons hp
        have nx := nxt_at S l p b t hbt
        have hw := dec_w b t
        rw [hbt, rns_cons, drop_next hbt, List.length_cons] at h4
        have w1 : IntKind.i64.wrap ((i : Int) + 1) = ((i + 1 : Nat) : Int) := (wrapI _ (by omega) (by omega)).trans (by omega)
        generalize decT b t = d at *
        simp only [M24b0, E24n, hg, nx, w1, ev1_nxtV, nxtV_ptr, ev1_extV, qES0, qES1, qES2, env0, List.length_cons, List.length_nil, Nat.reduceAdd, Nat.reduceSub, List.replicate, List.cons_append, List.nil_append, opd, Env.put, Env.at, List.set_cons_zero, List.set_cons_succ, List.getD_cons_zero, List.getD_cons_succ, freezeL, resVs, oneOr, Option.map_some, Option.map_none, List.map_cons, List.map_nil, if_true, if_false, Bool.not_true, Bool.not_false, Bool.false_eq_true, reduceIte, decide_true, decide_false, Int.reduceLT, Int.reduceLE, Int.reduceGT, Int.reduceGE, Int.reduceEq, Int.reduceBEq, Int.reduceBNe, load_ptr, ldV_some, cellAt_cells, List.getElem?_cons_zero, List.getElem?_cons_succ, store_ptr, stO_some, setAt_0, setAt_1, setAt_2, setAt_3, setAt_4, setAt_5, setAt_6, setAt_7, setAt_8, setAt_9, setAt_10, setAt_11, setAt_12, cells_int, cells_bool, cells_str, cells_nils, cells_nilp, cells_ptr, cells_sl, cells_u8, cells_u16, cells_agg, get_upd_is, Option.isSome_some, upd_upd, ev1_nchkV, ev1_faV, nchkV_ptr, faV_ptr, ev1_extV, extV_tup, eqptr_nil, eqptr_ptr, Nat.zero_add, Nat.add_zero, qPL0, qPL1, qPL2, qPL3, qPL4, qPL5, beq_self_eq_true]
        exact ⟨_, _, rfl, p + d.2, rfl, rfl, by omega, by omega⟩
      · right
        rw [List.drop_eq_nil_of_le (by omega), rns_nil, List.length_nil, Nat.add_zero] at h4
        subst h4
        have nx := nxt_end S l p hp
        refine ⟨⟨p, ?_⟩, fun e' s' hh => ?_⟩
        · simp only [M24, M24r0, M24b0, E24n, hg, nx, ev1_nxtV, nxtV_ptr, ev1_extV, qES0, qES1, qES2, env0, List.length_cons, List.length_nil, Nat.reduceAdd, Nat.reduceSub, List.replicate, List.cons_append, List.nil_append, opd, Env.put, Env.at, List.set_cons_zero, List.set_cons_succ, List.getD_cons_zero, List.getD_cons_succ, freezeL, resVs, oneOr, Option.map_some, Option.map_none, List.map_cons, List.map_nil, if_true, if_false, Bool.not_true, Bool.not_false, Bool.false_eq_true, reduceIte, decide_true, decide_false, Int.reduceLT, Int.reduceLE, Int.reduceGT, Int.reduceGE, Int.reduceEq, Int.reduceBEq, Int.reduceBNe, load_ptr, ldV_some, cellAt_cells, List.getElem?_cons_zero, List.getElem?_cons_succ, store_ptr, stO_some, setAt_0, setAt_1, setAt_2, setAt_3, setAt_4, setAt_5, setAt_6, setAt_7, setAt_8, setAt_9, setAt_10, setAt_11, setAt_12, cells_int, cells_bool, cells_str, cells_nils, cells_nilp, cells_ptr, cells_sl, cells_u8, cells_u16, cells_agg, get_upd_is, Option.isSome_some, upd_upd, ev1_nchkV, ev1_faV, nchkV_ptr, faV_ptr, ev1_extV, extV_tup, eqptr_nil, eqptr_ptr, Nat.zero_add, Nat.add_zero, qPL0, qPL1, qPL2, qPL3, qPL4, qPL5, beq_self_eq_true]
          first | done | rfl
        · simp only [M24b0, E24n, hg, nx, ev1_nxtV, nxtV_ptr, ev1_extV, qES0, qES1, qES2, env0, List.length_cons, List.length_nil, Nat.reduceAdd, Nat.reduceSub, List.replicate, List.cons_append, List.nil_append, opd, Env.put, Env.at, List.set_cons_zero, List.set_cons_succ, List.getD_cons_zero, List.getD_cons_succ, freezeL, resVs, oneOr, Option.map_some, Option.map_none, List.map_cons, List.map_nil, if_true, if_false, Bool.not_true, Bool.not_false, Bool.false_eq_true, reduceIte, decide_true, decide_false, Int.reduceLT, Int.reduceLE, Int.reduceGT, Int.reduceGE, Int.reduceEq, Int.reduceBEq, Int.reduceBNe, load_ptr, ldV_some, cellAt_cells, List.getElem?_cons_zero, List.getElem?_cons_succ, store_ptr, stO_some, setAt_0, setAt_1, setAt_2, setAt_3, setAt_4, setAt_5, setAt_6, setAt_7, setAt_8, setAt_9, setAt_10, setAt_11, setAt_12, cells_int, cells_bool, cells_str, cells_nils, cells_nilp, cells_ptr, cells_sl, cells_u8, cells_u16, cells_agg, get_upd_is, Option.isSome_some, upd_upd, ev1_nchkV, ev1_faV, nchkV_ptr, faV_ptr, ev1_extV, extV_tup, eqptr_nil, eqptr_ptr, Nat.zero_add, Nat.add_zero, qPL0, qPL1, qPL2, qPL3, qPL4, qPL5, beq_self_eq_true] at hh
          cases hh
    · rintro e st ⟨p, h1, rfl, h3, h4⟩
      rw [h1]
      have hg : (S.pl [.iter l p]).get S.next = some (.iter l p) := plg0 _ _ _
      rw [List.drop_eq_nil_of_le (by omega), rns_nil, List.length_nil, Nat.add_zero] at h4
      subst h4
      have nx := nxt_end S l p (by omega)
      refine ⟨⟨p, ?_⟩, fun e' s' hh => ?_⟩
      · simp only [M24, M24r0, M24b0, E24n, hg, nx, ev1_nxtV, nxtV_ptr, ev1_extV, qES0, qES1, qES2, env0, List.length_cons, List.length_nil, Nat.reduceAdd, Nat.reduceSub, List.replicate, List.cons_append, List.nil_append, opd, Env.put, Env.at, List.set_cons_zero, List.set_cons_succ, List.getD_cons_zero, List.getD_cons_succ, freezeL, resVs, oneOr, Option.map_some, Option.map_none, List.map_cons, List.map_nil, if_true, if_false, Bool.not_true, Bool.not_false, Bool.false_eq_true, reduceIte, decide_true, decide_false, Int.reduceLT, Int.reduceLE, Int.reduceGT, Int.reduceGE, Int.reduceEq, Int.reduceBEq, Int.reduceBNe, load_ptr, ldV_some, cellAt_cells, List.getElem?_cons_zero, List.getElem?_cons_succ, store_ptr, stO_some, setAt_0, setAt_1, setAt_2, setAt_3, setAt_4, setAt_5, setAt_6, setAt_7, setAt_8, setAt_9, setAt_10, setAt_11, setAt_12, cells_int, cells_bool, cells_str, cells_nils, cells_nilp, cells_ptr, cells_sl, cells_u8, cells_u16, cells_agg, get_upd_is, Option.isSome_some, upd_upd, ev1_nchkV, ev1_faV, nchkV_ptr, faV_ptr, ev1_extV, extV_tup, eqptr_nil, eqptr_ptr, Nat.zero_add, Nat.add_zero, qPL0, qPL1, qPL2, qPL3, qPL4, qPL5, beq_self_eq_true]
        first | done | rfl
      · simp only [M24b0, E24n, hg, nx, ev1_nxtV, nxtV_ptr, ev1_extV, qES0, qES1, qES2, env0, List.length_cons, List.length_nil, Nat.reduceAdd, Nat.reduceSub, List.replicate, List.cons_append, List.nil_append, opd, Env.put, Env.at, List.set_cons_zero, List.set_cons_succ, List.getD_cons_zero, List.getD_cons_succ, freezeL, resVs, oneOr, Option.map_some, Option.map_none, List.map_cons, List.map_nil, if_true, if_false, Bool.not_true, Bool.not_false, Bool.false_eq_true, reduceIte, decide_true, decide_false, Int.reduceLT, Int.reduceLE, Int.reduceGT, Int.reduceGE, Int.reduceEq, Int.reduceBEq, Int.reduceBNe, load_ptr, ldV_some, cellAt_cells, List.getElem?_cons_zero, List.getElem?_cons_succ, store_ptr, stO_some, setAt_0, setAt_1, setAt_2, setAt_3, setAt_4, setAt_5, setAt_6, setAt_7, setAt_8, setAt_9, setAt_10, setAt_11, setAt_12, cells_int, cells_bool, cells_str, cells_nils, cells_nilp, cells_ptr, cells_sl, cells_u8, cells_u16, cells_agg, get_upd_is, Option.isSome_some, upd_upd, ev1_nchkV, ev1_faV, nchkV_ptr, faV_ptr, ev1_extV, extV_tup, eqptr_nil, eqptr_ptr, Nat.zero_add, Nat.add_zero, qPL0, qPL1, qPL2, qPL3, qPL4, qPL5, beq_self_eq_true] at hh
        cases hh
  simp only [M24, ev1_rngV, rngV_str, evC_loop, qES0, qES1, qES2, env0, List.length_cons, List.length_nil, Nat.reduceAdd, Nat.reduceSub, List.replicate, List.cons_append, List.nil_append, opd, Env.put, Env.at, List.set_cons_zero, List.set_cons_succ, List.getD_cons_zero, List.getD_cons_succ, freezeL, resVs, oneOr, Option.map_some, Option.map_none, List.map_cons, List.map_nil, if_true, if_false, Bool.not_true, Bool.not_false, Bool.false_eq_true, reduceIte, decide_true, decide_false, Int.reduceLT, Int.reduceLE, Int.reduceGT, Int.reduceGE, Int.reduceEq, Int.reduceBEq, Int.reduceBNe, load_ptr, ldV_some, cellAt_cells, List.getElem?_cons_zero, List.getElem?_cons_succ, store_ptr, stO_some, setAt_0, setAt_1, setAt_2, setAt_3, setAt_4, setAt_5, setAt_6, setAt_7, setAt_8, setAt_9, setAt_10, setAt_11, setAt_12, cells_int, cells_bool, cells_str, cells_nils, cells_nilp, cells_ptr, cells_sl, cells_u8, cells_u16, cells_agg, get_upd_is, Option.isSome_some, upd_upd, ev1_nchkV, ev1_faV, nchkV_ptr, faV_ptr, ev1_extV, extV_tup, eqptr_nil, eqptr_ptr, Nat.zero_add, Nat.add_zero, qPL0, qPL1, qPL2, qPL3, qPL4, qPL5, beq_self_eq_true]
  exact key _ rfl
/-! Cut. -/
theorem i32_eqlr (a b : Int) : binV .eql (.int .i32 a) (.int .i32 b) = some (.bool (a == b)) := (id rfl)
def E26n (l : List UInt8) (m : Int) (b : Nat) : Env := [.str l, .int .i64 m, .undef, .undef, .undef, .undef, .undef, .undef, .undef, .ptr b 0, .undef, .undef, .undef, .undef, .undef, .undef, .undef, .undef, .undef, .undef, .undef, .undef, .undef, .undef, .undef, .undef, .undef, .undef, .undef, .undef, .undef, .undef, .undef, .undef, .undef, .undef, .undef]
theorem ncut_gen (k : Nat) (l : List UInt8) (m : Int) (hl : l.length ≤ 1000) (S : St) : ∃ p, evN (k + l.length + 3) 26 [.str l, .int .i64 m] S = some (.str (cutR l m), S.pl [.iter l p]) := by
  rw [show k + l.length + 3 = (k + l.length + 2) + 1 from rfl, evN_in rfl tab26, show S = S.pl [] from rfl]
  obtain ⟨R, hR⟩ : ∃ R, cutK m 0 (rns l) = R := ⟨_, rfl⟩
  unfold cutR
  rw [hR]
  have key : ∀ e, maskE M26b0l e = E26n l m S.next → ∃ p, outR M26.res (seqR (blockR 0 (iter (evC tabGl (evN (k + l.length + 2)) (k + l.length + 2) M26b0) M26b0l (k + l.length + 2) e (S.pl [.iter l 0]))) (evC tabGl (evN (k + l.length + 2)) (k + l.length + 2) M26r0)) = some (.str (l.take R), S.pl [.iter l p]) := by
    intro e he
    refine iter_leave (evC tabGl (evN (k + l.length + 2)) (k + l.length + 2) M26b0) M26b0l (fun i e st => ∃ p, maskE M26b0l e = E26n l m S.next ∧ st = S.pl [.iter l p] ∧ i ≤ p ∧ cutK m p (rns (l.drop p)) = R)
      (fun out => ∃ p, outR M26.res (seqR (blockR 0 out) (evC tabGl (evN (k + l.length + 2)) (k + l.length + 2) M26r0)) = some (.str (l.take R), S.pl [.iter l p])) l.length ?_ ?_ l.length 0 _ _ (k + l.length + 2) (by omega) ⟨0, he, rfl, Nat.le_refl _, by rw [List.drop_zero, hR]⟩ (by omega)
    · rintro i e st hi ⟨p, h1, rfl, h3, h4⟩
      rw [h1]
      have hg : (S.pl [.iter l p]).get S.next = some (.iter l p) := plg0 _ _ _
      by_cases hp : p < l.length
      · obtain ⟨b, t, hbt⟩ := drop_cons hp
        have nx := nxt_at S l p b t hbt
        have hw := dec_w b t
        have hlt : t.length ≤ 1000 := by have := congrArg List.length hbt; simp at this; omega
        have hlt2 : p + t.length + 1 = l.length := by have := congrArg List.length hbt; simp at this; omega
        have dc : ∀ s, evN (k + l.length + 2) 65 [.str (b :: t)] s = some (decA (decT b t), s) := fun s => n_dec (k + l.length + 1) b t hlt s
        have sl := slcS_from l p (by omega)
        have st := slcS_str l (p : Int) (by omega) (by omega)
        rw [hbt] at sl
        rw [Int.toNat_natCast] at st
        rw [hbt, rns_cons, drop_next hbt] at h4
        unfold cutK at h4
        generalize decT b t = d at *
        simp only [decA] at dc
        have w1 : IntKind.i64.wrap ((p : Int) + (d.2 : Nat)) = ((p + d.2 : Nat) : Int) := (wrapI _ (by omega) (by omega)).trans (by omega)
        by_cases g1 : ((p + d.2 : Nat) : Int) > m
        · right
          have q1 : decide (((p + d.2 : Nat) : Int) > m) = true := decide_eq_true g1
          rw [if_pos (.inr g1)] at h4
          subst h4
          refine ⟨⟨p + d.2, ?_⟩, fun e' s' hh => ?_⟩
          · simp only [M26, M26b0, E26n, hg, nx, dc, sl, st, w1, q1, ev1_slsV, ev1_nxtV, nxtV_ptr, ev1_extV, qES0, qES1, qES2, env0, List.length_cons, List.length_nil, Nat.reduceAdd, Nat.reduceSub, List.replicate, List.cons_append, List.nil_append, opd, Env.put, Env.at, List.set_cons_zero, List.set_cons_succ, List.getD_cons_zero, List.getD_cons_succ, freezeL, resVs, oneOr, Option.map_some, Option.map_none, List.map_cons, List.map_nil, if_true, if_false, Bool.not_true, Bool.not_false, Bool.false_eq_true, reduceIte, decide_true, decide_false, Int.reduceLT, Int.reduceLE, Int.reduceGT, Int.reduceGE, Int.reduceEq, Int.reduceBEq, Int.reduceBNe, load_ptr, ldV_some, cellAt_cells, List.getElem?_cons_zero, List.getElem?_cons_succ, store_ptr, stO_some, setAt_0, setAt_1, setAt_2, setAt_3, setAt_4, setAt_5, setAt_6, setAt_7, setAt_8, setAt_9, setAt_10, setAt_11, setAt_12, cells_int, cells_bool, cells_str, cells_nils, cells_nilp, cells_ptr, cells_sl, cells_u8, cells_u16, cells_agg, get_upd_is, Option.isSome_some, upd_upd, ev1_nchkV, ev1_faV, nchkV_ptr, faV_ptr, ev1_extV, extV_tup, eqptr_nil, eqptr_ptr, Nat.zero_add, Nat.add_zero, qPL0, qPL1, qPL2, qPL3, qPL4, qPL5, beq_self_eq_true]
            first | done | rfl
          · simp only [M26b0, E26n, hg, nx, dc, sl, st, w1, q1, ev1_slsV, ev1_nxtV, nxtV_ptr, ev1_extV, qES0, qES1, qES2, env0, List.length_cons, List.length_nil, Nat.reduceAdd, Nat.reduceSub, List.replicate, List.cons_append, List.nil_append, opd, Env.put, Env.at, List.set_cons_zero, List.set_cons_succ, List.getD_cons_zero, List.getD_cons_succ, freezeL, resVs, oneOr, Option.map_some, Option.map_none, List.map_cons, List.map_nil, if_true, if_false, Bool.not_true, Bool.not_false, Bool.false_eq_true, reduceIte, decide_true, decide_false, Int.reduceLT, Int.reduceLE, Int.reduceGT, Int.reduceGE, Int.reduceEq, Int.reduceBEq, Int.reduceBNe, load_ptr, ldV_some, cellAt_cells, List.getElem?_cons_zero, List.getElem?_cons_succ, store_ptr, stO_some, setAt_0, setAt_1, setAt_2, setAt_3, setAt_4, setAt_5, setAt_6, setAt_7, setAt_8, setAt_9, setAt_10, setAt_11, setAt_12, cells_int, cells_bool, cells_str, cells_nils, cells_nilp, cells_ptr, cells_sl, cells_u8, cells_u16, cells_agg, get_upd_is, Option.isSome_some, upd_upd, ev1_nchkV, ev1_faV, nchkV_ptr, faV_ptr, ev1_extV, extV_tup, eqptr_nil, eqptr_ptr, Nat.zero_add, Nat.add_zero, qPL0, qPL1, qPL2, qPL3, qPL4, qPL5, beq_self_eq_true] at hh
            cases hh
        · have q1 : decide (((p + d.2 : Nat) : Int) > m) = false := decide_eq_false g1
          by_cases g2 : d.1 = 65533
          · have q2 : (((d.1 : Nat) : Int) == 65533) = true := by simp [g2]
            by_cases g3 : d.2 = 1
            · right
              have q3 : (((d.2 : Nat) : Int) == 1) = true := by simp [g3]
              rw [if_pos (.inl ⟨g2, g3⟩)] at h4
              subst h4
              refine ⟨⟨p + d.2, ?_⟩, fun e' s' hh => ?_⟩
              · simp only [M26, M26b0, E26n, hg, nx, dc, sl, st, w1, q1, q2, q3, i32_eqlr, ev1_slsV, ev1_nxtV, nxtV_ptr, ev1_extV, qES0, qES1, qES2, env0, List.length_cons, List.length_nil, Nat.reduceAdd, Nat.reduceSub, List.replicate, List.cons_append, List.nil_append, opd, Env.put, Env.at, List.set_cons_zero, List.set_cons_succ, List.getD_cons_zero, List.getD_cons_succ, freezeL, resVs, oneOr, Option.map_some, Option.map_none, List.map_cons, List.map_nil, if_true, if_false, Bool.not_true, Bool.not_false, Bool.false_eq_true, reduceIte, decide_true, decide_false, Int.reduceLT, Int.reduceLE, Int.reduceGT, Int.reduceGE, Int.reduceEq, Int.reduceBEq, Int.reduceBNe, load_ptr, ldV_some, cellAt_cells, List.getElem?_cons_zero, List.getElem?_cons_succ, store_ptr, stO_some, setAt_0, setAt_1, setAt_2, setAt_3, setAt_4, setAt_5, setAt_6, setAt_7, setAt_8, setAt_9, setAt_10, setAt_11, setAt_12, cells_int, cells_bool, cells_str, cells_nils, cells_nilp, cells_ptr, cells_sl, cells_u8, cells_u16, cells_agg, get_upd_is, Option.isSome_some, upd_upd, ev1_nchkV, ev1_faV, nchkV_ptr, faV_ptr, ev1_extV, extV_tup, eqptr_nil, eqptr_ptr, Nat.zero_add, Nat.add_zero, qPL0, qPL1, qPL2, qPL3, qPL4, qPL5, beq_self_eq_true]
                first | done | rfl
              · simp only [M26b0, E26n, hg, nx, dc, sl, st, w1, q1, q2, q3, i32_eqlr, ev1_slsV, ev1_nxtV, nxtV_ptr, ev1_extV, qES0, qES1, qES2, env0, List.length_cons, List.length_nil, Nat.reduceAdd, Nat.reduceSub, List.replicate, List.cons_append, List.nil_append, opd, Env.put, Env.at, List.set_cons_zero, List.set_cons_succ, List.getD_cons_zero, List.getD_cons_succ, freezeL, resVs, oneOr, Option.map_some, Option.map_none, List.map_cons, List.map_nil, if_true, if_false, Bool.not_true, Bool.not_false, Bool.false_eq_true, reduceIte, decide_true, decide_false, Int.reduceLT, Int.reduceLE, Int.reduceGT, Int.reduceGE, Int.reduceEq, Int.reduceBEq, Int.reduceBNe, load_ptr, ldV_some, cellAt_cells, List.getElem?_cons_zero, List.getElem?_cons_succ, store_ptr, stO_some, setAt_0, setAt_1, setAt_2, setAt_3, setAt_4, setAt_5, setAt_6, setAt_7, setAt_8, setAt_9, setAt_10, setAt_11, setAt_12, cells_int, cells_bool, cells_str, cells_nils, cells_nilp, cells_ptr, cells_sl, cells_u8, cells_u16, cells_agg, get_upd_is, Option.isSome_some, upd_upd, ev1_nchkV, ev1_faV, nchkV_ptr, faV_ptr, ev1_extV, extV_tup, eqptr_nil, eqptr_ptr, Nat.zero_add, Nat.add_zero, qPL0, qPL1, qPL2, qPL3, qPL4, qPL5, beq_self_eq_true] at hh
                cases hh
            · left
              have q3 : (((d.2 : Nat) : Int) == 1) = false := by simp; omega
              rw [if_neg (by rintro (h | h); exact g3 h.2; exact g1 h)] at h4
              simp only [M26b0, E26n, hg, nx, dc, sl, st, w1, q1, q2, q3, i32_eqlr, ev1_slsV, ev1_nxtV, nxtV_ptr, ev1_extV, qES0, qES1, qES2, env0, List.length_cons, List.length_nil, Nat.reduceAdd, Nat.reduceSub, List.replicate, List.cons_append, List.nil_append, opd, Env.put, Env.at, List.set_cons_zero, List.set_cons_succ, List.getD_cons_zero, List.getD_cons_succ, freezeL, resVs, oneOr, Option.map_some, Option.map_none, List.map_cons, List.map_nil, if_true, if_false, Bool.not_true, Bool.not_false, Bool.false_eq_true, reduceIte, decide_true, decide_false, Int.reduceLT, Int.reduceLE, Int.reduceGT, Int.reduceGE, Int.reduceEq, Int.reduceBEq, Int.reduceBNe, load_ptr, ldV_some, cellAt_cells, List.getElem?_cons_zero, List.getElem?_cons_succ, store_ptr, stO_some, setAt_0, setAt_1, setAt_2, setAt_3, setAt_4, setAt_5, setAt_6, setAt_7, setAt_8, setAt_9, setAt_10, setAt_11, setAt_12, cells_int, cells_bool, cells_str, cells_nils, cells_nilp, cells_ptr, cells_sl, cells_u8, cells_u16, cells_agg, get_upd_is, Option.isSome_some, upd_upd, ev1_nchkV, ev1_faV, nchkV_ptr, faV_ptr, ev1_extV, extV_tup, eqptr_nil, eqptr_ptr, Nat.zero_add, Nat.add_zero, qPL0, qPL1, qPL2, qPL3, qPL4, qPL5, beq_self_eq_true]
              exact ⟨_, _, rfl, p + d.2, rfl, rfl, by omega, h4⟩
          · left
            have q2 : (((d.1 : Nat) : Int) == 65533) = false := by simp; omega
            rw [if_neg (by rintro (h | h); exact g2 h.1; exact g1 h)] at h4
            simp only [M26b0, E26n, hg, nx, dc, sl, st, w1, q1, q2, i32_eqlr, ev1_slsV, ev1_nxtV, nxtV_ptr, ev1_extV, qES0, qES1, qES2, env0, List.length_cons, List.length_nil, Nat.reduceAdd, Nat.reduceSub, List.replicate, List.cons_append, List.nil_append, opd, Env.put, Env.at, List.set_cons_zero, List.set_cons_succ, List.getD_cons_zero, List.getD_cons_succ, freezeL, resVs, oneOr, Option.map_some, Option.map_none, List.map_cons, List.map_nil, if_true, if_false, Bool.not_true, Bool.not_false, Bool.false_eq_true, reduceIte, decide_true, decide_false, Int.reduceLT, Int.reduceLE, Int.reduceGT, Int.reduceGE, Int.reduceEq, Int.reduceBEq, Int.reduceBNe, load_ptr, ldV_some, cellAt_cells, List.getElem?_cons_zero, List.getElem?_cons_succ, store_ptr, stO_some, setAt_0, setAt_1, setAt_2, setAt_3, setAt_4, setAt_5, setAt_6, setAt_7, setAt_8, setAt_9, setAt_10, setAt_11, setAt_12, cells_int, cells_bool, cells_str, cells_nils, cells_nilp, cells_ptr, cells_sl, cells_u8, cells_u16, cells_agg, get_upd_is, Option.isSome_some, upd_upd, ev1_nchkV, ev1_faV, nchkV_ptr, faV_ptr, ev1_extV, extV_tup, eqptr_nil, eqptr_ptr, Nat.zero_add, Nat.add_zero, qPL0, qPL1, qPL2, qPL3, qPL4, qPL5, beq_self_eq_true]
            exact ⟨_, _, rfl, p + d.2, rfl, rfl, by omega, h4⟩
      · right
        rw [List.drop_eq_nil_of_le (by omega), rns_nil] at h4
        have hR' : l.take R = l := List.take_of_length_le (by rw [← h4]; show l.length ≤ p; omega)
        rw [hR']
        have nx := nxt_end S l p hp
        refine ⟨⟨p, ?_⟩, fun e' s' hh => ?_⟩
        · simp only [M26, M26r0, M26b0, E26n, hg, nx, ev1_nxtV, nxtV_ptr, ev1_extV, qES0, qES1, qES2, env0, List.length_cons, List.length_nil, Nat.reduceAdd, Nat.reduceSub, List.replicate, List.cons_append, List.nil_append, opd, Env.put, Env.at, List.set_cons_zero, List.set_cons_succ, List.getD_cons_zero, List.getD_cons_succ, freezeL, resVs, oneOr, Option.map_some, Option.map_none, List.map_cons, List.map_nil, if_true, if_false, Bool.not_true, Bool.not_false, Bool.false_eq_true, reduceIte, decide_true, decide_false, Int.reduceLT, Int.reduceLE, Int.reduceGT, Int.reduceGE, Int.reduceEq, Int.reduceBEq, Int.reduceBNe, load_ptr, ldV_some, cellAt_cells, List.getElem?_cons_zero, List.getElem?_cons_succ, store_ptr, stO_some, setAt_0, setAt_1, setAt_2, setAt_3, setAt_4, setAt_5, setAt_6, setAt_7, setAt_8, setAt_9, setAt_10, setAt_11, setAt_12, cells_int, cells_bool, cells_str, cells_nils, cells_nilp, cells_ptr, cells_sl, cells_u8, cells_u16, cells_agg, get_upd_is, Option.isSome_some, upd_upd, ev1_nchkV, ev1_faV, nchkV_ptr, faV_ptr, ev1_extV, extV_tup, eqptr_nil, eqptr_ptr, Nat.zero_add, Nat.add_zero, qPL0, qPL1, qPL2, qPL3, qPL4, qPL5, beq_self_eq_true]
          first | done | rfl
        · simp only [M26b0, E26n, hg, nx, ev1_nxtV, nxtV_ptr, ev1_extV, qES0, qES1, qES2, env0, List.length_cons, List.length_nil, Nat.reduceAdd, Nat.reduceSub, List.replicate, List.cons_append, List.nil_append, opd, Env.put, Env.at, List.set_cons_zero, List.set_cons_succ, List.getD_cons_zero, List.getD_cons_succ, freezeL, resVs, oneOr, Option.map_some, Option.map_none, List.map_cons, List.map_nil, if_true, if_false, Bool.not_true, Bool.not_false, Bool.false_eq_true, reduceIte, decide_true, decide_false, Int.reduceLT, Int.reduceLE, Int.reduceGT, Int.reduceGE, Int.reduceEq, Int.reduceBEq, Int.reduceBNe, load_ptr, ldV_some, cellAt_cells, List.getElem?_cons_zero, List.getElem?_cons_succ, store_ptr, stO_some, setAt_0, setAt_1, setAt_2, setAt_3, setAt_4, setAt_5, setAt_6, setAt_7, setAt_8, setAt_9, setAt_10, setAt_11, setAt_12, cells_int, cells_bool, cells_str, cells_nils, cells_nilp, cells_ptr, cells_sl, cells_u8, cells_u16, cells_agg, get_upd_is, Option.isSome_some, upd_upd, ev1_nchkV, ev1_faV, nchkV_ptr, faV_ptr, ev1_extV, extV_tup, eqptr_nil, eqptr_ptr, Nat.zero_add, Nat.add_zero, qPL0, qPL1, qPL2, qPL3, qPL4, qPL5, beq_self_eq_true] at hh
          cases hh
    · rintro e st ⟨p, h1, rfl, h3, h4⟩
      rw [h1]
      have hg : (S.pl [.iter l p]).get S.next = some (.iter l p) := plg0 _ _ _
      rw [List.drop_eq_nil_of_le (by omega), rns_nil] at h4
      have hR' : l.take R = l := List.take_of_length_le (by rw [← h4]; show l.length ≤ p; omega)
      rw [hR']
      have nx := nxt_end S l p (by omega)
      refine ⟨⟨p, ?_⟩, fun e' s' hh => ?_⟩
      · simp only [M26, M26r0, M26b0, E26n, hg, nx, ev1_nxtV, nxtV_ptr, ev1_extV, qES0, qES1, qES2, env0, List.length_cons, List.length_nil, Nat.reduceAdd, Nat.reduceSub, List.replicate, List.cons_append, List.nil_append, opd, Env.put, Env.at, List.set_cons_zero, List.set_cons_succ, List.getD_cons_zero, List.getD_cons_succ, freezeL, resVs, oneOr, Option.map_some, Option.map_none, List.map_cons, List.map_nil, if_true, if_false, Bool.not_true, Bool.not_false, Bool.false_eq_true, reduceIte, decide_true, decide_false, Int.reduceLT, Int.reduceLE, Int.reduceGT, Int.reduceGE, Int.reduceEq, Int.reduceBEq, Int.reduceBNe, load_ptr, ldV_some, cellAt_cells, List.getElem?_cons_zero, List.getElem?_cons_succ, store_ptr, stO_some, setAt_0, setAt_1, setAt_2, setAt_3, setAt_4, setAt_5, setAt_6, setAt_7, setAt_8, setAt_9, setAt_10, setAt_11, setAt_12, cells_int, cells_bool, cells_str, cells_nils, cells_nilp, cells_ptr, cells_sl, cells_u8, cells_u16, cells_agg, get_upd_is, Option.isSome_some, upd_upd, ev1_nchkV, ev1_faV, nchkV_ptr, faV_ptr, ev1_extV, extV_tup, eqptr_nil, eqptr_ptr, Nat.zero_add, Nat.add_zero, qPL0, qPL1, qPL2, qPL3, qPL4, qPL5, beq_self_eq_true]
        first | done | rfl
      · simp only [M26b0, E26n, hg, nx, ev1_nxtV, nxtV_ptr, ev1_extV, qES0, qES1, qES2, env0, List.length_cons, List.length_nil, Nat.reduceAdd, Nat.reduceSub, List.replicate, List.cons_append, List.nil_append, opd, Env.put, Env.at, List.set_cons_zero, List.set_cons_succ, List.getD_cons_zero, List.getD_cons_succ, freezeL, resVs, oneOr, Option.map_some, Option.map_none, List.map_cons, List.map_nil, if_true, if_false, Bool.not_true, Bool.not_false, Bool.false_eq_true, reduceIte, decide_true, decide_false, Int.reduceLT, Int.reduceLE, Int.reduceGT, Int.reduceGE, Int.reduceEq, Int.reduceBEq, Int.reduceBNe, load_ptr, ldV_some, cellAt_cells, List.getElem?_cons_zero, List.getElem?_cons_succ, store_ptr, stO_some, setAt_0, setAt_1, setAt_2, setAt_3, setAt_4, setAt_5, setAt_6, setAt_7, setAt_8, setAt_9, setAt_10, setAt_11, setAt_12, cells_int, cells_bool, cells_str, cells_nils, cells_nilp, cells_ptr, cells_sl, cells_u8, cells_u16, cells_agg, get_upd_is, Option.isSome_some, upd_upd, ev1_nchkV, ev1_faV, nchkV_ptr, faV_ptr, ev1_extV, extV_tup, eqptr_nil, eqptr_ptr, Nat.zero_add, Nat.add_zero, qPL0, qPL1, qPL2, qPL3, qPL4, qPL5, beq_self_eq_true] at hh
        cases hh
  simp only [M26, ev1_rngV, rngV_str, evC_loop, qES0, qES1, qES2, env0, List.length_cons, List.length_nil, Nat.reduceAdd, Nat.reduceSub, List.replicate, List.cons_append, List.nil_append, opd, Env.put, Env.at, List.set_cons_zero, List.set_cons_succ, List.getD_cons_zero, List.getD_cons_succ, freezeL, resVs, oneOr, Option.map_some, Option.map_none, List.map_cons, List.map_nil, if_true, if_false, Bool.not_true, Bool.not_false, Bool.false_eq_true, reduceIte, decide_true, decide_false, Int.reduceLT, Int.reduceLE, Int.reduceGT, Int.reduceGE, Int.reduceEq, Int.reduceBEq, Int.reduceBNe, load_ptr, ldV_some, cellAt_cells, List.getElem?_cons_zero, List.getElem?_cons_succ, store_ptr, stO_some, setAt_0, setAt_1, setAt_2, setAt_3, setAt_4, setAt_5, setAt_6, setAt_7, setAt_8, setAt_9, setAt_10, setAt_11, setAt_12, cells_int, cells_bool, cells_str, cells_nils, cells_nilp, cells_ptr, cells_sl, cells_u8, cells_u16, cells_agg, get_upd_is, Option.isSome_some, upd_upd, ev1_nchkV, ev1_faV, nchkV_ptr, faV_ptr, ev1_extV, extV_tup, eqptr_nil, eqptr_ptr, Nat.zero_add, Nat.add_zero, qPL0, qPL1, qPL2, qPL3, qPL4, qPL5, beq_self_eq_true]
  exact key _ rfl
/-! Plain. -/
theorem kind3 (r : Nat) : kindOf (r : Nat) = 0 ∨ kindOf (r : Nat) = 4 ∨ (kindOf (r : Nat) ≠ 0 ∧ kindOf (r : Nat) ≠ 4 ∧ r < 128) := by
  unfold kindOf
  by_cases h1 : (97 ≤ (r : Int) ∧ (r : Int) ≤ 122) ∨ (65 ≤ (r : Int) ∧ (r : Int) ≤ 90)
  · rw [if_pos h1]; exact .inr (.inr ⟨by decide, by decide, by omega⟩)
  · rw [if_neg h1]
    by_cases h2 : 48 ≤ (r : Int) ∧ (r : Int) ≤ 57
    · rw [if_pos h2]; exact .inr (.inr ⟨by decide, by decide, by omega⟩)
    · rw [if_neg h2]
      by_cases h3 : 32 ≤ (r : Int) ∧ (r : Int) ≤ 126
      · rw [if_pos h3]; exact .inr (.inr ⟨by decide, by decide, by omega⟩)
      · rw [if_neg h3]
        split
        · exact .inr (.inl rfl)
        · exact .inl rfl
theorem kind63 : kindOf 63 ≠ 0 ∧ kindOf 63 ≠ 4 := by decide
def asc (bs : List UInt8) : List AV := bs.map fun b => .int .i32 (b.toNat : Int)
theorem asc_app (a b : List UInt8) : asc (a ++ b) = asc a ++ asc b := List.map_append
theorem enc_asc (b : UInt8) (h : b.toNat < 128) : (Utf8.encode (b.toNat : Int)).data.toList = [b] := by
  have hv : Utf8.valid (b.toNat : Int) = true := by
    unfold Utf8.valid
    rw [Bool.or_eq_true, Bool.and_eq_true, decide_eq_true_eq, decide_eq_true_eq]
    exact .inl ⟨by omega, by omega⟩
  unfold Utf8.encode
  simp only [hv, if_true, Int.toNat_natCast]
  rw [if_pos (by omega)]
  simp
theorem runes_asc : ∀ (bs : List UInt8), (∀ b ∈ bs, b.toNat < 128) → Ab.runes (asc bs) = some bs
  | [], _ => rfl
  | b :: bs, h => by
    have ih := runes_asc bs (fun c hc => h c (List.mem_cons_of_mem _ hc))
    show (match Ab.runes (asc bs) with
      | some l => some ((Utf8.encode (b.toNat : Int)).data.toList ++ l)
      | none => none) = _
    rw [ih, enc_asc b (h b List.mem_cons_self)]
    rfl
/-- Objects that are no counters stay. -/
def KeepI (s s' : St) : Prop := s.next ≤ s'.next ∧ ∀ b l p, b < s.next → s.get b = some (.iter l p) → s'.get b = some (.iter l p)
theorem OwnG.appI {size bytes : Nat} {s : St} {x y : AV} {cs ds : List AV} {n m : Nat} (h : OwnG size s x cs n) (g : newsOf size s y = some (ds, m)) (hd : ds.length = m * size) (hm : m ≠ 0) (hf : fits (n + m) bytes = true) :
    ∃ z s', appV false size bytes s x y = some (z, s') ∧ OwnG size s' z (cs ++ ds) (n + m) ∧ KeepI s s' := by
  rcases h with ⟨rfl, rfl, rfl⟩ | ⟨hp, t, v, rfl, h0, h1, h2⟩
  · refine ⟨_, _, by simp only [appV, g, appS, hm, Bool.false_and, if_false, Bool.false_eq_true]; rw [if_pos (by simpa using hf)], .inr ⟨by omega, s.next, 0, by simp, by simpa using hd, by simp [St.new], get_new_eq _ _⟩, by simp [St.new], fun b l p hb hg => by rw [get_new_ne _ _ (by omega)]; exact hg⟩
  · refine ⟨.sl (cs ++ ds) (n + m) (some (t, v + 1, size)), s.upd t (.tick size (v + 1)), ?_, .inr ⟨by omega, t, v + 1, rfl, by rw [List.length_append, h0, hd, Nat.add_mul], h1, get_upd_eq _ _ h2⟩, Nat.le_refl _, fun b l p hb hg => by rw [get_upd_ne _ _ (fun hh => by rw [hh, h2] at hg; cases hg)]; exact hg⟩
    simp only [appV, g, appS, h2, Bool.false_and, if_false, Bool.false_eq_true]
    rw [if_pos ⟨trivial, trivial, h0, hf⟩]
theorem OwnG.updI {size : Nat} {s : St} {x : AV} {cs : List AV} {n : Nat} (h : OwnG size s x cs n) {b : Nat} {l : List UInt8} {p : Nat} (hg : s.get b = some (.iter l p)) (o : Ab.Obj) : OwnG size (s.upd b o) x cs n := by
  rcases h with h | ⟨hp, t, v, h, h0, h1, h2⟩
  · exact .inl h
  · exact .inr ⟨hp, t, v, h, h0, h1, by rw [get_upd_ne _ _ (fun hh => by rw [hh, hg] at h2; cases h2)]; exact h2⟩
theorem own_r2s {s : St} {x : AV} {bs : List UInt8} (h : OwnG 1 s x (asc bs) bs.length) (ha : ∀ b ∈ bs, b.toNat < 128) : convP .r2s x = some (.str bs) := by
  rcases h with ⟨rfl, h1, _⟩ | ⟨hp, t, v, rfl, h0, h1, h2⟩
  · have : bs = [] := List.length_eq_zero_iff.1 h1
    subst this; rfl
  · show (if (asc bs).length = bs.length then (Ab.runes (asc bs)).map AV.str else none) = _
    rw [if_pos (by simp [asc]), runes_asc bs ha]
    rfl
def E28n (acc : AV) (b : Nat) : Env := [.undef, .undef, .undef, acc, .undef, .undef, .undef, .undef, .ptr b 0, .undef, .undef, .undef, .undef, .undef, .undef, .undef, .undef, .undef, .undef, .undef, .undef, .undef, .undef, .undef, .undef, .undef]
theorem nplain_gen (k : Nat) (l : List UInt8) (hl : l.length ≤ 1000) (S : St) : ∃ S', evN (k + l.length + 3) 28 [.str l] S = some (.str (plainR kindOf l), S') := by
  rw [show k + l.length + 3 = (k + l.length + 2) + 1 from rfl, evN_in rfl tab28, show S = S.pl [] from rfl]
  obtain ⟨R, hR⟩ : ∃ R, plainR kindOf l = R := ⟨_, rfl⟩
  have hRl : R.length ≤ l.length := by rw [← hR, plain_len]; exact rns_len l
  have hRa : ∀ b ∈ R, b.toNat < 128 := by
    rw [← hR]
    intro b hb
    obtain ⟨d, _, rfl⟩ := List.mem_map.1 hb
    exact (plainB_spec kind3 kind63 d).1
  rw [hR]
  have key : ∀ e, maskE M28b0l e = E28n .nils S.next → ∃ S', outR M28.res (seqR (blockR 0 (iter (evC tabGl (evN (k + l.length + 2)) (k + l.length + 2) M28b0) M28b0l (k + l.length + 2) e (S.pl [.iter l 0]))) (evC tabGl (evN (k + l.length + 2)) (k + l.length + 2) M28r0)) = some (.str R, S') := by
    intro e he
    refine iter_leave (evC tabGl (evN (k + l.length + 2)) (k + l.length + 2) M28b0) M28b0l (fun i e st => ∃ p acc done, maskE M28b0l e = E28n acc S.next ∧ OwnG 1 st acc (asc done) done.length ∧ st.get S.next = some (.iter l p) ∧ S.next < st.next ∧ i ≤ p ∧ done ++ (rns (l.drop p)).map (plainB kindOf) = R)
      (fun out => ∃ S', outR M28.res (seqR (blockR 0 out) (evC tabGl (evN (k + l.length + 2)) (k + l.length + 2) M28r0)) = some (.str R, S')) l.length ?_ ?_ l.length 0 _ _ (k + l.length + 2) (by omega) ⟨0, .nils, [], he, OwnG.nil _ _, plg0 _ _ _, by rw [pl_next]; simp, Nat.le_refl _, by rw [List.drop_zero]; exact hR⟩ (by omega)
    · rintro i e st hi ⟨p, acc, done, h1, ho, hg, hlt, h3, h4⟩
      rw [h1]
      by_cases hp : p < l.length
      · left
        obtain ⟨b, t, hbt⟩ := drop_cons hp
        have hw := dec_w b t
        rw [hbt, rns_cons, drop_next hbt, List.map_cons] at h4
        have nx : nxtS (st.pl []) S.next (some (.iter l p)) = some (.tup [.bool true, .int .i64 p, .int .i32 ((decT b t).1 : Nat)], (st.upd S.next (.iter l (p + (decT b t).2))).pl []) := by
          simp only [nxtS]
          rw [if_pos hp, dec_drop l p b t hbt]
          rfl
        have hg' : (st.pl []).get S.next = some (.iter l p) := hg
        have o1 := OwnG.updI ho hg (.iter l (p + (decT b t).2))
        have g1 : (st.upd S.next (.iter l (p + (decT b t).2))).get S.next = some (.iter l (p + (decT b t).2)) := get_upd_eq _ _ hg
        have l1 : S.next < (st.upd S.next (.iter l (p + (decT b t).2))).next := hlt
        generalize st.upd S.next (.iter l (p + (decT b t).2)) = st1 at *
        generalize decT b t = d at *
        have hdl : done.length ≤ 2000 := by have := congrArg List.length h4; simp at this; omega
        have kd := n_kind (k + l.length + 1) (d.1 : Nat)
        obtain ⟨z, st2, a1, a2, a3⟩ := OwnG.appI (o1.ext (pl_ext st1 [.tick 1 0])) (bytes := 4) (y := .sl [.int .i32 ((plainB kindOf d).toNat : Int)] 1 (some (st1.next, 0, 1))) (ds := [.int .i32 ((plainB kindOf d).toNat : Int)]) (m := 1) rfl rfl (by decide) (by simp [fits]; omega)
        have fin : OwnG 1 st2 z (asc (done ++ [plainB kindOf d])) (done ++ [plainB kindOf d]).length := by
          rw [asc_app, List.length_append]; exact a2
        have g2 : st2.get S.next = some (.iter l (p + d.2)) := a3.2 _ _ _ (by rw [pl_next]; omega) (((pl_ext st1 _).get _ l1).trans g1)
        have l2 : S.next < st2.next := by have := a3.1; rw [pl_next] at this; omega
        have e4 : (done ++ [plainB kindOf d]) ++ (rns (l.drop (p + d.2))).map (plainB kindOf) = R := by rw [List.append_assoc]; exact h4
        rw [show st = st.pl [] from rfl]
        rcases kind3 d.1 with hk | hk | ⟨hk0, hk4, hk⟩
        · have q1 : (kindOf (d.1 : Nat) == 0) = true := by simp [hk]
          have pb : ((plainB kindOf d).toNat : Int) = 63 := by unfold plainB; rw [if_pos (.inl hk)]; rfl
          rw [pb] at a1
          simp only [M28b0, E28n, hg', nx, kd, q1, a1, ev1_nxtV, nxtV_ptr, ev1_extV, qES0, qES1, qES2, env0, List.length_cons, List.length_nil, Nat.reduceAdd, Nat.reduceSub, List.replicate, List.cons_append, List.nil_append, opd, Env.put, Env.at, List.set_cons_zero, List.set_cons_succ, List.getD_cons_zero, List.getD_cons_succ, freezeL, resVs, oneOr, Option.map_some, Option.map_none, List.map_cons, List.map_nil, if_true, if_false, Bool.not_true, Bool.not_false, Bool.false_eq_true, reduceIte, decide_true, decide_false, Int.reduceLT, Int.reduceLE, Int.reduceGT, Int.reduceGE, Int.reduceEq, Int.reduceBEq, Int.reduceBNe, load_ptr, ldV_some, cellAt_cells, List.getElem?_cons_zero, List.getElem?_cons_succ, store_ptr, stO_some, setAt_0, setAt_1, setAt_2, setAt_3, setAt_4, setAt_5, setAt_6, setAt_7, setAt_8, setAt_9, setAt_10, setAt_11, setAt_12, cells_int, cells_bool, cells_str, cells_nils, cells_nilp, cells_ptr, cells_sl, cells_u8, cells_u16, cells_agg, get_upd_is, Option.isSome_some, upd_upd, ev1_nchkV, ev1_faV, nchkV_ptr, faV_ptr, ev1_extV, extV_tup, eqptr_nil, eqptr_ptr, Nat.zero_add, Nat.add_zero, qPL0, qPL1, qPL2, qPL3, qPL4, qPL5, beq_self_eq_true]
          exact ⟨_, _, rfl, p + d.2, z, _, rfl, fin, g2, l2, by omega, e4⟩
        · have q1 : (kindOf (d.1 : Nat) == 0) = false := by simp [hk]
          have q2 : (kindOf (d.1 : Nat) == 4) = true := by simp [hk]
          have pb : ((plainB kindOf d).toNat : Int) = 63 := by unfold plainB; rw [if_pos (.inr hk)]; rfl
          rw [pb] at a1
          simp only [M28b0, E28n, hg', nx, kd, q1, q2, a1, ev1_nxtV, nxtV_ptr, ev1_extV, qES0, qES1, qES2, env0, List.length_cons, List.length_nil, Nat.reduceAdd, Nat.reduceSub, List.replicate, List.cons_append, List.nil_append, opd, Env.put, Env.at, List.set_cons_zero, List.set_cons_succ, List.getD_cons_zero, List.getD_cons_succ, freezeL, resVs, oneOr, Option.map_some, Option.map_none, List.map_cons, List.map_nil, if_true, if_false, Bool.not_true, Bool.not_false, Bool.false_eq_true, reduceIte, decide_true, decide_false, Int.reduceLT, Int.reduceLE, Int.reduceGT, Int.reduceGE, Int.reduceEq, Int.reduceBEq, Int.reduceBNe, load_ptr, ldV_some, cellAt_cells, List.getElem?_cons_zero, List.getElem?_cons_succ, store_ptr, stO_some, setAt_0, setAt_1, setAt_2, setAt_3, setAt_4, setAt_5, setAt_6, setAt_7, setAt_8, setAt_9, setAt_10, setAt_11, setAt_12, cells_int, cells_bool, cells_str, cells_nils, cells_nilp, cells_ptr, cells_sl, cells_u8, cells_u16, cells_agg, get_upd_is, Option.isSome_some, upd_upd, ev1_nchkV, ev1_faV, nchkV_ptr, faV_ptr, ev1_extV, extV_tup, eqptr_nil, eqptr_ptr, Nat.zero_add, Nat.add_zero, qPL0, qPL1, qPL2, qPL3, qPL4, qPL5, beq_self_eq_true]
          exact ⟨_, _, rfl, p + d.2, z, _, rfl, fin, g2, l2, by omega, e4⟩
        · have q1 : (kindOf (d.1 : Nat) == 0) = false := by simp [hk0]
          have q2 : (kindOf (d.1 : Nat) == 4) = false := by simp [hk4]
          have pb : ((plainB kindOf d).toNat : Int) = (d.1 : Nat) := by
            unfold plainB
            rw [if_neg (by rintro (h | h); exact hk0 h; exact hk4 h)]
            simp; omega
          rw [pb] at a1
          simp only [M28b0, E28n, hg', nx, kd, q1, q2, a1, ev1_nxtV, nxtV_ptr, ev1_extV, qES0, qES1, qES2, env0, List.length_cons, List.length_nil, Nat.reduceAdd, Nat.reduceSub, List.replicate, List.cons_append, List.nil_append, opd, Env.put, Env.at, List.set_cons_zero, List.set_cons_succ, List.getD_cons_zero, List.getD_cons_succ, freezeL, resVs, oneOr, Option.map_some, Option.map_none, List.map_cons, List.map_nil, if_true, if_false, Bool.not_true, Bool.not_false, Bool.false_eq_true, reduceIte, decide_true, decide_false, Int.reduceLT, Int.reduceLE, Int.reduceGT, Int.reduceGE, Int.reduceEq, Int.reduceBEq, Int.reduceBNe, load_ptr, ldV_some, cellAt_cells, List.getElem?_cons_zero, List.getElem?_cons_succ, store_ptr, stO_some, setAt_0, setAt_1, setAt_2, setAt_3, setAt_4, setAt_5, setAt_6, setAt_7, setAt_8, setAt_9, setAt_10, setAt_11, setAt_12, cells_int, cells_bool, cells_str, cells_nils, cells_nilp, cells_ptr, cells_sl, cells_u8, cells_u16, cells_agg, get_upd_is, Option.isSome_some, upd_upd, ev1_nchkV, ev1_faV, nchkV_ptr, faV_ptr, ev1_extV, extV_tup, eqptr_nil, eqptr_ptr, Nat.zero_add, Nat.add_zero, qPL0, qPL1, qPL2, qPL3, qPL4, qPL5, beq_self_eq_true]
          exact ⟨_, _, rfl, p + d.2, z, _, rfl, fin, g2, l2, by omega, e4⟩
      · right
        rw [List.drop_eq_nil_of_le (by omega), rns_nil, List.map_nil, List.append_nil] at h4
        subst h4
        have nx : nxtS (st.pl []) S.next (some (.iter l p)) = some (.tup [.bool false], st.pl []) := by
          simp only [nxtS]
          rw [if_neg hp]
        have hg' : (st.pl []).get S.next = some (.iter l p) := hg
        have cv := own_r2s ho hRa
        rw [show st = st.pl [] from rfl]
        refine ⟨⟨st, ?_⟩, fun e' s' hh => ?_⟩
        · simp only [M28, M28r0, M28b0, E28n, hg', nx, cv, ev1_nxtV, nxtV_ptr, ev1_extV, qES0, qES1, qES2, env0, List.length_cons, List.length_nil, Nat.reduceAdd, Nat.reduceSub, List.replicate, List.cons_append, List.nil_append, opd, Env.put, Env.at, List.set_cons_zero, List.set_cons_succ, List.getD_cons_zero, List.getD_cons_succ, freezeL, resVs, oneOr, Option.map_some, Option.map_none, List.map_cons, List.map_nil, if_true, if_false, Bool.not_true, Bool.not_false, Bool.false_eq_true, reduceIte, decide_true, decide_false, Int.reduceLT, Int.reduceLE, Int.reduceGT, Int.reduceGE, Int.reduceEq, Int.reduceBEq, Int.reduceBNe, load_ptr, ldV_some, cellAt_cells, List.getElem?_cons_zero, List.getElem?_cons_succ, store_ptr, stO_some, setAt_0, setAt_1, setAt_2, setAt_3, setAt_4, setAt_5, setAt_6, setAt_7, setAt_8, setAt_9, setAt_10, setAt_11, setAt_12, cells_int, cells_bool, cells_str, cells_nils, cells_nilp, cells_ptr, cells_sl, cells_u8, cells_u16, cells_agg, get_upd_is, Option.isSome_some, upd_upd, ev1_nchkV, ev1_faV, nchkV_ptr, faV_ptr, ev1_extV, extV_tup, eqptr_nil, eqptr_ptr, Nat.zero_add, Nat.add_zero, qPL0, qPL1, qPL2, qPL3, qPL4, qPL5, beq_self_eq_true]
          first | done | rfl
        · simp only [M28b0, E28n, hg', nx, ev1_nxtV, nxtV_ptr, ev1_extV, qES0, qES1, qES2, env0, List.length_cons, List.length_nil, Nat.reduceAdd, Nat.reduceSub, List.replicate, List.cons_append, List.nil_append, opd, Env.put, Env.at, List.set_cons_zero, List.set_cons_succ, List.getD_cons_zero, List.getD_cons_succ, freezeL, resVs, oneOr, Option.map_some, Option.map_none, List.map_cons, List.map_nil, if_true, if_false, Bool.not_true, Bool.not_false, Bool.false_eq_true, reduceIte, decide_true, decide_false, Int.reduceLT, Int.reduceLE, Int.reduceGT, Int.reduceGE, Int.reduceEq, Int.reduceBEq, Int.reduceBNe, load_ptr, ldV_some, cellAt_cells, List.getElem?_cons_zero, List.getElem?_cons_succ, store_ptr, stO_some, setAt_0, setAt_1, setAt_2, setAt_3, setAt_4, setAt_5, setAt_6, setAt_7, setAt_8, setAt_9, setAt_10, setAt_11, setAt_12, cells_int, cells_bool, cells_str, cells_nils, cells_nilp, cells_ptr, cells_sl, cells_u8, cells_u16, cells_agg, get_upd_is, Option.isSome_some, upd_upd, ev1_nchkV, ev1_faV, nchkV_ptr, faV_ptr, ev1_extV, extV_tup, eqptr_nil, eqptr_ptr, Nat.zero_add, Nat.add_zero, qPL0, qPL1, qPL2, qPL3, qPL4, qPL5, beq_self_eq_true] at hh
          cases hh
    · rintro e st ⟨p, acc, done, h1, ho, hg, hlt, h3, h4⟩
      rw [h1]
      rw [List.drop_eq_nil_of_le (by omega), rns_nil, List.map_nil, List.append_nil] at h4
      subst h4
      have nx : nxtS (st.pl []) S.next (some (.iter l p)) = some (.tup [.bool false], st.pl []) := by
        simp only [nxtS]
        rw [if_neg (by omega)]
      have hg' : (st.pl []).get S.next = some (.iter l p) := hg
      have cv := own_r2s ho hRa
      rw [show st = st.pl [] from rfl]
      refine ⟨⟨st, ?_⟩, fun e' s' hh => ?_⟩
      · simp only [M28, M28r0, M28b0, E28n, hg', nx, cv, ev1_nxtV, nxtV_ptr, ev1_extV, qES0, qES1, qES2, env0, List.length_cons, List.length_nil, Nat.reduceAdd, Nat.reduceSub, List.replicate, List.cons_append, List.nil_append, opd, Env.put, Env.at, List.set_cons_zero, List.set_cons_succ, List.getD_cons_zero, List.getD_cons_succ, freezeL, resVs, oneOr, Option.map_some, Option.map_none, List.map_cons, List.map_nil, if_true, if_false, Bool.not_true, Bool.not_false, Bool.false_eq_true, reduceIte, decide_true, decide_false, Int.reduceLT, Int.reduceLE, Int.reduceGT, Int.reduceGE, Int.reduceEq, Int.reduceBEq, Int.reduceBNe, load_ptr, ldV_some, cellAt_cells, List.getElem?_cons_zero, List.getElem?_cons_succ, store_ptr, stO_some, setAt_0, setAt_1, setAt_2, setAt_3, setAt_4, setAt_5, setAt_6, setAt_7, setAt_8, setAt_9, setAt_10, setAt_11, setAt_12, cells_int, cells_bool, cells_str, cells_nils, cells_nilp, cells_ptr, cells_sl, cells_u8, cells_u16, cells_agg, get_upd_is, Option.isSome_some, upd_upd, ev1_nchkV, ev1_faV, nchkV_ptr, faV_ptr, ev1_extV, extV_tup, eqptr_nil, eqptr_ptr, Nat.zero_add, Nat.add_zero, qPL0, qPL1, qPL2, qPL3, qPL4, qPL5, beq_self_eq_true]
        first | done | rfl
      · simp only [M28b0, E28n, hg', nx, ev1_nxtV, nxtV_ptr, ev1_extV, qES0, qES1, qES2, env0, List.length_cons, List.length_nil, Nat.reduceAdd, Nat.reduceSub, List.replicate, List.cons_append, List.nil_append, opd, Env.put, Env.at, List.set_cons_zero, List.set_cons_succ, List.getD_cons_zero, List.getD_cons_succ, freezeL, resVs, oneOr, Option.map_some, Option.map_none, List.map_cons, List.map_nil, if_true, if_false, Bool.not_true, Bool.not_false, Bool.false_eq_true, reduceIte, decide_true, decide_false, Int.reduceLT, Int.reduceLE, Int.reduceGT, Int.reduceGE, Int.reduceEq, Int.reduceBEq, Int.reduceBNe, load_ptr, ldV_some, cellAt_cells, List.getElem?_cons_zero, List.getElem?_cons_succ, store_ptr, stO_some, setAt_0, setAt_1, setAt_2, setAt_3, setAt_4, setAt_5, setAt_6, setAt_7, setAt_8, setAt_9, setAt_10, setAt_11, setAt_12, cells_int, cells_bool, cells_str, cells_nils, cells_nilp, cells_ptr, cells_sl, cells_u8, cells_u16, cells_agg, get_upd_is, Option.isSome_some, upd_upd, ev1_nchkV, ev1_faV, nchkV_ptr, faV_ptr, ev1_extV, extV_tup, eqptr_nil, eqptr_ptr, Nat.zero_add, Nat.add_zero, qPL0, qPL1, qPL2, qPL3, qPL4, qPL5, beq_self_eq_true] at hh
        cases hh
  simp only [M28, ev1_rngV, rngV_str, evC_loop, qES0, qES1, qES2, env0, List.length_cons, List.length_nil, Nat.reduceAdd, Nat.reduceSub, List.replicate, List.cons_append, List.nil_append, opd, Env.put, Env.at, List.set_cons_zero, List.set_cons_succ, List.getD_cons_zero, List.getD_cons_succ, freezeL, resVs, oneOr, Option.map_some, Option.map_none, List.map_cons, List.map_nil, if_true, if_false, Bool.not_true, Bool.not_false, Bool.false_eq_true, reduceIte, decide_true, decide_false, Int.reduceLT, Int.reduceLE, Int.reduceGT, Int.reduceGE, Int.reduceEq, Int.reduceBEq, Int.reduceBNe, load_ptr, ldV_some, cellAt_cells, List.getElem?_cons_zero, List.getElem?_cons_succ, store_ptr, stO_some, setAt_0, setAt_1, setAt_2, setAt_3, setAt_4, setAt_5, setAt_6, setAt_7, setAt_8, setAt_9, setAt_10, setAt_11, setAt_12, cells_int, cells_bool, cells_str, cells_nils, cells_nilp, cells_ptr, cells_sl, cells_u8, cells_u16, cells_agg, get_upd_is, Option.isSome_some, upd_upd, ev1_nchkV, ev1_faV, nchkV_ptr, faV_ptr, ev1_extV, extV_tup, eqptr_nil, eqptr_ptr, Nat.zero_add, Nat.add_zero, qPL0, qPL1, qPL2, qPL3, qPL4, qPL5, beq_self_eq_true]
  exact key _ rfl
end Go.Proofs.YthcblggiojpmcaaDoor
