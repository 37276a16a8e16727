/- The document's Len, Cut and PlainNick, as the evaluator answers them; all of it known. No conditions. -/
import Derived.Test.YthcblggiojpmcaaDoorNkW
set_option linter.unusedSimpArgs false
set_option linter.unusedVariables false
set_option maxRecDepth 100000
set_option maxHeartbeats 4000000
namespace Go.Proofs.YthcblggiojpmcaaDoor
open Go Go.Ab
def E25r (t : List UInt8) (n : Int) : Env := [.str t, .undef, .undef, .int .i64 n, .undef, .undef, .undef, .undef, .undef, .undef, .undef, .undef, .undef, .undef, .undef, .undef, .undef, .undef, .undef, .undef, .undef]
theorem rlen_gen (k : Nat) (l : List UInt8) (hl : l.length ≤ 1000) (S : St) : evN (k + l.length + 3) 25 [.str l] S = some (.int .i64 ((rns l).length : Nat), S) := by
  rw [show k + l.length + 3 = (k + l.length + 2) + 1 from rfl, evN_in rfl tab25, show S = S.pl [] from rfl]
  obtain ⟨R, hR⟩ : ∃ R, (rns l).length = R := ⟨_, rfl⟩
  have hRl := rns_len l
  rw [hR] at hRl ⊢
  have key : ∀ e, maskE M25b0l e = E25r l 0 → outR M25.res (seqR (blockR 0 (iter (evC tabGl (evN (k + l.length + 2)) (k + l.length + 2) M25b0) M25b0l (k + l.length + 2) e (S.pl []))) (evC tabGl (evN (k + l.length + 2)) (k + l.length + 2) M25r0)) = some (.int .i64 (R : Nat), S.pl []) := by
    intro e he
    refine iter_leave (evC tabGl (evN (k + l.length + 2)) (k + l.length + 2) M25b0) M25b0l (fun i e st => ∃ p, maskE M25b0l e = E25r (l.drop p) (i : Int) ∧ st = S.pl [] ∧ i ≤ p ∧ i + (rns (l.drop p)).length = R)
      (fun out => outR M25.res (seqR (blockR 0 out) (evC tabGl (evN (k + l.length + 2)) (k + l.length + 2) M25r0)) = some (.int .i64 (R : Nat), S.pl [])) l.length ?_ ?_ l.length 0 _ _ (k + l.length + 2) (by omega) ⟨0, he, rfl, Nat.le_refl _, by rw [List.drop_zero, hR, Nat.zero_add]⟩ (by omega)
    · rintro i e st hi ⟨p, h1, rfl, h3, h4⟩
      rw [h1]
      by_cases hp : p < l.length
      · left
        obtain ⟨b, t, hbt⟩ := drop_cons hp
        have hw := dec_w b t
        have hlt : t.length ≤ 1000 := by have := congrArg List.length hbt; simp at this; omega
        have r1 : ∀ s, evN (k + l.length + 2) 64 [.str (b :: t)] s = some (runeV (decV (decT b t)), s) := fun s => n_rune1 (k + l.length + 1) b t hlt s
        have ne : binV .neq (.str (b :: t)) (.str []) = some (.bool true) := rfl
        have sl := slcS_from (b :: t) (decT b t).2 (by simp; omega)
        have w1 : IntKind.i64.wrap ((i : Int) + 1) = ((i + 1 : Nat) : Int) := (wrapI _ (by omega) (by omega)).trans (by omega)
        rw [drop_next hbt] at sl
        rw [hbt, rns_cons, drop_next hbt, List.length_cons] at h4
        rw [hbt]
        generalize decT b t = d at *
        have hd : ∃ r o, decV d = (r, d.2, o) := by
          unfold decV
          by_cases g : d.1 = 65533 ∧ d.2 = 1
          · rw [if_pos g, g.2]; exact ⟨_, _, rfl⟩
          · rw [if_neg g]; exact ⟨_, _, rfl⟩
        obtain ⟨r, o, hd⟩ := hd
        rw [hd] at r1
        simp only [runeV] at r1
        simp only [M25b0, E25r, r1, ne, sl, w1, ev1_slsV, ev1_extV, qES0, qES1, qES2, env0, List.length_cons, List.length_nil, Nat.reduceAdd, Nat.reduceSub, List.replicate, List.cons_append, List.nil_append, opd, Env.put, Env.at, List.set_cons_zero, List.set_cons_succ, List.getD_cons_zero, List.getD_cons_succ, freezeL, resVs, oneOr, Option.map_some, Option.map_none, List.map_cons, List.map_nil, if_true, if_false, Bool.not_true, Bool.not_false, Bool.false_eq_true, reduceIte, decide_true, decide_false, Int.reduceLT, Int.reduceLE, Int.reduceGT, Int.reduceGE, Int.reduceEq, Int.reduceBEq, Int.reduceBNe, load_ptr, ldV_some, cellAt_cells, List.getElem?_cons_zero, List.getElem?_cons_succ, store_ptr, stO_some, setAt_0, setAt_1, setAt_2, setAt_3, setAt_4, setAt_5, setAt_6, setAt_7, setAt_8, setAt_9, setAt_10, setAt_11, setAt_12, cells_int, cells_bool, cells_str, cells_nils, cells_nilp, cells_ptr, cells_sl, cells_u8, cells_u16, cells_agg, get_upd_is, Option.isSome_some, upd_upd, ev1_nchkV, ev1_faV, nchkV_ptr, faV_ptr, ev1_extV, extV_tup, eqptr_nil, eqptr_ptr, Nat.zero_add, Nat.add_zero, qPL0, qPL1, qPL2, qPL3, qPL4, qPL5, beq_self_eq_true]
        exact ⟨_, _, rfl, p + d.2, rfl, rfl, by omega, by omega⟩
      · right
        rw [List.drop_eq_nil_of_le (by omega), rns_nil, List.length_nil, Nat.add_zero] at h4
        subst h4
        rw [List.drop_eq_nil_of_le (by omega)]
        have ne : binV .neq (.str []) (.str []) = some (.bool false) := rfl
        refine ⟨?_, fun e' s' hh => ?_⟩
        · simp only [M25, M25r0, M25b0, E25r, ne, ev1_extV, qES0, qES1, qES2, env0, List.length_cons, List.length_nil, Nat.reduceAdd, Nat.reduceSub, List.replicate, List.cons_append, List.nil_append, opd, Env.put, Env.at, List.set_cons_zero, List.set_cons_succ, List.getD_cons_zero, List.getD_cons_succ, freezeL, resVs, oneOr, Option.map_some, Option.map_none, List.map_cons, List.map_nil, if_true, if_false, Bool.not_true, Bool.not_false, Bool.false_eq_true, reduceIte, decide_true, decide_false, Int.reduceLT, Int.reduceLE, Int.reduceGT, Int.reduceGE, Int.reduceEq, Int.reduceBEq, Int.reduceBNe, load_ptr, ldV_some, cellAt_cells, List.getElem?_cons_zero, List.getElem?_cons_succ, store_ptr, stO_some, setAt_0, setAt_1, setAt_2, setAt_3, setAt_4, setAt_5, setAt_6, setAt_7, setAt_8, setAt_9, setAt_10, setAt_11, setAt_12, cells_int, cells_bool, cells_str, cells_nils, cells_nilp, cells_ptr, cells_sl, cells_u8, cells_u16, cells_agg, get_upd_is, Option.isSome_some, upd_upd, ev1_nchkV, ev1_faV, nchkV_ptr, faV_ptr, ev1_extV, extV_tup, eqptr_nil, eqptr_ptr, Nat.zero_add, Nat.add_zero, qPL0, qPL1, qPL2, qPL3, qPL4, qPL5, beq_self_eq_true]
          first | done | rfl
        · simp only [M25b0, E25r, ne, ev1_extV, qES0, qES1, qES2, env0, List.length_cons, List.length_nil, Nat.reduceAdd, Nat.reduceSub, List.replicate, List.cons_append, List.nil_append, opd, Env.put, Env.at, List.set_cons_zero, List.set_cons_succ, List.getD_cons_zero, List.getD_cons_succ, freezeL, resVs, oneOr, Option.map_some, Option.map_none, List.map_cons, List.map_nil, if_true, if_false, Bool.not_true, Bool.not_false, Bool.false_eq_true, reduceIte, decide_true, decide_false, Int.reduceLT, Int.reduceLE, Int.reduceGT, Int.reduceGE, Int.reduceEq, Int.reduceBEq, Int.reduceBNe, load_ptr, ldV_some, cellAt_cells, List.getElem?_cons_zero, List.getElem?_cons_succ, store_ptr, stO_some, setAt_0, setAt_1, setAt_2, setAt_3, setAt_4, setAt_5, setAt_6, setAt_7, setAt_8, setAt_9, setAt_10, setAt_11, setAt_12, cells_int, cells_bool, cells_str, cells_nils, cells_nilp, cells_ptr, cells_sl, cells_u8, cells_u16, cells_agg, get_upd_is, Option.isSome_some, upd_upd, ev1_nchkV, ev1_faV, nchkV_ptr, faV_ptr, ev1_extV, extV_tup, eqptr_nil, eqptr_ptr, Nat.zero_add, Nat.add_zero, qPL0, qPL1, qPL2, qPL3, qPL4, qPL5, beq_self_eq_true] at hh
          cases hh
    · rintro e st ⟨p, h1, rfl, h3, h4⟩
      rw [h1]
      rw [List.drop_eq_nil_of_le (by omega), rns_nil, List.length_nil, Nat.add_zero] at h4
      subst h4
      rw [List.drop_eq_nil_of_le (by omega)]
      have ne : binV .neq (.str []) (.str []) = some (.bool false) := rfl
      refine ⟨?_, fun e' s' hh => ?_⟩
      · simp only [M25, M25r0, M25b0, E25r, ne, ev1_extV, qES0, qES1, qES2, env0, List.length_cons, List.length_nil, Nat.reduceAdd, Nat.reduceSub, List.replicate, List.cons_append, List.nil_append, opd, Env.put, Env.at, List.set_cons_zero, List.set_cons_succ, List.getD_cons_zero, List.getD_cons_succ, freezeL, resVs, oneOr, Option.map_some, Option.map_none, List.map_cons, List.map_nil, if_true, if_false, Bool.not_true, Bool.not_false, Bool.false_eq_true, reduceIte, decide_true, decide_false, Int.reduceLT, Int.reduceLE, Int.reduceGT, Int.reduceGE, Int.reduceEq, Int.reduceBEq, Int.reduceBNe, load_ptr, ldV_some, cellAt_cells, List.getElem?_cons_zero, List.getElem?_cons_succ, store_ptr, stO_some, setAt_0, setAt_1, setAt_2, setAt_3, setAt_4, setAt_5, setAt_6, setAt_7, setAt_8, setAt_9, setAt_10, setAt_11, setAt_12, cells_int, cells_bool, cells_str, cells_nils, cells_nilp, cells_ptr, cells_sl, cells_u8, cells_u16, cells_agg, get_upd_is, Option.isSome_some, upd_upd, ev1_nchkV, ev1_faV, nchkV_ptr, faV_ptr, ev1_extV, extV_tup, eqptr_nil, eqptr_ptr, Nat.zero_add, Nat.add_zero, qPL0, qPL1, qPL2, qPL3, qPL4, qPL5, beq_self_eq_true]
        first | done | rfl
      · simp only [M25b0, E25r, ne, ev1_extV, qES0, qES1, qES2, env0, List.length_cons, List.length_nil, Nat.reduceAdd, Nat.reduceSub, List.replicate, List.cons_append, List.nil_append, opd, Env.put, Env.at, List.set_cons_zero, List.set_cons_succ, List.getD_cons_zero, List.getD_cons_succ, freezeL, resVs, oneOr, Option.map_some, Option.map_none, List.map_cons, List.map_nil, if_true, if_false, Bool.not_true, Bool.not_false, Bool.false_eq_true, reduceIte, decide_true, decide_false, Int.reduceLT, Int.reduceLE, Int.reduceGT, Int.reduceGE, Int.reduceEq, Int.reduceBEq, Int.reduceBNe, load_ptr, ldV_some, cellAt_cells, List.getElem?_cons_zero, List.getElem?_cons_succ, store_ptr, stO_some, setAt_0, setAt_1, setAt_2, setAt_3, setAt_4, setAt_5, setAt_6, setAt_7, setAt_8, setAt_9, setAt_10, setAt_11, setAt_12, cells_int, cells_bool, cells_str, cells_nils, cells_nilp, cells_ptr, cells_sl, cells_u8, cells_u16, cells_agg, get_upd_is, Option.isSome_some, upd_upd, ev1_nchkV, ev1_faV, nchkV_ptr, faV_ptr, ev1_extV, extV_tup, eqptr_nil, eqptr_ptr, Nat.zero_add, Nat.add_zero, qPL0, qPL1, qPL2, qPL3, qPL4, qPL5, beq_self_eq_true] at hh
        cases hh
  simp only [M25, evC_loop, qES0, qES1, qES2, env0, List.length_cons, List.length_nil, Nat.reduceAdd, Nat.reduceSub, List.replicate, List.cons_append, List.nil_append, opd, Env.put, Env.at, List.set_cons_zero, List.set_cons_succ, List.getD_cons_zero, List.getD_cons_succ, freezeL, resVs, oneOr, Option.map_some, Option.map_none, List.map_cons, List.map_nil, if_true, if_false, Bool.not_true, Bool.not_false, Bool.false_eq_true, reduceIte, decide_true, decide_false, Int.reduceLT, Int.reduceLE, Int.reduceGT, Int.reduceGE, Int.reduceEq, Int.reduceBEq, Int.reduceBNe, load_ptr, ldV_some, cellAt_cells, List.getElem?_cons_zero, List.getElem?_cons_succ, store_ptr, stO_some, setAt_0, setAt_1, setAt_2, setAt_3, setAt_4, setAt_5, setAt_6, setAt_7, setAt_8, setAt_9, setAt_10, setAt_11, setAt_12, cells_int, cells_bool, cells_str, cells_nils, cells_nilp, cells_ptr, cells_sl, cells_u8, cells_u16, cells_agg, get_upd_is, Option.isSome_some, upd_upd, ev1_nchkV, ev1_faV, nchkV_ptr, faV_ptr, ev1_extV, extV_tup, eqptr_nil, eqptr_ptr, Nat.zero_add, Nat.add_zero, qPL0, qPL1, qPL2, qPL3, qPL4, qPL5, beq_self_eq_true]
  exact key _ rfl
def E27r (l : List UInt8) (m : Int) (n : Int) : Env := [.str l, .int .i64 m, .undef, .undef, .undef, .int .i64 n, .undef, .undef, .undef, .undef, .undef, .undef, .undef, .undef, .undef, .undef, .undef, .undef, .undef, .undef, .undef, .undef, .undef, .undef, .undef, .undef, .undef, .undef, .undef, .undef, .undef, .undef, .undef, .undef, .undef, .undef]
theorem rcut_gen (k : Nat) (l : List UInt8) (m : Int) (hl : l.length ≤ 1000) (S : St) : evN (k + l.length + 3) 27 [.str l, .int .i64 m] S = some (.str (cutR l m), S) := by
  rw [show k + l.length + 3 = (k + l.length + 2) + 1 from rfl, evN_in rfl tab27, show S = S.pl [] from rfl]
  obtain ⟨R, hR⟩ : ∃ R, cutK m 0 (rns l) = R := ⟨_, rfl⟩
  unfold cutR
  rw [hR]
  have lx : lensV' (.str l) = some (.int .i64 (l.length : Nat)) := rfl
  have key : ∀ e, maskE M27b0l e = E27r l m 0 → outR M27.res (seqR (blockR 0 (iter (evC tabGl (evN (k + l.length + 2)) (k + l.length + 2) M27b0) M27b0l (k + l.length + 2) e (S.pl []))) (evC tabGl (evN (k + l.length + 2)) (k + l.length + 2) M27r0)) = some (.str (l.take R), S.pl []) := by
    intro e he
    refine iter_leave (evC tabGl (evN (k + l.length + 2)) (k + l.length + 2) M27b0) M27b0l (fun i e st => ∃ p : Nat, maskE M27b0l e = E27r l m (p : Int) ∧ st = S.pl [] ∧ i ≤ p ∧ p ≤ l.length ∧ cutK m p (rns (l.drop p)) = R)
      (fun out => outR M27.res (seqR (blockR 0 out) (evC tabGl (evN (k + l.length + 2)) (k + l.length + 2) M27r0)) = some (.str (l.take R), S.pl [])) l.length ?_ ?_ l.length 0 _ _ (k + l.length + 2) (by omega) ⟨0, he, rfl, Nat.le_refl _, by omega, by rw [List.drop_zero, hR]⟩ (by omega)
    · rintro i e st hi ⟨p, h1, rfl, h3, h5, h4⟩
      rw [h1]
      have st := slcS_str l (p : Int) (by omega) (by omega)
      rw [Int.toNat_natCast] at st
      by_cases hp : p < l.length
      · obtain ⟨b, t, hbt⟩ := drop_cons hp
        have hw := dec_w b t
        have d0 : decide ((p : Int) < (l.length : Nat)) = true := decide_eq_true (by omega)
        have hlt : t.length ≤ 1000 := by have := congrArg List.length hbt; simp at this; omega
        have hlt2 : p + t.length + 1 = l.length := by have := congrArg List.length hbt; simp at this; omega
        have r1 : ∀ s, evN (k + l.length + 2) 64 [.str (b :: t)] s = some (runeV (decV (decT b t)), s) := fun s => n_rune1 (k + l.length + 1) b t hlt s
        have sl := slcS_from l p (by omega)
        rw [hbt] at sl
        rw [hbt, rns_cons, drop_next hbt] at h4
        unfold cutK at h4
        generalize decT b t = d at *
        have w1 : IntKind.i64.wrap ((p : Int) + (d.2 : Nat)) = ((p + d.2 : Nat) : Int) := (wrapI _ (by omega) (by omega)).trans (by omega)
        by_cases hb : bad d
        · right
          have e1 : decV d = (0, 1, false) := if_pos hb
          rw [e1] at r1
          simp only [runeV] at r1
          rw [if_pos (.inl hb)] at h4
          subst h4
          refine ⟨?_, fun e' s' hh => ?_⟩
          · simp only [M27, M27r0, M27b0, E27r, r1, lx, d0, sl, st, ev1_slsV, ev1_lensV', ev1_extV, qES0, qES1, qES2, env0, List.length_cons, List.length_nil, Nat.reduceAdd, Nat.reduceSub, List.replicate, List.cons_append, List.nil_append, opd, Env.put, Env.at, List.set_cons_zero, List.set_cons_succ, List.getD_cons_zero, List.getD_cons_succ, freezeL, resVs, oneOr, Option.map_some, Option.map_none, List.map_cons, List.map_nil, if_true, if_false, Bool.not_true, Bool.not_false, Bool.false_eq_true, reduceIte, decide_true, decide_false, Int.reduceLT, Int.reduceLE, Int.reduceGT, Int.reduceGE, Int.reduceEq, Int.reduceBEq, Int.reduceBNe, load_ptr, ldV_some, cellAt_cells, List.getElem?_cons_zero, List.getElem?_cons_succ, store_ptr, stO_some, setAt_0, setAt_1, setAt_2, setAt_3, setAt_4, setAt_5, setAt_6, setAt_7, setAt_8, setAt_9, setAt_10, setAt_11, setAt_12, cells_int, cells_bool, cells_str, cells_nils, cells_nilp, cells_ptr, cells_sl, cells_u8, cells_u16, cells_agg, get_upd_is, Option.isSome_some, upd_upd, ev1_nchkV, ev1_faV, nchkV_ptr, faV_ptr, ev1_extV, extV_tup, eqptr_nil, eqptr_ptr, Nat.zero_add, Nat.add_zero, qPL0, qPL1, qPL2, qPL3, qPL4, qPL5, beq_self_eq_true]
            first | done | rfl
          · simp only [M27b0, E27r, r1, lx, d0, sl, st, ev1_slsV, ev1_lensV', ev1_extV, qES0, qES1, qES2, env0, List.length_cons, List.length_nil, Nat.reduceAdd, Nat.reduceSub, List.replicate, List.cons_append, List.nil_append, opd, Env.put, Env.at, List.set_cons_zero, List.set_cons_succ, List.getD_cons_zero, List.getD_cons_succ, freezeL, resVs, oneOr, Option.map_some, Option.map_none, List.map_cons, List.map_nil, if_true, if_false, Bool.not_true, Bool.not_false, Bool.false_eq_true, reduceIte, decide_true, decide_false, Int.reduceLT, Int.reduceLE, Int.reduceGT, Int.reduceGE, Int.reduceEq, Int.reduceBEq, Int.reduceBNe, load_ptr, ldV_some, cellAt_cells, List.getElem?_cons_zero, List.getElem?_cons_succ, store_ptr, stO_some, setAt_0, setAt_1, setAt_2, setAt_3, setAt_4, setAt_5, setAt_6, setAt_7, setAt_8, setAt_9, setAt_10, setAt_11, setAt_12, cells_int, cells_bool, cells_str, cells_nils, cells_nilp, cells_ptr, cells_sl, cells_u8, cells_u16, cells_agg, get_upd_is, Option.isSome_some, upd_upd, ev1_nchkV, ev1_faV, nchkV_ptr, faV_ptr, ev1_extV, extV_tup, eqptr_nil, eqptr_ptr, Nat.zero_add, Nat.add_zero, qPL0, qPL1, qPL2, qPL3, qPL4, qPL5, beq_self_eq_true] at hh
            cases hh
        · have e1 : decV d = ((d.1 : Int), d.2, true) := if_neg hb
          rw [e1] at r1
          simp only [runeV] at r1
          by_cases g1 : ((p + d.2 : Nat) : Int) > m
          · right
            have q1 : decide (((p + d.2 : Nat) : Int) > m) = true := decide_eq_true g1
            rw [if_pos (.inr g1)] at h4
            subst h4
            refine ⟨?_, fun e' s' hh => ?_⟩
            · simp only [M27, M27r0, M27b0, E27r, r1, lx, d0, sl, st, w1, q1, ev1_slsV, ev1_lensV', ev1_extV, qES0, qES1, qES2, env0, List.length_cons, List.length_nil, Nat.reduceAdd, Nat.reduceSub, List.replicate, List.cons_append, List.nil_append, opd, Env.put, Env.at, List.set_cons_zero, List.set_cons_succ, List.getD_cons_zero, List.getD_cons_succ, freezeL, resVs, oneOr, Option.map_some, Option.map_none, List.map_cons, List.map_nil, if_true, if_false, Bool.not_true, Bool.not_false, Bool.false_eq_true, reduceIte, decide_true, decide_false, Int.reduceLT, Int.reduceLE, Int.reduceGT, Int.reduceGE, Int.reduceEq, Int.reduceBEq, Int.reduceBNe, load_ptr, ldV_some, cellAt_cells, List.getElem?_cons_zero, List.getElem?_cons_succ, store_ptr, stO_some, setAt_0, setAt_1, setAt_2, setAt_3, setAt_4, setAt_5, setAt_6, setAt_7, setAt_8, setAt_9, setAt_10, setAt_11, setAt_12, cells_int, cells_bool, cells_str, cells_nils, cells_nilp, cells_ptr, cells_sl, cells_u8, cells_u16, cells_agg, get_upd_is, Option.isSome_some, upd_upd, ev1_nchkV, ev1_faV, nchkV_ptr, faV_ptr, ev1_extV, extV_tup, eqptr_nil, eqptr_ptr, Nat.zero_add, Nat.add_zero, qPL0, qPL1, qPL2, qPL3, qPL4, qPL5, beq_self_eq_true]
              first | done | rfl
            · simp only [M27b0, E27r, r1, lx, d0, sl, st, w1, q1, ev1_slsV, ev1_lensV', ev1_extV, qES0, qES1, qES2, env0, List.length_cons, List.length_nil, Nat.reduceAdd, Nat.reduceSub, List.replicate, List.cons_append, List.nil_append, opd, Env.put, Env.at, List.set_cons_zero, List.set_cons_succ, List.getD_cons_zero, List.getD_cons_succ, freezeL, resVs, oneOr, Option.map_some, Option.map_none, List.map_cons, List.map_nil, if_true, if_false, Bool.not_true, Bool.not_false, Bool.false_eq_true, reduceIte, decide_true, decide_false, Int.reduceLT, Int.reduceLE, Int.reduceGT, Int.reduceGE, Int.reduceEq, Int.reduceBEq, Int.reduceBNe, load_ptr, ldV_some, cellAt_cells, List.getElem?_cons_zero, List.getElem?_cons_succ, store_ptr, stO_some, setAt_0, setAt_1, setAt_2, setAt_3, setAt_4, setAt_5, setAt_6, setAt_7, setAt_8, setAt_9, setAt_10, setAt_11, setAt_12, cells_int, cells_bool, cells_str, cells_nils, cells_nilp, cells_ptr, cells_sl, cells_u8, cells_u16, cells_agg, get_upd_is, Option.isSome_some, upd_upd, ev1_nchkV, ev1_faV, nchkV_ptr, faV_ptr, ev1_extV, extV_tup, eqptr_nil, eqptr_ptr, Nat.zero_add, Nat.add_zero, qPL0, qPL1, qPL2, qPL3, qPL4, qPL5, beq_self_eq_true] at hh
              cases hh
          · left
            have q1 : decide (((p + d.2 : Nat) : Int) > m) = false := decide_eq_false g1
            rw [if_neg (by rintro (h | h); exact hb h; exact g1 h)] at h4
            simp only [M27b0, E27r, r1, lx, d0, sl, w1, q1, ev1_slsV, ev1_lensV', ev1_extV, qES0, qES1, qES2, env0, List.length_cons, List.length_nil, Nat.reduceAdd, Nat.reduceSub, List.replicate, List.cons_append, List.nil_append, opd, Env.put, Env.at, List.set_cons_zero, List.set_cons_succ, List.getD_cons_zero, List.getD_cons_succ, freezeL, resVs, oneOr, Option.map_some, Option.map_none, List.map_cons, List.map_nil, if_true, if_false, Bool.not_true, Bool.not_false, Bool.false_eq_true, reduceIte, decide_true, decide_false, Int.reduceLT, Int.reduceLE, Int.reduceGT, Int.reduceGE, Int.reduceEq, Int.reduceBEq, Int.reduceBNe, load_ptr, ldV_some, cellAt_cells, List.getElem?_cons_zero, List.getElem?_cons_succ, store_ptr, stO_some, setAt_0, setAt_1, setAt_2, setAt_3, setAt_4, setAt_5, setAt_6, setAt_7, setAt_8, setAt_9, setAt_10, setAt_11, setAt_12, cells_int, cells_bool, cells_str, cells_nils, cells_nilp, cells_ptr, cells_sl, cells_u8, cells_u16, cells_agg, get_upd_is, Option.isSome_some, upd_upd, ev1_nchkV, ev1_faV, nchkV_ptr, faV_ptr, ev1_extV, extV_tup, eqptr_nil, eqptr_ptr, Nat.zero_add, Nat.add_zero, qPL0, qPL1, qPL2, qPL3, qPL4, qPL5, beq_self_eq_true]
            exact ⟨_, _, rfl, p + d.2, rfl, rfl, by omega, by omega, h4⟩
      · right
        have d0 : decide ((p : Int) < (l.length : Nat)) = false := decide_eq_false (by omega)
        rw [List.drop_eq_nil_of_le (by omega), rns_nil] at h4
        have h4 : p = R := h4
        subst h4
        refine ⟨?_, fun e' s' hh => ?_⟩
        · simp only [M27, M27r0, M27b0, E27r, lx, d0, st, ev1_slsV, ev1_lensV', ev1_extV, qES0, qES1, qES2, env0, List.length_cons, List.length_nil, Nat.reduceAdd, Nat.reduceSub, List.replicate, List.cons_append, List.nil_append, opd, Env.put, Env.at, List.set_cons_zero, List.set_cons_succ, List.getD_cons_zero, List.getD_cons_succ, freezeL, resVs, oneOr, Option.map_some, Option.map_none, List.map_cons, List.map_nil, if_true, if_false, Bool.not_true, Bool.not_false, Bool.false_eq_true, reduceIte, decide_true, decide_false, Int.reduceLT, Int.reduceLE, Int.reduceGT, Int.reduceGE, Int.reduceEq, Int.reduceBEq, Int.reduceBNe, load_ptr, ldV_some, cellAt_cells, List.getElem?_cons_zero, List.getElem?_cons_succ, store_ptr, stO_some, setAt_0, setAt_1, setAt_2, setAt_3, setAt_4, setAt_5, setAt_6, setAt_7, setAt_8, setAt_9, setAt_10, setAt_11, setAt_12, cells_int, cells_bool, cells_str, cells_nils, cells_nilp, cells_ptr, cells_sl, cells_u8, cells_u16, cells_agg, get_upd_is, Option.isSome_some, upd_upd, ev1_nchkV, ev1_faV, nchkV_ptr, faV_ptr, ev1_extV, extV_tup, eqptr_nil, eqptr_ptr, Nat.zero_add, Nat.add_zero, qPL0, qPL1, qPL2, qPL3, qPL4, qPL5, beq_self_eq_true]
          first | done | rfl
        · simp only [M27b0, E27r, lx, d0, st, ev1_slsV, ev1_lensV', ev1_extV, qES0, qES1, qES2, env0, List.length_cons, List.length_nil, Nat.reduceAdd, Nat.reduceSub, List.replicate, List.cons_append, List.nil_append, opd, Env.put, Env.at, List.set_cons_zero, List.set_cons_succ, List.getD_cons_zero, List.getD_cons_succ, freezeL, resVs, oneOr, Option.map_some, Option.map_none, List.map_cons, List.map_nil, if_true, if_false, Bool.not_true, Bool.not_false, Bool.false_eq_true, reduceIte, decide_true, decide_false, Int.reduceLT, Int.reduceLE, Int.reduceGT, Int.reduceGE, Int.reduceEq, Int.reduceBEq, Int.reduceBNe, load_ptr, ldV_some, cellAt_cells, List.getElem?_cons_zero, List.getElem?_cons_succ, store_ptr, stO_some, setAt_0, setAt_1, setAt_2, setAt_3, setAt_4, setAt_5, setAt_6, setAt_7, setAt_8, setAt_9, setAt_10, setAt_11, setAt_12, cells_int, cells_bool, cells_str, cells_nils, cells_nilp, cells_ptr, cells_sl, cells_u8, cells_u16, cells_agg, get_upd_is, Option.isSome_some, upd_upd, ev1_nchkV, ev1_faV, nchkV_ptr, faV_ptr, ev1_extV, extV_tup, eqptr_nil, eqptr_ptr, Nat.zero_add, Nat.add_zero, qPL0, qPL1, qPL2, qPL3, qPL4, qPL5, beq_self_eq_true] at hh
          cases hh
    · rintro e st ⟨p, h1, rfl, h3, h5, h4⟩
      rw [h1]
      have st := slcS_str l (p : Int) (by omega) (by omega)
      rw [Int.toNat_natCast] at st
      have d0 : decide ((p : Int) < (l.length : Nat)) = false := decide_eq_false (by omega)
      rw [List.drop_eq_nil_of_le (by omega), rns_nil] at h4
      have h4 : p = R := h4
      subst h4
      refine ⟨?_, fun e' s' hh => ?_⟩
      · simp only [M27, M27r0, M27b0, E27r, lx, d0, st, ev1_slsV, ev1_lensV', ev1_extV, qES0, qES1, qES2, env0, List.length_cons, List.length_nil, Nat.reduceAdd, Nat.reduceSub, List.replicate, List.cons_append, List.nil_append, opd, Env.put, Env.at, List.set_cons_zero, List.set_cons_succ, List.getD_cons_zero, List.getD_cons_succ, freezeL, resVs, oneOr, Option.map_some, Option.map_none, List.map_cons, List.map_nil, if_true, if_false, Bool.not_true, Bool.not_false, Bool.false_eq_true, reduceIte, decide_true, decide_false, Int.reduceLT, Int.reduceLE, Int.reduceGT, Int.reduceGE, Int.reduceEq, Int.reduceBEq, Int.reduceBNe, load_ptr, ldV_some, cellAt_cells, List.getElem?_cons_zero, List.getElem?_cons_succ, store_ptr, stO_some, setAt_0, setAt_1, setAt_2, setAt_3, setAt_4, setAt_5, setAt_6, setAt_7, setAt_8, setAt_9, setAt_10, setAt_11, setAt_12, cells_int, cells_bool, cells_str, cells_nils, cells_nilp, cells_ptr, cells_sl, cells_u8, cells_u16, cells_agg, get_upd_is, Option.isSome_some, upd_upd, ev1_nchkV, ev1_faV, nchkV_ptr, faV_ptr, ev1_extV, extV_tup, eqptr_nil, eqptr_ptr, Nat.zero_add, Nat.add_zero, qPL0, qPL1, qPL2, qPL3, qPL4, qPL5, beq_self_eq_true]
        first | done | rfl
      · simp only [M27b0, E27r, lx, d0, st, ev1_slsV, ev1_lensV', ev1_extV, qES0, qES1, qES2, env0, List.length_cons, List.length_nil, Nat.reduceAdd, Nat.reduceSub, List.replicate, List.cons_append, List.nil_append, opd, Env.put, Env.at, List.set_cons_zero, List.set_cons_succ, List.getD_cons_zero, List.getD_cons_succ, freezeL, resVs, oneOr, Option.map_some, Option.map_none, List.map_cons, List.map_nil, if_true, if_false, Bool.not_true, Bool.not_false, Bool.false_eq_true, reduceIte, decide_true, decide_false, Int.reduceLT, Int.reduceLE, Int.reduceGT, Int.reduceGE, Int.reduceEq, Int.reduceBEq, Int.reduceBNe, load_ptr, ldV_some, cellAt_cells, List.getElem?_cons_zero, List.getElem?_cons_succ, store_ptr, stO_some, setAt_0, setAt_1, setAt_2, setAt_3, setAt_4, setAt_5, setAt_6, setAt_7, setAt_8, setAt_9, setAt_10, setAt_11, setAt_12, cells_int, cells_bool, cells_str, cells_nils, cells_nilp, cells_ptr, cells_sl, cells_u8, cells_u16, cells_agg, get_upd_is, Option.isSome_some, upd_upd, ev1_nchkV, ev1_faV, nchkV_ptr, faV_ptr, ev1_extV, extV_tup, eqptr_nil, eqptr_ptr, Nat.zero_add, Nat.add_zero, qPL0, qPL1, qPL2, qPL3, qPL4, qPL5, beq_self_eq_true] at hh
        cases hh
  simp only [M27, evC_loop, qES0, qES1, qES2, env0, List.length_cons, List.length_nil, Nat.reduceAdd, Nat.reduceSub, List.replicate, List.cons_append, List.nil_append, opd, Env.put, Env.at, List.set_cons_zero, List.set_cons_succ, List.getD_cons_zero, List.getD_cons_succ, freezeL, resVs, oneOr, Option.map_some, Option.map_none, List.map_cons, List.map_nil, if_true, if_false, Bool.not_true, Bool.not_false, Bool.false_eq_true, reduceIte, decide_true, decide_false, Int.reduceLT, Int.reduceLE, Int.reduceGT, Int.reduceGE, Int.reduceEq, Int.reduceBEq, Int.reduceBNe, load_ptr, ldV_some, cellAt_cells, List.getElem?_cons_zero, List.getElem?_cons_succ, store_ptr, stO_some, setAt_0, setAt_1, setAt_2, setAt_3, setAt_4, setAt_5, setAt_6, setAt_7, setAt_8, setAt_9, setAt_10, setAt_11, setAt_12, cells_int, cells_bool, cells_str, cells_nils, cells_nilp, cells_ptr, cells_sl, cells_u8, cells_u16, cells_agg, get_upd_is, Option.isSome_some, upd_upd, ev1_nchkV, ev1_faV, nchkV_ptr, faV_ptr, ev1_extV, extV_tup, eqptr_nil, eqptr_ptr, Nat.zero_add, Nat.add_zero, qPL0, qPL1, qPL2, qPL3, qPL4, qPL5, beq_self_eq_true]
  exact key _ rfl
theorem kind_range (r : Int) : 0 ≤ kindOf r ∧ kindOf r ≤ 4 := by
  unfold kindOf
  repeat' split
  all_goals decide
theorem dec_small (b : UInt8) (t : List UInt8) (h : (decT b t).1 < 128) : decT b t = (b.toNat, 1) := by
  by_cases g : b.toNat < 128
  · exact dec_ascii b t g
  · exfalso
    revert h
    unfold decT Lib.decodeN
    generalize b.toNat = b0 at *
    generalize (t.getD 0 0).toNat = b1
    generalize (t.getD 1 0).toNat = b2
    generalize (t.getD 2 0).toNat = b3
    repeat' split
    all_goals (simp only; omega)
def E29r (t acc : List UInt8) : Env := [.str t, .undef, .undef, .str acc, .undef, .undef, .undef, .undef, .undef, .undef, .undef, .undef, .undef, .undef, .undef, .undef, .undef, .undef, .undef, .undef, .undef, .undef, .undef, .undef, .undef, .undef, .undef, .undef, .undef, .undef, .undef, .undef, .undef, .undef, .undef, .undef, .undef, .undef]
theorem rplain_gen (k : Nat) (l : List UInt8) (hl : l.length ≤ 1000) (S : St) : evN (k + l.length + 3) 29 [.str l] S = some (.str (plainR kindOf l), S) := by
  rw [show k + l.length + 3 = (k + l.length + 2) + 1 from rfl, evN_in rfl tab29, show S = S.pl [] from rfl]
  obtain ⟨R, hR⟩ : ∃ R, plainR kindOf l = R := ⟨_, rfl⟩
  have hRl : R.length ≤ l.length := by rw [← hR, plain_len]; exact rns_len l
  rw [hR]
  have key : ∀ e, maskE M29b0l e = E29r l [] → outR M29.res (seqR (blockR 0 (iter (evC tabGl (evN (k + l.length + 2)) (k + l.length + 2) M29b0) M29b0l (k + l.length + 2) e (S.pl []))) (evC tabGl (evN (k + l.length + 2)) (k + l.length + 2) M29r0)) = some (.str R, S.pl []) := by
    intro e he
    refine iter_leave (evC tabGl (evN (k + l.length + 2)) (k + l.length + 2) M29b0) M29b0l (fun i e st => ∃ p done, maskE M29b0l e = E29r (l.drop p) done ∧ st = S.pl [] ∧ i ≤ p ∧ done ++ (rns (l.drop p)).map (plainB kindOf) = R)
      (fun out => outR M29.res (seqR (blockR 0 out) (evC tabGl (evN (k + l.length + 2)) (k + l.length + 2) M29r0)) = some (.str R, S.pl [])) l.length ?_ ?_ l.length 0 _ _ (k + l.length + 2) (by omega) ⟨0, [], he, rfl, Nat.le_refl _, by rw [List.drop_zero]; exact hR⟩ (by omega)
    · rintro i e st hi ⟨p, done, h1, rfl, h3, h4⟩
      rw [h1]
      by_cases hp : p < l.length
      · left
        obtain ⟨b, t, hbt⟩ := drop_cons hp
        have hw := dec_w b t
        have hlt : t.length ≤ 1000 := by have := congrArg List.length hbt; simp at this; omega
        have r1 : ∀ s, evN (k + l.length + 2) 64 [.str (b :: t)] s = some (runeV (decV (decT b t)), s) := fun s => n_rune1 (k + l.length + 1) b t hlt s
        have ne : binV .neq (.str (b :: t)) (.str []) = some (.bool true) := rfl
        have sl := slcS_from (b :: t) (decT b t).2 (by simp; omega)
        have sm := dec_small b t
        rw [drop_next hbt] at sl
        rw [hbt, rns_cons, drop_next hbt, List.map_cons] at h4
        rw [hbt]
        have hdl : done.length ≤ 2000 := by have := congrArg List.length h4; simp at this; omega
        obtain ⟨d, hdd⟩ : ∃ d, decT b t = d := ⟨_, rfl⟩
        rw [hdd] at r1 sl hw h4 sm
        have kr := kind_range (d.1 : Nat)
        have e4 : (done ++ [plainB kindOf d]) ++ (rns (l.drop (p + d.2))).map (plainB kindOf) = R := by rw [List.append_assoc]; exact h4
        have a63 := str_add done [63] (by simp; omega)
        by_cases hb : bad d
        · have e1 : decV d = (0, 1, false) := if_pos hb
          rw [e1] at r1
          simp only [runeV] at r1
          have kd := n_rkind (k + l.length + 1) 0
          have pb : plainB kindOf d = 63 := by
            unfold plainB
            rw [hb.1, show ((65533 : Nat) : Int) = 65533 from rfl, kind_bad, if_pos (.inl rfl)]
          rw [pb] at e4
          rw [hb.2] at sl e4
          generalize kindOf 0 = k0 at kd
          simp only [M29b0, E29r, r1, ne, sl, kd, a63, ev1_slsV, ev1_extV, qES0, qES1, qES2, env0, List.length_cons, List.length_nil, Nat.reduceAdd, Nat.reduceSub, List.replicate, List.cons_append, List.nil_append, opd, Env.put, Env.at, List.set_cons_zero, List.set_cons_succ, List.getD_cons_zero, List.getD_cons_succ, freezeL, resVs, oneOr, Option.map_some, Option.map_none, List.map_cons, List.map_nil, if_true, if_false, Bool.not_true, Bool.not_false, Bool.false_eq_true, reduceIte, decide_true, decide_false, Int.reduceLT, Int.reduceLE, Int.reduceGT, Int.reduceGE, Int.reduceEq, Int.reduceBEq, Int.reduceBNe, load_ptr, ldV_some, cellAt_cells, List.getElem?_cons_zero, List.getElem?_cons_succ, store_ptr, stO_some, setAt_0, setAt_1, setAt_2, setAt_3, setAt_4, setAt_5, setAt_6, setAt_7, setAt_8, setAt_9, setAt_10, setAt_11, setAt_12, cells_int, cells_bool, cells_str, cells_nils, cells_nilp, cells_ptr, cells_sl, cells_u8, cells_u16, cells_agg, get_upd_is, Option.isSome_some, upd_upd, ev1_nchkV, ev1_faV, nchkV_ptr, faV_ptr, ev1_extV, extV_tup, eqptr_nil, eqptr_ptr, Nat.zero_add, Nat.add_zero, qPL0, qPL1, qPL2, qPL3, qPL4, qPL5, beq_self_eq_true]
          exact ⟨_, _, rfl, p + 1, _, rfl, rfl, by omega, e4⟩
        · have e1 : decV d = ((d.1 : Int), d.2, true) := if_neg hb
          rw [e1] at r1
          simp only [runeV] at r1
          have kd := n_rkind (k + l.length + 1) (d.1 : Nat)
          rcases kind3 d.1 with hk | hk | ⟨hk0, hk4, hk⟩
          · have q1 : decide (kindOf (d.1 : Nat) ≥ 1) = false := decide_eq_false (by omega)
            have pb : plainB kindOf d = 63 := by unfold plainB; rw [if_pos (.inl hk)]
            rw [pb] at e4
            simp only [M29b0, E29r, r1, ne, sl, kd, q1, a63, ev1_slsV, ev1_extV, qES0, qES1, qES2, env0, List.length_cons, List.length_nil, Nat.reduceAdd, Nat.reduceSub, List.replicate, List.cons_append, List.nil_append, opd, Env.put, Env.at, List.set_cons_zero, List.set_cons_succ, List.getD_cons_zero, List.getD_cons_succ, freezeL, resVs, oneOr, Option.map_some, Option.map_none, List.map_cons, List.map_nil, if_true, if_false, Bool.not_true, Bool.not_false, Bool.false_eq_true, reduceIte, decide_true, decide_false, Int.reduceLT, Int.reduceLE, Int.reduceGT, Int.reduceGE, Int.reduceEq, Int.reduceBEq, Int.reduceBNe, load_ptr, ldV_some, cellAt_cells, List.getElem?_cons_zero, List.getElem?_cons_succ, store_ptr, stO_some, setAt_0, setAt_1, setAt_2, setAt_3, setAt_4, setAt_5, setAt_6, setAt_7, setAt_8, setAt_9, setAt_10, setAt_11, setAt_12, cells_int, cells_bool, cells_str, cells_nils, cells_nilp, cells_ptr, cells_sl, cells_u8, cells_u16, cells_agg, get_upd_is, Option.isSome_some, upd_upd, ev1_nchkV, ev1_faV, nchkV_ptr, faV_ptr, ev1_extV, extV_tup, eqptr_nil, eqptr_ptr, Nat.zero_add, Nat.add_zero, qPL0, qPL1, qPL2, qPL3, qPL4, qPL5, beq_self_eq_true]
            exact ⟨_, _, rfl, p + d.2, _, rfl, rfl, by omega, e4⟩
          · have q1 : decide (kindOf (d.1 : Nat) ≥ 1) = true := decide_eq_true (by omega)
            have q2 : decide (kindOf (d.1 : Nat) ≤ 3) = false := decide_eq_false (by omega)
            have pb : plainB kindOf d = 63 := by unfold plainB; rw [if_pos (.inr hk)]
            rw [pb] at e4
            simp only [M29b0, E29r, r1, ne, sl, kd, q1, q2, a63, ev1_slsV, ev1_extV, qES0, qES1, qES2, env0, List.length_cons, List.length_nil, Nat.reduceAdd, Nat.reduceSub, List.replicate, List.cons_append, List.nil_append, opd, Env.put, Env.at, List.set_cons_zero, List.set_cons_succ, List.getD_cons_zero, List.getD_cons_succ, freezeL, resVs, oneOr, Option.map_some, Option.map_none, List.map_cons, List.map_nil, if_true, if_false, Bool.not_true, Bool.not_false, Bool.false_eq_true, reduceIte, decide_true, decide_false, Int.reduceLT, Int.reduceLE, Int.reduceGT, Int.reduceGE, Int.reduceEq, Int.reduceBEq, Int.reduceBNe, load_ptr, ldV_some, cellAt_cells, List.getElem?_cons_zero, List.getElem?_cons_succ, store_ptr, stO_some, setAt_0, setAt_1, setAt_2, setAt_3, setAt_4, setAt_5, setAt_6, setAt_7, setAt_8, setAt_9, setAt_10, setAt_11, setAt_12, cells_int, cells_bool, cells_str, cells_nils, cells_nilp, cells_ptr, cells_sl, cells_u8, cells_u16, cells_agg, get_upd_is, Option.isSome_some, upd_upd, ev1_nchkV, ev1_faV, nchkV_ptr, faV_ptr, ev1_extV, extV_tup, eqptr_nil, eqptr_ptr, Nat.zero_add, Nat.add_zero, qPL0, qPL1, qPL2, qPL3, qPL4, qPL5, beq_self_eq_true]
            exact ⟨_, _, rfl, p + d.2, _, rfl, rfl, by omega, e4⟩
          · have q1 : decide (kindOf (d.1 : Nat) ≥ 1) = true := decide_eq_true (by omega)
            have q2 : decide (kindOf (d.1 : Nat) ≤ 3) = true := decide_eq_true (by omega)
            have hdv := sm hk
            have pb : plainB kindOf d = b := by
              unfold plainB
              rw [if_neg (by rintro (h | h); exact hk0 h; exact hk4 h), hdv]
              simp
            rw [pb] at e4
            have d2 : d.2 = 1 := by rw [hdv]
            have st : slcS (.str (b :: t)) none (some (.int .i64 ((d.2 : Nat) : Int))) = some (.str [b]) := by
              rw [d2]
              have := slcS_str (b :: t) ((1 : Nat) : Int) (by omega) (by simp; omega)
              rw [this]; rfl
            have ab := str_add done [b] (by simp; omega)
            simp only [M29b0, E29r, r1, ne, sl, kd, q1, q2, st, ab, ev1_slsV, ev1_extV, qES0, qES1, qES2, env0, List.length_cons, List.length_nil, Nat.reduceAdd, Nat.reduceSub, List.replicate, List.cons_append, List.nil_append, opd, Env.put, Env.at, List.set_cons_zero, List.set_cons_succ, List.getD_cons_zero, List.getD_cons_succ, freezeL, resVs, oneOr, Option.map_some, Option.map_none, List.map_cons, List.map_nil, if_true, if_false, Bool.not_true, Bool.not_false, Bool.false_eq_true, reduceIte, decide_true, decide_false, Int.reduceLT, Int.reduceLE, Int.reduceGT, Int.reduceGE, Int.reduceEq, Int.reduceBEq, Int.reduceBNe, load_ptr, ldV_some, cellAt_cells, List.getElem?_cons_zero, List.getElem?_cons_succ, store_ptr, stO_some, setAt_0, setAt_1, setAt_2, setAt_3, setAt_4, setAt_5, setAt_6, setAt_7, setAt_8, setAt_9, setAt_10, setAt_11, setAt_12, cells_int, cells_bool, cells_str, cells_nils, cells_nilp, cells_ptr, cells_sl, cells_u8, cells_u16, cells_agg, get_upd_is, Option.isSome_some, upd_upd, ev1_nchkV, ev1_faV, nchkV_ptr, faV_ptr, ev1_extV, extV_tup, eqptr_nil, eqptr_ptr, Nat.zero_add, Nat.add_zero, qPL0, qPL1, qPL2, qPL3, qPL4, qPL5, beq_self_eq_true]
            exact ⟨_, _, rfl, p + d.2, _, rfl, rfl, by omega, e4⟩
      · right
        rw [List.drop_eq_nil_of_le (by omega), rns_nil, List.map_nil, List.append_nil] at h4
        subst h4
        rw [List.drop_eq_nil_of_le (by omega)]
        have ne : binV .neq (.str []) (.str []) = some (.bool false) := rfl
        refine ⟨?_, fun e' s' hh => ?_⟩
        · simp only [M29, M29r0, M29b0, E29r, ne, ev1_extV, qES0, qES1, qES2, env0, List.length_cons, List.length_nil, Nat.reduceAdd, Nat.reduceSub, List.replicate, List.cons_append, List.nil_append, opd, Env.put, Env.at, List.set_cons_zero, List.set_cons_succ, List.getD_cons_zero, List.getD_cons_succ, freezeL, resVs, oneOr, Option.map_some, Option.map_none, List.map_cons, List.map_nil, if_true, if_false, Bool.not_true, Bool.not_false, Bool.false_eq_true, reduceIte, decide_true, decide_false, Int.reduceLT, Int.reduceLE, Int.reduceGT, Int.reduceGE, Int.reduceEq, Int.reduceBEq, Int.reduceBNe, load_ptr, ldV_some, cellAt_cells, List.getElem?_cons_zero, List.getElem?_cons_succ, store_ptr, stO_some, setAt_0, setAt_1, setAt_2, setAt_3, setAt_4, setAt_5, setAt_6, setAt_7, setAt_8, setAt_9, setAt_10, setAt_11, setAt_12, cells_int, cells_bool, cells_str, cells_nils, cells_nilp, cells_ptr, cells_sl, cells_u8, cells_u16, cells_agg, get_upd_is, Option.isSome_some, upd_upd, ev1_nchkV, ev1_faV, nchkV_ptr, faV_ptr, ev1_extV, extV_tup, eqptr_nil, eqptr_ptr, Nat.zero_add, Nat.add_zero, qPL0, qPL1, qPL2, qPL3, qPL4, qPL5, beq_self_eq_true]
          first | done | rfl
        · simp only [M29b0, E29r, ne, ev1_extV, qES0, qES1, qES2, env0, List.length_cons, List.length_nil, Nat.reduceAdd, Nat.reduceSub, List.replicate, List.cons_append, List.nil_append, opd, Env.put, Env.at, List.set_cons_zero, List.set_cons_succ, List.getD_cons_zero, List.getD_cons_succ, freezeL, resVs, oneOr, Option.map_some, Option.map_none, List.map_cons, List.map_nil, if_true, if_false, Bool.not_true, Bool.not_false, Bool.false_eq_true, reduceIte, decide_true, decide_false, Int.reduceLT, Int.reduceLE, Int.reduceGT, Int.reduceGE, Int.reduceEq, Int.reduceBEq, Int.reduceBNe, load_ptr, ldV_some, cellAt_cells, List.getElem?_cons_zero, List.getElem?_cons_succ, store_ptr, stO_some, setAt_0, setAt_1, setAt_2, setAt_3, setAt_4, setAt_5, setAt_6, setAt_7, setAt_8, setAt_9, setAt_10, setAt_11, setAt_12, cells_int, cells_bool, cells_str, cells_nils, cells_nilp, cells_ptr, cells_sl, cells_u8, cells_u16, cells_agg, get_upd_is, Option.isSome_some, upd_upd, ev1_nchkV, ev1_faV, nchkV_ptr, faV_ptr, ev1_extV, extV_tup, eqptr_nil, eqptr_ptr, Nat.zero_add, Nat.add_zero, qPL0, qPL1, qPL2, qPL3, qPL4, qPL5, beq_self_eq_true] at hh
          cases hh
    · rintro e st ⟨p, done, h1, rfl, h3, h4⟩
      rw [h1]
      rw [List.drop_eq_nil_of_le (by omega), rns_nil, List.map_nil, List.append_nil] at h4
      subst h4
      rw [List.drop_eq_nil_of_le (by omega)]
      have ne : binV .neq (.str []) (.str []) = some (.bool false) := rfl
      refine ⟨?_, fun e' s' hh => ?_⟩
      · simp only [M29, M29r0, M29b0, E29r, ne, ev1_extV, qES0, qES1, qES2, env0, List.length_cons, List.length_nil, Nat.reduceAdd, Nat.reduceSub, List.replicate, List.cons_append, List.nil_append, opd, Env.put, Env.at, List.set_cons_zero, List.set_cons_succ, List.getD_cons_zero, List.getD_cons_succ, freezeL, resVs, oneOr, Option.map_some, Option.map_none, List.map_cons, List.map_nil, if_true, if_false, Bool.not_true, Bool.not_false, Bool.false_eq_true, reduceIte, decide_true, decide_false, Int.reduceLT, Int.reduceLE, Int.reduceGT, Int.reduceGE, Int.reduceEq, Int.reduceBEq, Int.reduceBNe, load_ptr, ldV_some, cellAt_cells, List.getElem?_cons_zero, List.getElem?_cons_succ, store_ptr, stO_some, setAt_0, setAt_1, setAt_2, setAt_3, setAt_4, setAt_5, setAt_6, setAt_7, setAt_8, setAt_9, setAt_10, setAt_11, setAt_12, cells_int, cells_bool, cells_str, cells_nils, cells_nilp, cells_ptr, cells_sl, cells_u8, cells_u16, cells_agg, get_upd_is, Option.isSome_some, upd_upd, ev1_nchkV, ev1_faV, nchkV_ptr, faV_ptr, ev1_extV, extV_tup, eqptr_nil, eqptr_ptr, Nat.zero_add, Nat.add_zero, qPL0, qPL1, qPL2, qPL3, qPL4, qPL5, beq_self_eq_true]
        first | done | rfl
      · simp only [M29b0, E29r, ne, ev1_extV, qES0, qES1, qES2, env0, List.length_cons, List.length_nil, Nat.reduceAdd, Nat.reduceSub, List.replicate, List.cons_append, List.nil_append, opd, Env.put, Env.at, List.set_cons_zero, List.set_cons_succ, List.getD_cons_zero, List.getD_cons_succ, freezeL, resVs, oneOr, Option.map_some, Option.map_none, List.map_cons, List.map_nil, if_true, if_false, Bool.not_true, Bool.not_false, Bool.false_eq_true, reduceIte, decide_true, decide_false, Int.reduceLT, Int.reduceLE, Int.reduceGT, Int.reduceGE, Int.reduceEq, Int.reduceBEq, Int.reduceBNe, load_ptr, ldV_some, cellAt_cells, List.getElem?_cons_zero, List.getElem?_cons_succ, store_ptr, stO_some, setAt_0, setAt_1, setAt_2, setAt_3, setAt_4, setAt_5, setAt_6, setAt_7, setAt_8, setAt_9, setAt_10, setAt_11, setAt_12, cells_int, cells_bool, cells_str, cells_nils, cells_nilp, cells_ptr, cells_sl, cells_u8, cells_u16, cells_agg, get_upd_is, Option.isSome_some, upd_upd, ev1_nchkV, ev1_faV, nchkV_ptr, faV_ptr, ev1_extV, extV_tup, eqptr_nil, eqptr_ptr, Nat.zero_add, Nat.add_zero, qPL0, qPL1, qPL2, qPL3, qPL4, qPL5, beq_self_eq_true] at hh
        cases hh
  simp only [M29, evC_loop, qES0, qES1, qES2, env0, List.length_cons, List.length_nil, Nat.reduceAdd, Nat.reduceSub, List.replicate, List.cons_append, List.nil_append, opd, Env.put, Env.at, List.set_cons_zero, List.set_cons_succ, List.getD_cons_zero, List.getD_cons_succ, freezeL, resVs, oneOr, Option.map_some, Option.map_none, List.map_cons, List.map_nil, if_true, if_false, Bool.not_true, Bool.not_false, Bool.false_eq_true, reduceIte, decide_true, decide_false, Int.reduceLT, Int.reduceLE, Int.reduceGT, Int.reduceGE, Int.reduceEq, Int.reduceBEq, Int.reduceBNe, load_ptr, ldV_some, cellAt_cells, List.getElem?_cons_zero, List.getElem?_cons_succ, store_ptr, stO_some, setAt_0, setAt_1, setAt_2, setAt_3, setAt_4, setAt_5, setAt_6, setAt_7, setAt_8, setAt_9, setAt_10, setAt_11, setAt_12, cells_int, cells_bool, cells_str, cells_nils, cells_nilp, cells_ptr, cells_sl, cells_u8, cells_u16, cells_agg, get_upd_is, Option.isSome_some, upd_upd, ev1_nchkV, ev1_faV, nchkV_ptr, faV_ptr, ev1_extV, extV_tup, eqptr_nil, eqptr_ptr, Nat.zero_add, Nat.add_zero, qPL0, qPL1, qPL2, qPL3, qPL4, qPL5, beq_self_eq_true]
  exact key _ rfl
end Go.Proofs.YthcblggiojpmcaaDoor
