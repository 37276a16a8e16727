/- A name of which a rune is cut: the loop of the law NickBroken. No conditions. -/
import Derived.Test.YthcblggiojpmcaaDoorTpW
import Derived.Test.YthcblggiojpmcaaDoorM4_12
set_option linter.unusedSimpArgs false
set_option linter.unusedVariables false
set_option maxRecDepth 100000
set_option maxHeartbeats 4000000
namespace Go.Proofs.YthcblggiojpmcaaDoor
open Go Go.Ab
def E12b (l : List UInt8) (k : Nat) (t : List UInt8) (wh : Bool) (b : Nat) : Env := [.str l, .undef, .undef, .undef, .undef, .undef, .int .i64 (k : Nat), .str t, .bool wh, .undef, .undef, .undef, .undef, .undef, .undef, .undef, .undef, .undef, .undef, .undef, .undef, .undef, .undef, .undef, .undef, .undef, .undef, .undef, .undef, .undef, .undef, .undef, .ptr b 0, .undef, .undef, .undef, .undef, .undef, .undef, .undef, .undef, .undef, .undef, .undef, .undef, .undef, .undef, .undef, .undef, .undef, .undef, .undef, .undef, .undef, .undef, .undef, .undef, .undef, .undef, .undef, .undef, .undef, .undef, .undef, .undef, .undef, .undef, .undef, .undef, .undef, .undef, .undef, .undef, .undef, .undef, .undef, .undef]
theorem broken_end (l : List UInt8) (hl : l.length ≤ 20) (k : Nat) (hk : k ≤ l.length) (hm : (rns l).all (kOk kindOf) = true) (S : St) (p : Nat) (hp : p = l.length) (wh : Bool) (R : Bool) (hR : onR (rns l) k = R)
    (h4 : (p ≤ k ∧ onR (rns (l.drop p)) (k - p) = R) ∨ (k < p ∧ R = false)) :
    valR (outR M12.res (seqR (blockR 0 (evC tabGl (evP' 999) 999 M12b0 (E12b l k (l.take k) wh S.next) (S.pl [.iter l p]))) (evC tabGl (evP' 999) 999 M12r0))) = some (.bool true) ∧
    ∀ e' s', ¬ evC tabGl (evP' 999) 999 M12b0 (E12b l k (l.take k) wh S.next) (S.pl [.iter l p]) = some (.nrm, e', s') := by
  obtain ⟨b1, b2⟩ := brk kind_bad _ l k (Nat.le_refl _) hk hm
  rw [hR] at b1 b2
  have htl : (l.take k).length = k := by rw [List.length_take]; omega
  have h22 := p22 998 (l.take k) (by omega)
  have lx : ∀ t : List UInt8, lensV' (.str t) = some (.int .i64 (t.length : Nat)) := fun _ => rfl
  have hg : (S.pl [.iter l p]).get S.next = some (.iter l p) := plg0 _ _ _
  have nx := nxt_end S l p (by omega)
  refine ⟨?_, fun e' s' hh => ?_⟩
  · rcases h4 with ⟨h6, h4⟩ | ⟨h6, rfl⟩
    · have hkl : k = l.length := by omega
      have q1 : (((k : Nat) : Int) == (l.length : Nat)) = true := by simp [hkl]
      have hRt : R = true := by
        rw [← h4, hp, List.drop_length, hkl, Nat.sub_self]; rfl
      have hyes : mayR kindOf (l.take k) = true := by
        unfold mayR
        rw [b1 hRt, htl, decide_eq_true (by omega)]; rfl
      rw [hyes] at h22
      simp only [M12, M12r0, M12b0, E12b, hg, nx, lx, q1, h22, ev1_lensV', ev1_nxtV, nxtV_ptr, ev1_extV, qES0, qES1, qES2, env0, List.length_cons, List.length_nil, Nat.reduceAdd, Nat.reduceSub, List.replicate, List.cons_append, List.nil_append, opd, Env.put, Env.at, List.set_cons_zero, List.set_cons_succ, List.getD_cons_zero, List.getD_cons_succ, freezeL, resVs, oneOr, Option.map_some, Option.map_none, List.map_cons, List.map_nil, if_true, if_false, Bool.not_true, Bool.not_false, Bool.false_eq_true, reduceIte, decide_true, decide_false, Int.reduceLT, Int.reduceLE, Int.reduceGT, Int.reduceGE, Int.reduceEq, Int.reduceBEq, Int.reduceBNe, load_ptr, ldV_some, cellAt_cells, List.getElem?_cons_zero, List.getElem?_cons_succ, store_ptr, stO_some, setAt_0, setAt_1, setAt_2, setAt_3, setAt_4, setAt_5, setAt_6, setAt_7, setAt_8, setAt_9, setAt_10, setAt_11, setAt_12, cells_int, cells_bool, cells_str, cells_nils, cells_nilp, cells_ptr, cells_sl, cells_u8, cells_u16, cells_agg, get_upd_is, Option.isSome_some, upd_upd, ev1_nchkV, ev1_faV, nchkV_ptr, faV_ptr, ev1_extV, extV_tup, eqptr_nil, eqptr_ptr, Nat.zero_add, Nat.add_zero, qPL0, qPL1, qPL2, qPL3, qPL4, qPL5, beq_self_eq_true]
    · have q1 : (((k : Nat) : Int) == (l.length : Nat)) = false := by simp; omega
      obtain ⟨c1, o, c2, c3, c4⟩ := b2 rfl
      have hno : mayR kindOf (l.take k) = false := by
        unfold mayR
        rw [c1]; rfl
      rw [hno] at h22
      have ck := c4 0 20 (by omega)
      rw [Nat.zero_add] at ck
      have hc : cutR (l.take k) 20 = l.take o := by
        unfold cutR
        rw [ck, List.take_take, Nat.min_eq_left (by omega)]
      have h26 := p26 998 (l.take k) 20 (by omega)
      rw [hc] at h26
      have hol : (l.take o).length = o := by rw [List.length_take]; omega
      have h22c := p22 998 (l.take o) (by omega)
      have hmc : mayR kindOf (l.take o) = true := by
        unfold mayR
        rw [c3, hol, decide_eq_true (by omega)]; rfl
      rw [hmc] at h22c
      have g1 : decide ((((l.take o).length : Nat) : Int) < (((l.take k).length : Nat) : Int)) = true := decide_eq_true (by rw [hol, htl]; omega)
      have ss := slcS_str l ((l.take o).length : Nat) (by omega) (by rw [hol]; omega)
      rw [Int.toNat_natCast, hol] at ss
      have ss' : slcS (.str l) none (some (.int .i64 (((l.take o).length : Nat) : Int))) = some (.str (l.take o)) := by rw [hol]; exact ss
      generalize l.take k = t at *
      generalize l.take o = c at *
      have q3 : binV .eql (.str c) (.str c) = some (.bool true) := by
        show some (AV.bool (c == c)) = _
        rw [beq_self_eq_true]
      simp only [M12, M12r0, M12b0, E12b, hg, nx, lx, q1, h22, h26, h22c, g1, ss', q3, ev1_slsV, ev1_lensV', ev1_nxtV, nxtV_ptr, ev1_extV, qES0, qES1, qES2, env0, List.length_cons, List.length_nil, Nat.reduceAdd, Nat.reduceSub, List.replicate, List.cons_append, List.nil_append, opd, Env.put, Env.at, List.set_cons_zero, List.set_cons_succ, List.getD_cons_zero, List.getD_cons_succ, freezeL, resVs, oneOr, Option.map_some, Option.map_none, List.map_cons, List.map_nil, if_true, if_false, Bool.not_true, Bool.not_false, Bool.false_eq_true, reduceIte, decide_true, decide_false, Int.reduceLT, Int.reduceLE, Int.reduceGT, Int.reduceGE, Int.reduceEq, Int.reduceBEq, Int.reduceBNe, load_ptr, ldV_some, cellAt_cells, List.getElem?_cons_zero, List.getElem?_cons_succ, store_ptr, stO_some, setAt_0, setAt_1, setAt_2, setAt_3, setAt_4, setAt_5, setAt_6, setAt_7, setAt_8, setAt_9, setAt_10, setAt_11, setAt_12, cells_int, cells_bool, cells_str, cells_nils, cells_nilp, cells_ptr, cells_sl, cells_u8, cells_u16, cells_agg, get_upd_is, Option.isSome_some, upd_upd, ev1_nchkV, ev1_faV, nchkV_ptr, faV_ptr, ev1_extV, extV_tup, eqptr_nil, eqptr_ptr, Nat.zero_add, Nat.add_zero, qPL0, qPL1, qPL2, qPL3, qPL4, qPL5, beq_self_eq_true]
  · simp only [M12b0, E12b, hg, nx, ev1_nxtV, nxtV_ptr, ev1_extV, qES0, qES1, qES2, env0, List.length_cons, List.length_nil, Nat.reduceAdd, Nat.reduceSub, List.replicate, List.cons_append, List.nil_append, opd, Env.put, Env.at, List.set_cons_zero, List.set_cons_succ, List.getD_cons_zero, List.getD_cons_succ, freezeL, resVs, oneOr, Option.map_some, Option.map_none, List.map_cons, List.map_nil, if_true, if_false, Bool.not_true, Bool.not_false, Bool.false_eq_true, reduceIte, decide_true, decide_false, Int.reduceLT, Int.reduceLE, Int.reduceGT, Int.reduceGE, Int.reduceEq, Int.reduceBEq, Int.reduceBNe, load_ptr, ldV_some, cellAt_cells, List.getElem?_cons_zero, List.getElem?_cons_succ, store_ptr, stO_some, setAt_0, setAt_1, setAt_2, setAt_3, setAt_4, setAt_5, setAt_6, setAt_7, setAt_8, setAt_9, setAt_10, setAt_11, setAt_12, cells_int, cells_bool, cells_str, cells_nils, cells_nilp, cells_ptr, cells_sl, cells_u8, cells_u16, cells_agg, get_upd_is, Option.isSome_some, upd_upd, ev1_nchkV, ev1_faV, nchkV_ptr, faV_ptr, ev1_extV, extV_tup, eqptr_nil, eqptr_ptr, Nat.zero_add, Nat.add_zero, qPL0, qPL1, qPL2, qPL3, qPL4, qPL5, beq_self_eq_true] at hh
    cases hh
theorem broken_loop (l : List UInt8) (hl : l.length ≤ 20) (k : Nat) (hk : k ≤ l.length) (hm : (rns l).all (kOk kindOf) = true) (S : St) :
    ∀ e, maskE M12b0l e = E12b l k (l.take k) true S.next → valR (outR M12.res (seqR (blockR 0 (iter (evC tabGl (evP' 999) 999 M12b0) M12b0l 999 e (S.pl [.iter l 0]))) (evC tabGl (evP' 999) 999 M12r0))) = some (.bool true) := by
  intro e he
  obtain ⟨R, hR⟩ : ∃ R, onR (rns l) k = R := ⟨_, rfl⟩
  obtain ⟨b1, b2⟩ := brk kind_bad _ l k (Nat.le_refl _) hk hm
  rw [hR] at b1 b2
  have htl : (l.take k).length = k := by rw [List.length_take]; omega
  have h22 := p22 998 (l.take k) (by omega)
  have hyes : R = true → mayR kindOf (l.take k) = true := fun h => by
    unfold mayR
    rw [b1 h, htl, decide_eq_true (by omega)]; rfl
  have lx : ∀ t : List UInt8, lensV' (.str t) = some (.int .i64 (t.length : Nat)) := fun _ => rfl
  refine iter_leave (evC tabGl (evP' 999) 999 M12b0) M12b0l (fun i e st => ∃ p wh, maskE M12b0l e = E12b l k (l.take k) wh S.next ∧ st = S.pl [.iter l p] ∧ i ≤ p ∧ p ≤ l.length ∧ ((p ≤ k ∧ onR (rns (l.drop p)) (k - p) = R) ∨ (k < p ∧ R = false)))
    (fun out => valR (outR M12.res (seqR (blockR 0 out) (evC tabGl (evP' 999) 999 M12r0))) = some (.bool true)) l.length ?_ ?_ l.length 0 _ _ 999 (by omega) ⟨0, true, he, rfl, Nat.le_refl _, by omega, .inl ⟨by omega, by rw [List.drop_zero, Nat.sub_zero, hR]⟩⟩ (by omega)
  · rintro i e st hi ⟨p, wh, h1, rfl, h3, h5, h4⟩
    rw [h1]
    have hg : (S.pl [.iter l p]).get S.next = some (.iter l p) := plg0 _ _ _
    by_cases hp : p < l.length
    · obtain ⟨b, t, hbt⟩ := drop_cons hp
      have nx := nxt_at S l p b t hbt
      have hw := dec_w b t
      have hlt2 : p + t.length + 1 = l.length := by have := congrArg List.length hbt; simp at this; omega
      rw [hbt, rns_cons, drop_next hbt] at h4
      generalize decT b t = d at *
      by_cases g : p = k
      · right
        have q1 : (((p : Nat) : Int) == (k : Nat)) = true := by simp [g]
        have hRt : R = true := by
          rcases h4 with ⟨_, h4⟩ | ⟨h4, _⟩
          · rw [← h4, g, Nat.sub_self]; rfl
          · omega
        rw [hyes hRt] at h22
        refine ⟨?_, fun e' s' hh => ?_⟩
        · simp only [M12, M12b0, E12b, hg, nx, q1, h22, ev1_nxtV, nxtV_ptr, ev1_extV, qES0, qES1, qES2, env0, List.length_cons, List.length_nil, Nat.reduceAdd, Nat.reduceSub, List.replicate, List.cons_append, List.nil_append, opd, Env.put, Env.at, List.set_cons_zero, List.set_cons_succ, List.getD_cons_zero, List.getD_cons_succ, freezeL, resVs, oneOr, Option.map_some, Option.map_none, List.map_cons, List.map_nil, if_true, if_false, Bool.not_true, Bool.not_false, Bool.false_eq_true, reduceIte, decide_true, decide_false, Int.reduceLT, Int.reduceLE, Int.reduceGT, Int.reduceGE, Int.reduceEq, Int.reduceBEq, Int.reduceBNe, load_ptr, ldV_some, cellAt_cells, List.getElem?_cons_zero, List.getElem?_cons_succ, store_ptr, stO_some, setAt_0, setAt_1, setAt_2, setAt_3, setAt_4, setAt_5, setAt_6, setAt_7, setAt_8, setAt_9, setAt_10, setAt_11, setAt_12, cells_int, cells_bool, cells_str, cells_nils, cells_nilp, cells_ptr, cells_sl, cells_u8, cells_u16, cells_agg, get_upd_is, Option.isSome_some, upd_upd, ev1_nchkV, ev1_faV, nchkV_ptr, faV_ptr, ev1_extV, extV_tup, eqptr_nil, eqptr_ptr, Nat.zero_add, Nat.add_zero, qPL0, qPL1, qPL2, qPL3, qPL4, qPL5, beq_self_eq_true]
        · simp only [M12b0, E12b, hg, nx, q1, h22, ev1_nxtV, nxtV_ptr, ev1_extV, qES0, qES1, qES2, env0, List.length_cons, List.length_nil, Nat.reduceAdd, Nat.reduceSub, List.replicate, List.cons_append, List.nil_append, opd, Env.put, Env.at, List.set_cons_zero, List.set_cons_succ, List.getD_cons_zero, List.getD_cons_succ, freezeL, resVs, oneOr, Option.map_some, Option.map_none, List.map_cons, List.map_nil, if_true, if_false, Bool.not_true, Bool.not_false, Bool.false_eq_true, reduceIte, decide_true, decide_false, Int.reduceLT, Int.reduceLE, Int.reduceGT, Int.reduceGE, Int.reduceEq, Int.reduceBEq, Int.reduceBNe, load_ptr, ldV_some, cellAt_cells, List.getElem?_cons_zero, List.getElem?_cons_succ, store_ptr, stO_some, setAt_0, setAt_1, setAt_2, setAt_3, setAt_4, setAt_5, setAt_6, setAt_7, setAt_8, setAt_9, setAt_10, setAt_11, setAt_12, cells_int, cells_bool, cells_str, cells_nils, cells_nilp, cells_ptr, cells_sl, cells_u8, cells_u16, cells_agg, get_upd_is, Option.isSome_some, upd_upd, ev1_nchkV, ev1_faV, nchkV_ptr, faV_ptr, ev1_extV, extV_tup, eqptr_nil, eqptr_ptr, Nat.zero_add, Nat.add_zero, qPL0, qPL1, qPL2, qPL3, qPL4, qPL5, beq_self_eq_true] at hh
          cases hh
      · left
        have q1 : (((p : Nat) : Int) == (k : Nat)) = false := by simp; omega
        have hnew : (p + d.2 ≤ k ∧ onR (rns (l.drop (p + d.2))) (k - (p + d.2)) = R) ∨ (k < p + d.2 ∧ R = false) := by
          rcases h4 with ⟨h6, h4⟩ | ⟨h6, h4⟩
          · unfold onR at h4
            rw [decide_eq_false (by omega), Bool.false_or] at h4
            by_cases g2 : d.2 ≤ k - p
            · rw [decide_eq_true g2, Bool.true_and] at h4
              exact .inl ⟨by omega, by rw [← h4]; congr 1; omega⟩
            · rw [decide_eq_false g2, Bool.false_and] at h4
              exact .inr ⟨by omega, h4.symm⟩
          · exact .inr ⟨by omega, h4⟩
        cases wh with
        | true =>
          simp only [M12b0, E12b, hg, nx, q1, ev1_nxtV, nxtV_ptr, ev1_extV, qES0, qES1, qES2, env0, List.length_cons, List.length_nil, Nat.reduceAdd, Nat.reduceSub, List.replicate, List.cons_append, List.nil_append, opd, Env.put, Env.at, List.set_cons_zero, List.set_cons_succ, List.getD_cons_zero, List.getD_cons_succ, freezeL, resVs, oneOr, Option.map_some, Option.map_none, List.map_cons, List.map_nil, if_true, if_false, Bool.not_true, Bool.not_false, Bool.false_eq_true, reduceIte, decide_true, decide_false, Int.reduceLT, Int.reduceLE, Int.reduceGT, Int.reduceGE, Int.reduceEq, Int.reduceBEq, Int.reduceBNe, load_ptr, ldV_some, cellAt_cells, List.getElem?_cons_zero, List.getElem?_cons_succ, store_ptr, stO_some, setAt_0, setAt_1, setAt_2, setAt_3, setAt_4, setAt_5, setAt_6, setAt_7, setAt_8, setAt_9, setAt_10, setAt_11, setAt_12, cells_int, cells_bool, cells_str, cells_nils, cells_nilp, cells_ptr, cells_sl, cells_u8, cells_u16, cells_agg, get_upd_is, Option.isSome_some, upd_upd, ev1_nchkV, ev1_faV, nchkV_ptr, faV_ptr, ev1_extV, extV_tup, eqptr_nil, eqptr_ptr, Nat.zero_add, Nat.add_zero, qPL0, qPL1, qPL2, qPL3, qPL4, qPL5, beq_self_eq_true]
          exact ⟨_, _, rfl, p + d.2, _, rfl, rfl, by omega, by omega, hnew⟩
        | false =>
          simp only [M12b0, E12b, hg, nx, q1, ev1_nxtV, nxtV_ptr, ev1_extV, qES0, qES1, qES2, env0, List.length_cons, List.length_nil, Nat.reduceAdd, Nat.reduceSub, List.replicate, List.cons_append, List.nil_append, opd, Env.put, Env.at, List.set_cons_zero, List.set_cons_succ, List.getD_cons_zero, List.getD_cons_succ, freezeL, resVs, oneOr, Option.map_some, Option.map_none, List.map_cons, List.map_nil, if_true, if_false, Bool.not_true, Bool.not_false, Bool.false_eq_true, reduceIte, decide_true, decide_false, Int.reduceLT, Int.reduceLE, Int.reduceGT, Int.reduceGE, Int.reduceEq, Int.reduceBEq, Int.reduceBNe, load_ptr, ldV_some, cellAt_cells, List.getElem?_cons_zero, List.getElem?_cons_succ, store_ptr, stO_some, setAt_0, setAt_1, setAt_2, setAt_3, setAt_4, setAt_5, setAt_6, setAt_7, setAt_8, setAt_9, setAt_10, setAt_11, setAt_12, cells_int, cells_bool, cells_str, cells_nils, cells_nilp, cells_ptr, cells_sl, cells_u8, cells_u16, cells_agg, get_upd_is, Option.isSome_some, upd_upd, ev1_nchkV, ev1_faV, nchkV_ptr, faV_ptr, ev1_extV, extV_tup, eqptr_nil, eqptr_ptr, Nat.zero_add, Nat.add_zero, qPL0, qPL1, qPL2, qPL3, qPL4, qPL5, beq_self_eq_true]
          exact ⟨_, _, rfl, p + d.2, _, rfl, rfl, by omega, by omega, hnew⟩
    · right
      exact broken_end l hl k hk hm S p (by omega) wh R hR h4
  · rintro e st ⟨p, wh, h1, rfl, h3, h5, h4⟩
    rw [h1]
    exact broken_end l hl k hk hm S p (by omega) wh R hR h4
end Go.Proofs.YthcblggiojpmcaaDoor
