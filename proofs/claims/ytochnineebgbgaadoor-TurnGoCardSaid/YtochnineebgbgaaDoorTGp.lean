/- TurnGo from its first loop on. No conditions. -/
import Derived.Test.YtochnineebgbgaaDoorTGo
set_option linter.unusedSimpArgs false
set_option linter.unusedVariables false
set_option maxRecDepth 100000
set_option maxHeartbeats 4000000
namespace Go.Proofs.YtochnineebgbgaaDoor
open Go Go.Ab
def E10a (R : Int) (x : AV) (D t : Nat) (n i : Int) : Env := [.int .i64 R, .undef, x, .undef, .ptr D 0, .undef, .undef, .undef, .ptr t 0, .int .i64 n, .int .i64 i, .undef, .undef, .undef, .undef, .undef, .undef, .undef, .undef, .undef, .undef, .undef, .undef, .undef, .undef, .undef, .undef, .undef, .undef, .undef, .undef, .undef, .undef, .undef, .undef, .undef, .undef, .undef, .undef, .undef, .undef, .undef, .undef, .undef, .undef, .undef, .undef, .undef, .undef, .undef, .undef, .undef, .undef, .undef, .undef, .undef, .undef, .undef, .undef, .undef, .undef, .undef, .undef, .undef, .undef, .undef, .undef, .undef, .undef, .undef, .undef, .undef, .undef, .undef, .undef, .undef, .undef, .undef, .undef, .undef, .undef, .undef, .undef, .undef, .undef, .undef, .undef, .undef, .undef, .undef, .undef, .undef, .undef, .undef, .undef, .undef, .undef, .undef, .undef, .undef, .undef, .undef, .undef, .undef, .undef, .undef, .undef, .undef, .undef, .undef, .undef, .undef, .undef, .undef, .undef, .undef, .undef, .undef, .undef, .undef, .undef, .undef, .undef, .undef, .undef, .undef, .undef, .undef, .undef, .undef, .undef, .undef, .undef, .undef, .undef, .undef, .undef, .undef, .undef, .undef, .undef, .undef, .undef, .undef, .undef, .undef, .undef, .undef, .undef, .undef, .undef, .undef, .undef, .undef, .undef, .undef, .undef, .undef, .undef, .undef, .undef]
def dlC (baud silent win wait : Int) : List AV := [.int .i64 baud, .int .i64 silent, .int .i64 win, .int .i64 64, .int .i64 wait]
theorem take_len (z : List (List UInt8)) (i : Nat) (h : i ≤ z.length) : ((z.map (List.take 64)).take i).length = i := by simp; omega
theorem take_put (z : List (List UInt8)) (i : Nat) (h : i < z.length) : (z.map (List.take 64)).take (i + 1) = (z.map (List.take 64)).take i ++ [z[i].take 64] := by
  rw [List.take_add_one, List.getElem?_map, List.getElem?_eq_getElem h]
  rfl
theorem goL1 (x : AV) (z : List (List UInt8)) (hx : IsStrs x z) (R : Int) (hR : R = 1 ∨ R = 2) (D t o ix : Nat) (baud silent win wait : Int) (W : Nat) (hW : clampW win = (W : Nat)) (s : St) (h : TurnAt s t o ix R 64 (R == 1) (W : Nat) [] 0 0 0 false)
    (hD : s.get D = some (.cells 0 (dlC baud silent win wait))) (hl : D < s.next) (d1 : D ≠ t) (d2 : D ≠ o) (d3 : D ≠ ix) :
    ∀ e, maskE M10b1l e = E10a R x D t 0 0 → valR (outR M10.res (seqR (blockR 0 (iter (evC tabGl (evO 999) 999 M10b1) M10b1l 999 e s)) (evC tabGl (evO 999) 999 M10r1))) = some (.bool true) := by
  intro e he
  have fx := hx.freeze
  have l0 := hx.len
  have hcl := clampW_le win
  have z0 : ((0 : Int) == 0) = true := rfl
  have z3 : ((3 : Int) == 0) = false := rfl
  refine iter_leave (evC tabGl (evO 999) 999 M10b1) M10b1l (fun i e S => maskE M10b1l e = E10a R x D t ((min i 8 : Nat) : Int) (i : Nat) ∧ TurnAt S t o ix R 64 (R == 1) (W : Nat) ((z.map (List.take 64)).take (min i 8)) 0 0 0 false ∧ S.get D = some (.cells 0 (dlC baud silent win wait)) ∧ D < S.next)
    (fun out => valR (outR M10.res (seqR (blockR 0 out) (evC tabGl (evO 999) 999 M10r1))) = some (.bool true)) (min z.length 12) ?_ ?_ (min z.length 12) 0 _ _ 999 (by omega) ⟨he, by simpa using h, hD, hl⟩ (by omega)
  · rintro i e S hi ⟨h1, h2, h3, h4⟩
    rw [h1]
    left
    have hz : i < z.length := by omega
    have q1 : ((i : Int) < ((z.length : Nat) : Int)) = True := eq_true (by omega)
    have q2 : ((i : Int) < 12) = True := eq_true (by omega)
    have w1 : IntKind.i64.wrap ((i : Int) + 1) = ((i + 1 : Nat) : Int) := (wrapI _ (by omega) (by omega)).trans (by omega)
    obtain ⟨rp, i1, i2⟩ := hx.ixa i hz
    have h41 : ∀ s, evO 999 41 [.str z[i], .int .i64 64] s = some (.str (z[i].take 64), s) := text_ev 998 z[i] 64
    by_cases hi8 : i < 8
    · have e1 : min i 8 = i := by omega
      have e2 : min (i + 1) 8 = i + 1 := by omega
      rw [e1] at h2 ⊢
      obtain ⟨S', p1, p2, p3⟩ := put_evT 997 (z[i].take 64) h2 (by rw [take_len _ _ (by omega)]; omega) (by rw [List.length_take]; omega)
      have p1' : evO 999 40 [.ptr t 0, .str (z[i].take 64)] S = some (.int .i64 0, S') := p1
      suffices hs : ∃ e', evC tabGl (evO 999) 999 M10b1 (E10a R x D t (i : Nat) (i : Nat)) S = some (.nrm, e', S') ∧ maskE M10b1l e' = E10a R x D t ((i + 1 : Nat) : Int) ((i + 1 : Nat) : Int) by
        obtain ⟨e', g1, g2⟩ := hs
        refine ⟨e', S', g1, by rw [e2]; exact g2, ?_, p3.2 D _ _ h4 d1 d2 d3 h3, Nat.lt_of_lt_of_le h4 p3.1⟩
        rw [e2, take_put z i hz]
        exact p2
      generalize z[i].take 64 = tz at *
      simp only [M10b1, E10a, l0, q1, q2, i1, i2, h41, p1', w1, z0, fx, loadR_rp, qES0, qES1, qES2, env0, List.length_cons, List.length_nil, Nat.reduceAdd, Nat.reduceSub, List.replicate, List.cons_append, List.nil_append, opd, Env.put, Env.at, List.set_cons_zero, List.set_cons_succ, List.getD_cons_zero, List.getD_cons_succ, freezeL, resVs, oneOr, Option.map_some, Option.map_none, List.map_cons, List.map_nil, if_true, if_false, Bool.not_true, Bool.not_false, Bool.false_eq_true, reduceIte, decide_true, decide_false, Int.reduceLT, Int.reduceLE, Int.reduceGT, Int.reduceGE, Int.reduceEq, Int.reduceBEq, Int.reduceBNe, load_ptr, ldV_some, cellAt_cells, List.getElem?_cons_zero, List.getElem?_cons_succ, store_ptr, stO_some, setAt_0, setAt_1, setAt_2, setAt_3, setAt_4, setAt_5, setAt_6, setAt_7, setAt_8, setAt_9, setAt_10, setAt_11, setAt_12, cells_int, cells_bool, cells_str, cells_nils, cells_nilp, cells_ptr, cells_sl, cells_u8, cells_u16, cells_agg, get_upd_is, Option.isSome_some, upd_upd, ev1_nchkV, ev1_faV, nchkV_ptr, faV_ptr, ev1_extV, extV_tup, eqptr_nil, eqptr_ptr, Nat.zero_add, Nat.add_zero, qPL0, qPL1, qPL2, qPL3, qPL4, qPL5, beq_self_eq_true, qED0, qED1, placeR]
      exact ⟨_, rfl, rfl⟩
    · have e1 : min i 8 = 8 := by omega
      have e2 : min (i + 1) 8 = 8 := by omega
      rw [e1] at h2 ⊢
      have p1 := putF_evT 997 (z[i].take 64) h2 (by rw [take_len _ _ (by omega)]; omega) (by rw [List.length_take]; omega)
      have p1' : evO 999 40 [.ptr t 0, .str (z[i].take 64)] S = some (.int .i64 3, S) := p1
      suffices hs : ∃ e', evC tabGl (evO 999) 999 M10b1 (E10a R x D t ((8 : Nat) : Int) (i : Nat)) S = some (.nrm, e', S) ∧ maskE M10b1l e' = E10a R x D t ((8 : Nat) : Int) ((i + 1 : Nat) : Int) by
        obtain ⟨e', g1, g2⟩ := hs
        exact ⟨e', S, g1, by rw [e2]; exact g2, by rw [e2]; exact h2, h3, h4⟩
      generalize z[i].take 64 = tz at *
      simp only [M10b1, E10a, l0, q1, q2, i1, i2, h41, p1', w1, z3, fx, loadR_rp, qES0, qES1, qES2, env0, List.length_cons, List.length_nil, Nat.reduceAdd, Nat.reduceSub, List.replicate, List.cons_append, List.nil_append, opd, Env.put, Env.at, List.set_cons_zero, List.set_cons_succ, List.getD_cons_zero, List.getD_cons_succ, freezeL, resVs, oneOr, Option.map_some, Option.map_none, List.map_cons, List.map_nil, if_true, if_false, Bool.not_true, Bool.not_false, Bool.false_eq_true, reduceIte, decide_true, decide_false, Int.reduceLT, Int.reduceLE, Int.reduceGT, Int.reduceGE, Int.reduceEq, Int.reduceBEq, Int.reduceBNe, load_ptr, ldV_some, cellAt_cells, List.getElem?_cons_zero, List.getElem?_cons_succ, store_ptr, stO_some, setAt_0, setAt_1, setAt_2, setAt_3, setAt_4, setAt_5, setAt_6, setAt_7, setAt_8, setAt_9, setAt_10, setAt_11, setAt_12, cells_int, cells_bool, cells_str, cells_nils, cells_nilp, cells_ptr, cells_sl, cells_u8, cells_u16, cells_agg, get_upd_is, Option.isSome_some, upd_upd, ev1_nchkV, ev1_faV, nchkV_ptr, faV_ptr, ev1_extV, extV_tup, eqptr_nil, eqptr_ptr, Nat.zero_add, Nat.add_zero, qPL0, qPL1, qPL2, qPL3, qPL4, qPL5, beq_self_eq_true, qED0, qED1, placeR]
      exact ⟨_, rfl, rfl⟩
  · rintro e S ⟨h1, h2, h3, h4⟩
    rw [h1]
    obtain ⟨n, hn⟩ : ∃ n, min (min z.length 12) 8 = n := ⟨_, rfl⟩
    rw [hn] at h2 ⊢
    have dd : ((((min z.length 12 : Nat) : Int) < ((z.length : Nat) : Int)) = True ∧ (((min z.length 12 : Nat) : Int) < 12) = False) ∨ (((min z.length 12 : Nat) : Int) < ((z.length : Nat) : Int)) = False := by
      by_cases g : z.length ≤ 12
      · exact .inr (eq_false (by omega))
      · exact .inl ⟨eq_true (by omega), eq_false (by omega)⟩
    generalize ((min z.length 12 : Nat) : Int) = q at dd
    have hLl := take_len z n (by omega)
    have hLg : ∀ j, j < n → ∃ h : j < z.length, ((z.map (List.take 64)).take n).getD j [] = z[j].take 64 := fun j hj => ⟨by omega, by
      rw [List.getD_eq_getElem?_getD, List.getElem?_take, if_pos hj, List.getElem?_map, List.getElem?_eq_getElem (by omega)]; rfl⟩
    generalize (z.map (List.take 64)).take n = B at h2 hLl hLg
    refine ⟨?_, fun e' s' hh => ?_⟩
    · rcases hR with rfl | rfl
      · have h2' : TurnAt S t o ix 1 64 true (W : Nat) B 0 ((0 : Nat) : Int) 0 false := h2
        obtain ⟨S5, k4, k5, k6⟩ := go_ev 969 W 0 h2' (.inl rfl) (by omega) (by omega) (by omega)
        obtain ⟨m, hm⟩ : ∃ m, min W B.length = m := ⟨_, rfl⟩
        rw [hm] at k4 k5
        rw [show max 0 m = m by omega] at k5
        have k4' : evO 999 42 [.ptr t 0] S = some (.sl (goC true 0 0 B false m) (max 1 m) none, S5) := k4
        have kD := k6.2 D _ _ h4 d1 d2 d3 h3
        have km := mine_evT 998 k5
        have kg : evO 999 42 [.ptr t 0] S5 = some (.nils, S5) := go_no 997 k5
        have key := goL0 x z hx n m W B (fun j hj => hLg j (by omega)) S5 t o ix k5 hLl.symm (by rw [← hLl]; exact hm.symm) (by omega) (by omega) (by omega)
        have n12 : ((1 : Int) == 2) = false := rfl
        have lnS : ∀ cs (q : Nat) tk, lenV (.sl cs q tk) = some (.int .i64 (q : Nat)) := fun _ _ _ => rfl
        have lnN : lenV .nils = some (.int .i64 0) := rfl
        have nn : ∀ m : Int, binV .neq (.int .i64 m) (.int .i64 m) = some (.bool false) := fun m => by
          show some (AV.bool (m != m)) = _
          simp
        have e1 : (if (if 7 < win then 7 else win) > 1 then (if 7 < win then 7 else win) else 1) = ((W : Nat) : Int) := by
          rw [← hW]
          unfold clampW
          split <;> split <;> split <;> (try split) <;> omega
        have e3 : (if ((W : Nat) : Int) < ((n : Nat) : Int) then ((W : Nat) : Int) else ((n : Nat) : Int)) = ((m : Nat) : Int) := by split <;> omega
        have e4 : (if ((m : Nat) : Int) > 1 then ((m : Nat) : Int) else 1) = ((max 1 m : Nat) : Int) := by split <;> omega
        have fzl : ∀ (k q : Nat) cs s, Ab.freeze k s (.sl cs q none) = some (.sl cs q none, s) := fun _ _ _ _ => rfl
        unfold dlC at kD
        generalize goC true 0 0 B false m = gl0 at *
        rcases dd with ⟨dd1, dd2⟩ | dd1
        · simp only [M10b1, M10r1, E10a, l0, dd1, dd2, n12, k4', kD, km, kg, lnS, lnN, nn, e1, e3, e4, if_true, fx, fzl, evC_loop, qES0, qES1, qES2, env0, List.length_cons, List.length_nil, Nat.reduceAdd, Nat.reduceSub, List.replicate, List.cons_append, List.nil_append, opd, Env.put, Env.at, List.set_cons_zero, List.set_cons_succ, List.getD_cons_zero, List.getD_cons_succ, freezeL, resVs, oneOr, Option.map_some, Option.map_none, List.map_cons, List.map_nil, if_true, if_false, Bool.not_true, Bool.not_false, Bool.false_eq_true, reduceIte, decide_true, decide_false, Int.reduceLT, Int.reduceLE, Int.reduceGT, Int.reduceGE, Int.reduceEq, Int.reduceBEq, Int.reduceBNe, load_ptr, ldV_some, cellAt_cells, List.getElem?_cons_zero, List.getElem?_cons_succ, store_ptr, stO_some, setAt_0, setAt_1, setAt_2, setAt_3, setAt_4, setAt_5, setAt_6, setAt_7, setAt_8, setAt_9, setAt_10, setAt_11, setAt_12, cells_int, cells_bool, cells_str, cells_nils, cells_nilp, cells_ptr, cells_sl, cells_u8, cells_u16, cells_agg, get_upd_is, Option.isSome_some, upd_upd, ev1_nchkV, ev1_faV, nchkV_ptr, faV_ptr, ev1_extV, extV_tup, eqptr_nil, eqptr_ptr, Nat.zero_add, Nat.add_zero, qPL0, qPL1, qPL2, qPL3, qPL4, qPL5, beq_self_eq_true, qED0, qED1, placeR]
          exact key _ rfl
        · simp only [M10b1, M10r1, E10a, l0, dd1, n12, k4', kD, km, kg, lnS, lnN, nn, e1, e3, e4, if_true, fx, fzl, evC_loop, qES0, qES1, qES2, env0, List.length_cons, List.length_nil, Nat.reduceAdd, Nat.reduceSub, List.replicate, List.cons_append, List.nil_append, opd, Env.put, Env.at, List.set_cons_zero, List.set_cons_succ, List.getD_cons_zero, List.getD_cons_succ, freezeL, resVs, oneOr, Option.map_some, Option.map_none, List.map_cons, List.map_nil, if_true, if_false, Bool.not_true, Bool.not_false, Bool.false_eq_true, reduceIte, decide_true, decide_false, Int.reduceLT, Int.reduceLE, Int.reduceGT, Int.reduceGE, Int.reduceEq, Int.reduceBEq, Int.reduceBNe, load_ptr, ldV_some, cellAt_cells, List.getElem?_cons_zero, List.getElem?_cons_succ, store_ptr, stO_some, setAt_0, setAt_1, setAt_2, setAt_3, setAt_4, setAt_5, setAt_6, setAt_7, setAt_8, setAt_9, setAt_10, setAt_11, setAt_12, cells_int, cells_bool, cells_str, cells_nils, cells_nilp, cells_ptr, cells_sl, cells_u8, cells_u16, cells_agg, get_upd_is, Option.isSome_some, upd_upd, ev1_nchkV, ev1_faV, nchkV_ptr, faV_ptr, ev1_extV, extV_tup, eqptr_nil, eqptr_ptr, Nat.zero_add, Nat.add_zero, qPL0, qPL1, qPL2, qPL3, qPL4, qPL5, beq_self_eq_true, qED0, qED1, placeR]
          exact key _ rfl
      · have h2' : TurnAt S t o ix 2 64 false (W : Nat) B 0 0 0 false := h2
        have kg : evO 999 42 [.ptr t 0] S = some (.nils, S) := go_no 997 h2'
        have km := mine_evT 998 h2'
        obtain ⟨S5, k4, _, _⟩ := late_evT 998 h2' (.inr rfl)
        have k4' : evO 999 44 [.ptr t 0] S = some (.bool false, S5) := k4
        have lnN : lenV .nils = some (.int .i64 0) := rfl
        have n22 : ((2 : Int) == 2) = true := rfl
        rcases dd with ⟨dd1, dd2⟩ | dd1
        · simp only [M10b1, M10r1, M10, E10a, l0, dd1, dd2, n22, z0, k4', km, kg, lnN, fx, qES0, qES1, qES2, env0, List.length_cons, List.length_nil, Nat.reduceAdd, Nat.reduceSub, List.replicate, List.cons_append, List.nil_append, opd, Env.put, Env.at, List.set_cons_zero, List.set_cons_succ, List.getD_cons_zero, List.getD_cons_succ, freezeL, resVs, oneOr, Option.map_some, Option.map_none, List.map_cons, List.map_nil, if_true, if_false, Bool.not_true, Bool.not_false, Bool.false_eq_true, reduceIte, decide_true, decide_false, Int.reduceLT, Int.reduceLE, Int.reduceGT, Int.reduceGE, Int.reduceEq, Int.reduceBEq, Int.reduceBNe, load_ptr, ldV_some, cellAt_cells, List.getElem?_cons_zero, List.getElem?_cons_succ, store_ptr, stO_some, setAt_0, setAt_1, setAt_2, setAt_3, setAt_4, setAt_5, setAt_6, setAt_7, setAt_8, setAt_9, setAt_10, setAt_11, setAt_12, cells_int, cells_bool, cells_str, cells_nils, cells_nilp, cells_ptr, cells_sl, cells_u8, cells_u16, cells_agg, get_upd_is, Option.isSome_some, upd_upd, ev1_nchkV, ev1_faV, nchkV_ptr, faV_ptr, ev1_extV, extV_tup, eqptr_nil, eqptr_ptr, Nat.zero_add, Nat.add_zero, qPL0, qPL1, qPL2, qPL3, qPL4, qPL5, beq_self_eq_true, qED0, qED1, placeR]
        · simp only [M10b1, M10r1, M10, E10a, l0, dd1, n22, z0, k4', km, kg, lnN, fx, qES0, qES1, qES2, env0, List.length_cons, List.length_nil, Nat.reduceAdd, Nat.reduceSub, List.replicate, List.cons_append, List.nil_append, opd, Env.put, Env.at, List.set_cons_zero, List.set_cons_succ, List.getD_cons_zero, List.getD_cons_succ, freezeL, resVs, oneOr, Option.map_some, Option.map_none, List.map_cons, List.map_nil, if_true, if_false, Bool.not_true, Bool.not_false, Bool.false_eq_true, reduceIte, decide_true, decide_false, Int.reduceLT, Int.reduceLE, Int.reduceGT, Int.reduceGE, Int.reduceEq, Int.reduceBEq, Int.reduceBNe, load_ptr, ldV_some, cellAt_cells, List.getElem?_cons_zero, List.getElem?_cons_succ, store_ptr, stO_some, setAt_0, setAt_1, setAt_2, setAt_3, setAt_4, setAt_5, setAt_6, setAt_7, setAt_8, setAt_9, setAt_10, setAt_11, setAt_12, cells_int, cells_bool, cells_str, cells_nils, cells_nilp, cells_ptr, cells_sl, cells_u8, cells_u16, cells_agg, get_upd_is, Option.isSome_some, upd_upd, ev1_nchkV, ev1_faV, nchkV_ptr, faV_ptr, ev1_extV, extV_tup, eqptr_nil, eqptr_ptr, Nat.zero_add, Nat.add_zero, qPL0, qPL1, qPL2, qPL3, qPL4, qPL5, beq_self_eq_true, qED0, qED1, placeR]
    · rcases dd with ⟨dd1, dd2⟩ | dd1
      · simp only [M10b1, E10a, l0, dd1, dd2, fx, qES0, qES1, qES2, env0, List.length_cons, List.length_nil, Nat.reduceAdd, Nat.reduceSub, List.replicate, List.cons_append, List.nil_append, opd, Env.put, Env.at, List.set_cons_zero, List.set_cons_succ, List.getD_cons_zero, List.getD_cons_succ, freezeL, resVs, oneOr, Option.map_some, Option.map_none, List.map_cons, List.map_nil, if_true, if_false, Bool.not_true, Bool.not_false, Bool.false_eq_true, reduceIte, decide_true, decide_false, Int.reduceLT, Int.reduceLE, Int.reduceGT, Int.reduceGE, Int.reduceEq, Int.reduceBEq, Int.reduceBNe, load_ptr, ldV_some, cellAt_cells, List.getElem?_cons_zero, List.getElem?_cons_succ, store_ptr, stO_some, setAt_0, setAt_1, setAt_2, setAt_3, setAt_4, setAt_5, setAt_6, setAt_7, setAt_8, setAt_9, setAt_10, setAt_11, setAt_12, cells_int, cells_bool, cells_str, cells_nils, cells_nilp, cells_ptr, cells_sl, cells_u8, cells_u16, cells_agg, get_upd_is, Option.isSome_some, upd_upd, ev1_nchkV, ev1_faV, nchkV_ptr, faV_ptr, ev1_extV, extV_tup, eqptr_nil, eqptr_ptr, Nat.zero_add, Nat.add_zero, qPL0, qPL1, qPL2, qPL3, qPL4, qPL5, beq_self_eq_true, qED0, qED1, placeR] at hh
        cases hh
      · simp only [M10b1, E10a, l0, dd1, fx, qES0, qES1, qES2, env0, List.length_cons, List.length_nil, Nat.reduceAdd, Nat.reduceSub, List.replicate, List.cons_append, List.nil_append, opd, Env.put, Env.at, List.set_cons_zero, List.set_cons_succ, List.getD_cons_zero, List.getD_cons_succ, freezeL, resVs, oneOr, Option.map_some, Option.map_none, List.map_cons, List.map_nil, if_true, if_false, Bool.not_true, Bool.not_false, Bool.false_eq_true, reduceIte, decide_true, decide_false, Int.reduceLT, Int.reduceLE, Int.reduceGT, Int.reduceGE, Int.reduceEq, Int.reduceBEq, Int.reduceBNe, load_ptr, ldV_some, cellAt_cells, List.getElem?_cons_zero, List.getElem?_cons_succ, store_ptr, stO_some, setAt_0, setAt_1, setAt_2, setAt_3, setAt_4, setAt_5, setAt_6, setAt_7, setAt_8, setAt_9, setAt_10, setAt_11, setAt_12, cells_int, cells_bool, cells_str, cells_nils, cells_nilp, cells_ptr, cells_sl, cells_u8, cells_u16, cells_agg, get_upd_is, Option.isSome_some, upd_upd, ev1_nchkV, ev1_faV, nchkV_ptr, faV_ptr, ev1_extV, extV_tup, eqptr_nil, eqptr_ptr, Nat.zero_add, Nat.add_zero, qPL0, qPL1, qPL2, qPL3, qPL4, qPL5, beq_self_eq_true, qED0, qED1, placeR] at hh
        cases hh
end Go.Proofs.YtochnineebgbgaaDoor
