/- What the evaluator says of the law TurnAck: true. No conditions. -/
import Derived.Test.YtochnineebgbgaaDoorAck
import Derived.Test.YtochnineebgbgaaDoorPlainT12
import Derived.Test.YtochnineebgbgaaDoorArgS
namespace Go.Proofs.YtochnineebgbgaaDoor.turnAck
open Go Go.Ab
set_option linter.unusedVariables false
set_option linter.unusedSimpArgs false
set_option maxRecDepth 100000 in
set_option maxHeartbeats 8000000 in
theorem says (as0 : List Ab.AV) (hs0 : Ab.ScL Tryd.prog dealTypes as0) (n1 : Int) (hn1 : IntKind.has .i64 n1) (n2 : Int) (hn2 : IntKind.has .i64 n2) (t3 : Bool) : Ab.saysTrue (evO 1000 16 [.agg as0, .int .i64 n1, .int .i64 n2, .bool t3] Ab.St.nil) = true := by
  obtain ⟨baud, silent, win, size, wait, rfl⟩ := deal_of hs0
  have h21 := o21 998
  have m1 := i64_rem n1 9 (by omega)
  have r1 := tmR n1 9 (by omega)
  have w1 : IntKind.i64.wrap (n1.tmod 9 + 9) = n1.tmod 9 + 9 := wrapI _ (by omega) (by omega)
  have m2 := i64_rem (n1.tmod 9 + 9) 9 (by omega)
  have v0 : 0 ≤ (n1.tmod 9 + 9).tmod 9 := Int.tmod_nonneg _ (by omega)
  have v1 : (n1.tmod 9 + 9).tmod 9 < 9 := Int.tmod_lt_of_pos _ (by omega)
  obtain ⟨N, hN⟩ : ∃ N : Nat, (n1.tmod 9 + 9).tmod 9 = (N : Int) := ⟨((n1.tmod 9 + 9).tmod 9).toNat, by omega⟩
  have gD : (St.nil.new (.cells 0 [.int .i64 baud, .int .i64 silent, .int .i64 win, .int .i64 size, .int .i64 wait])).get St.nil.next = some (.cells 0 [.int .i64 baud, .int .i64 silent, .int .i64 win, .int .i64 size, .int .i64 wait]) := get_new_eq _ _
  obtain ⟨S1, hS1⟩ : ∃ S1, St.nil.new (.cells 0 [.int .i64 baud, .int .i64 silent, .int .i64 win, .int .i64 size, .int .i64 wait]) = S1 := ⟨_, rfl⟩
  rw [hS1] at gD
  have ggD : ∀ q, (S1.upd St.nil.next q).get St.nil.next = some q := fun q => get_upd_eq _ _ gD
  obtain ⟨S3, t, o, ix, c1, c2, _, _, _, _⟩ := new_evT 997 (S1.upd St.nil.next (.cells 0 [.int .i64 baud, .int .i64 silent, .int .i64 win, .int .i64 8, .int .i64 wait])) 1 baud silent win 8 wait (.inl rfl)
  have hcl := clampW_le win
  obtain ⟨Wn, hWn⟩ : ∃ Wn : Nat, clampW win = (Wn : Int) := ⟨(clampW win).toNat, by omega⟩
  rw [hWn] at c2
  have c2' : TurnAt S3 t o ix 1 8 true (Wn : Nat) [] 0 0 0 false := c2
  have hp : ∀ e, maskE M16b1l e = E16 N n2 t3 t 0 → ∃ S, iter (evC tabGl (evO 999) 999 M16b1) M16b1l 999 e S3 = some (.exit 0, X16 N n2 t3 t, S) ∧ TurnAt S t o ix 1 8 true (Wn : Nat) (bdQ N) 0 0 0 false := fun e he => loopP16 N n2 t3 (by omega) c2' e he
  obtain ⟨S4, d1, d2⟩ := hp (E16 N n2 t3 t 0) rfl
  have hl1 : ∀ e, maskE M16b1l e = E16 N n2 t3 t 0 → iter (evC tabGl (evO 999) 999 M16b1) M16b1l 999 e S3 = some (.exit 0, X16 N n2 t3 t, S4) := by
    intro e he
    rw [← d1, show (999 : Nat) = 998 + 1 from rfl, iter_succ, iter_succ, he]
    rfl
  obtain ⟨S5, g1, g2, _⟩ := go_ev 969 Wn 0 d2 (.inl rfl) (by rw [bdQ_len]; omega) (by omega) (by omega)
  rw [bdQ_len] at g1 g2
  obtain ⟨m, hm⟩ : ∃ m, m = min Wn N := ⟨_, rfl⟩
  rw [← hm] at g1 g2
  rw [show max 0 m = m by omega] at g2
  obtain ⟨S6, k1, k2⟩ := loopC16 N n2 t3 (1 == 1) 0 0 (bdQ N) false m (by omega) g2 (E16c N n2 t3 t (.sl (goC (1 == 1) 0 0 (bdQ N) false m) (max 1 m) none) (max 1 m) 0 0) rfl
  have hl0 : ∀ e, maskE M16b0l e = E16c N n2 t3 t (.sl (goC (1 == 1) 0 0 (bdQ N) false m) (max 1 m) none) (max 1 m) 0 0 → iter (evC tabGl (evO 999) 999 M16b0) M16b0l 999 e S5 = some (.exit 2, X16c N n2 t3 t (.sl (goC (1 == 1) 0 0 (bdQ N) false m) (max 1 m) none) (max 1 m) (m : Nat), S6) := by
    intro e he
    rw [← k1, show (999 : Nat) = 998 + 1 from rfl, iter_succ, iter_succ, he]
    rfl
  have u1 : IntKind.i64.wrap (((m : Nat) : Int) + 1) = ((m + 1 : Nat) : Int) := (wrapI _ (by omega) (by omega)).trans (by omega)
  have m5 := i64_rem n2 ((m + 1 : Nat) : Int) (by omega)
  have r3 := tmR n2 ((m + 1 : Nat) : Int) (by omega)
  have u2 : IntKind.i64.wrap (n2.tmod ((m + 1 : Nat) : Int) + ((m : Nat) : Int)) = n2.tmod ((m + 1 : Nat) : Int) + ((m : Nat) : Int) := wrapI _ (by omega) (by omega)
  have u3 : IntKind.i64.wrap (n2.tmod ((m + 1 : Nat) : Int) + ((m : Nat) : Int) + 1) = n2.tmod ((m + 1 : Nat) : Int) + ((m : Nat) : Int) + 1 := wrapI _ (by omega) (by omega)
  have m6 := i64_rem (n2.tmod ((m + 1 : Nat) : Int) + ((m : Nat) : Int) + 1) ((m + 1 : Nat) : Int) (by omega)
  have k0' : 0 ≤ (n2.tmod ((m + 1 : Nat) : Int) + ((m : Nat) : Int) + 1).tmod ((m + 1 : Nat) : Int) := Int.tmod_nonneg _ (by omega)
  have k1' : (n2.tmod ((m + 1 : Nat) : Int) + ((m : Nat) : Int) + 1).tmod ((m + 1 : Nat) : Int) < ((m + 1 : Nat) : Int) := Int.tmod_lt_of_pos _ (by omega)
  obtain ⟨K, hK⟩ : ∃ K : Nat, (n2.tmod ((m + 1 : Nat) : Int) + ((m : Nat) : Int) + 1).tmod ((m + 1 : Nat) : Int) = (K : Int) := ⟨((n2.tmod ((m + 1 : Nat) : Int) + ((m : Nat) : Int) + 1).tmod ((m + 1 : Nat) : Int)).toNat, by omega⟩
  rw [hK] at m6
  have hKm : K ≤ m := by omega
  have hac : accepts (K : Nat) 0 m := by unfold accepts; omega
  have hK8 : (((K : Nat) : Int) - 0) % 8 = (K : Int) := by omega
  have se : ∀ b : List UInt8, binV .eql (.str b) (.str b) = some (.bool true) := fun b => by show some (AV.bool (b == b)) = _; simp
  have w0 : ∀ (a b : Bool), eqAV (.flat (.one .b)) (.bool a) (.bool b) = some (a == b) := fun a b => rfl
  have wK : IntKind.i64.wrap (((N : Nat) : Int) - (K : Int)) = ((N - K : Nat) : Int) := (wrapI _ (by omega) (by omega)).trans (by omega)
  have lnS : ∀ cs (q : Nat) tk, lenV (.sl cs q tk) = some (.int .i64 (q : Nat)) := fun _ _ _ => rfl
  have ke : ((N - K : Nat) : Int) = ((N - K : Nat) : Int) := rfl
  have e3 : (1 : Int) ≠ 2 := by decide
  have hT7 : TurnAt (S6.pl [.cells 0 (plC 0 0 false (if t3 = true then 1 else 2) 0 (K : Nat) 0 true (if t3 = true then [122] else []))]) t o ix 1 8 false (Wn : Nat) (bdQ N) 0 ((m : Nat) : Int) 0 false := k2.new _
  obtain ⟨S8, f1, f2, _⟩ := take_evT 994 m hT7 (.inl rfl) 0 0 false rfl (if t3 = true then 1 else 2) 0 (K : Nat) 0 true (if t3 = true then [122] else []) (by cases t3 <;> decide) (by rw [bdQ_len]; omega) (by omega) (by omega) (by omega) (by omega) (by omega)
  simp only [hac, if_true, hK8, Int.toNat_natCast] at f2
  have e1 := mine_evT 998 f2
  have e2 := left_evT 997 f2
  rw [List.length_drop, bdQ_len] at e2
  rw [show (1000 : Nat) = 999 + 1 from rfl, evO_in rfl tab16]
  simp only [M16, h21, m1, m2, w1, hN, ev1_boxV, boxV_some, hS1, gD, ggD, c1, evC_loop, qES0, qES1, qES2, env0, List.length_cons, List.length_nil, Nat.reduceAdd, Nat.reduceSub, List.replicate, List.cons_append, List.nil_append, opd, Env.put, Env.at, List.set_cons_zero, List.set_cons_succ, List.getD_cons_zero, List.getD_cons_succ, freezeL, resVs, oneOr, Option.map_some, Option.map_none, List.map_cons, List.map_nil, if_true, if_false, Bool.not_true, Bool.not_false, Bool.false_eq_true, reduceIte, decide_true, decide_false, Int.reduceLT, Int.reduceLE, Int.reduceGT, Int.reduceGE, Int.reduceEq, Int.reduceBEq, Int.reduceBNe, load_ptr, ldV_some, cellAt_cells, List.getElem?_cons_zero, List.getElem?_cons_succ, store_ptr, stO_some, setAt_0, setAt_1, setAt_2, setAt_3, setAt_4, setAt_5, setAt_6, setAt_7, setAt_8, setAt_9, setAt_10, setAt_11, setAt_12, cells_int, cells_bool, cells_str, cells_nils, cells_nilp, cells_ptr, cells_sl, cells_u8, cells_u16, cells_agg, get_upd_is, Option.isSome_some, upd_upd, ev1_nchkV, ev1_faV, nchkV_ptr, faV_ptr, ev1_extV, extV_tup, eqptr_nil, eqptr_ptr, Nat.zero_add, Nat.add_zero, qPL0, qPL1, qPL2, qPL3, qPL4, qPL5, beq_self_eq_true]
  rw [hl1]
  rotate_left
  · rfl
  dsimp only [X16]
  simp only [g1, lnS, evC_loop, qES0, qES1, qES2, env0, List.length_cons, List.length_nil, Nat.reduceAdd, Nat.reduceSub, List.replicate, List.cons_append, List.nil_append, opd, Env.put, Env.at, List.set_cons_zero, List.set_cons_succ, List.getD_cons_zero, List.getD_cons_succ, freezeL, resVs, oneOr, Option.map_some, Option.map_none, List.map_cons, List.map_nil, if_true, if_false, Bool.not_true, Bool.not_false, Bool.false_eq_true, reduceIte, decide_true, decide_false, Int.reduceLT, Int.reduceLE, Int.reduceGT, Int.reduceGE, Int.reduceEq, Int.reduceBEq, Int.reduceBNe, load_ptr, ldV_some, cellAt_cells, List.getElem?_cons_zero, List.getElem?_cons_succ, store_ptr, stO_some, setAt_0, setAt_1, setAt_2, setAt_3, setAt_4, setAt_5, setAt_6, setAt_7, setAt_8, setAt_9, setAt_10, setAt_11, setAt_12, cells_int, cells_bool, cells_str, cells_nils, cells_nilp, cells_ptr, cells_sl, cells_u8, cells_u16, cells_agg, get_upd_is, Option.isSome_some, upd_upd, ev1_nchkV, ev1_faV, nchkV_ptr, faV_ptr, ev1_extV, extV_tup, eqptr_nil, eqptr_ptr, Nat.zero_add, Nat.add_zero, qPL0, qPL1, qPL2, qPL3, qPL4, qPL5, beq_self_eq_true]
  rw [hl0]
  rotate_left
  · rfl
  dsimp only [X16c]
  unfold plC at f1
  rw [show S6 = S6.pl [] from rfl]
  cases t3
  · simp only [if_true, Bool.false_eq_true, if_false, Bool.true_or, Bool.or_true] at f1 e1 e2
    simp only [u1, u2, u3, m5, m6, f1, e1, e2, se, w0, wK, false_and, true_and, and_self, and_true, qES0, qES1, qES2, env0, List.length_cons, List.length_nil, Nat.reduceAdd, Nat.reduceSub, List.replicate, List.cons_append, List.nil_append, opd, Env.put, Env.at, List.set_cons_zero, List.set_cons_succ, List.getD_cons_zero, List.getD_cons_succ, freezeL, resVs, oneOr, Option.map_some, Option.map_none, List.map_cons, List.map_nil, if_true, if_false, Bool.not_true, Bool.not_false, Bool.false_eq_true, reduceIte, decide_true, decide_false, Int.reduceLT, Int.reduceLE, Int.reduceGT, Int.reduceGE, Int.reduceEq, Int.reduceBEq, Int.reduceBNe, load_ptr, ldV_some, cellAt_cells, List.getElem?_cons_zero, List.getElem?_cons_succ, store_ptr, stO_some, setAt_0, setAt_1, setAt_2, setAt_3, setAt_4, setAt_5, setAt_6, setAt_7, setAt_8, setAt_9, setAt_10, setAt_11, setAt_12, cells_int, cells_bool, cells_str, cells_nils, cells_nilp, cells_ptr, cells_sl, cells_u8, cells_u16, cells_agg, get_upd_is, Option.isSome_some, upd_upd, ev1_nchkV, ev1_faV, nchkV_ptr, faV_ptr, ev1_extV, extV_tup, eqptr_nil, eqptr_ptr, Nat.zero_add, Nat.add_zero, qPL0, qPL1, qPL2, qPL3, qPL4, qPL5, beq_self_eq_true]
    rfl
  · simp only [if_true, Bool.false_eq_true, if_false, Bool.true_or, Bool.or_true, and_self] at f1 e1 e2
    simp only [u1, u2, u3, m5, m6, f1, e1, e2, se, w0, wK, false_and, true_and, and_self, and_true, qES0, qES1, qES2, env0, List.length_cons, List.length_nil, Nat.reduceAdd, Nat.reduceSub, List.replicate, List.cons_append, List.nil_append, opd, Env.put, Env.at, List.set_cons_zero, List.set_cons_succ, List.getD_cons_zero, List.getD_cons_succ, freezeL, resVs, oneOr, Option.map_some, Option.map_none, List.map_cons, List.map_nil, if_true, if_false, Bool.not_true, Bool.not_false, Bool.false_eq_true, reduceIte, decide_true, decide_false, Int.reduceLT, Int.reduceLE, Int.reduceGT, Int.reduceGE, Int.reduceEq, Int.reduceBEq, Int.reduceBNe, load_ptr, ldV_some, cellAt_cells, List.getElem?_cons_zero, List.getElem?_cons_succ, store_ptr, stO_some, setAt_0, setAt_1, setAt_2, setAt_3, setAt_4, setAt_5, setAt_6, setAt_7, setAt_8, setAt_9, setAt_10, setAt_11, setAt_12, cells_int, cells_bool, cells_str, cells_nils, cells_nilp, cells_ptr, cells_sl, cells_u8, cells_u16, cells_agg, get_upd_is, Option.isSome_some, upd_upd, ev1_nchkV, ev1_faV, nchkV_ptr, faV_ptr, ev1_extV, extV_tup, eqptr_nil, eqptr_ptr, Nat.zero_add, Nat.add_zero, qPL0, qPL1, qPL2, qPL3, qPL4, qPL5, beq_self_eq_true]
    rfl
end Go.Proofs.YtochnineebgbgaaDoor.turnAck
