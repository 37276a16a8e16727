/- What the evaluator says of the law TurnOther: true. No conditions. -/
import Derived.Test.YtochnineebgbgaaDoorTurn3
import Derived.Test.YtochnineebgbgaaDoorM12y
import Derived.Test.YtochnineebgbgaaDoorPlainT12
import Derived.Test.YtochnineebgbgaaDoorArgS
namespace Go.Proofs.YtochnineebgbgaaDoor.turnOther
open Go Go.Ab
set_option linter.unusedVariables false
set_option linter.unusedSimpArgs false
set_option maxRecDepth 100000 in
set_option maxHeartbeats 8000000 in
theorem says (n0 : Int) (hn0 : IntKind.has .i64 n0) (as1 : List Ab.AV) (hs1 : Ab.ScL Tryd.prog dealTypes as1) (as2 : List Ab.AV) (hs2 : Ab.ScL Tryd.prog plainTypes as2) : Ab.saysTrue (evO 1000 17 [.int .i64 n0, .agg as1, .agg as2] Ab.St.nil) = true := by
  obtain ⟨baud, silent, win, size, wait, rfl⟩ := deal_of hs1
  obtain ⟨seat, count, cmd, kind, sort, nr, ns, pf, body, rfl⟩ := plain_of hs2
  have h21 := o21 998
  have m1 := i64_rem n0 2 (by omega)
  have r1 := tmR n0 2 (by omega)
  have w1 : IntKind.i64.wrap (n0.tmod 2 + 2) = n0.tmod 2 + 2 := wrapI _ (by omega) (by omega)
  have m2 := i64_rem (n0.tmod 2 + 2) 2 (by omega)
  have v0 : 0 ≤ (n0.tmod 2 + 2).tmod 2 := Int.tmod_nonneg _ (by omega)
  have v1 : (n0.tmod 2 + 2).tmod 2 < 2 := Int.tmod_lt_of_pos _ (by omega)
  have w2 : IntKind.i64.wrap (1 + (n0.tmod 2 + 2).tmod 2) = 1 + (n0.tmod 2 + 2).tmod 2 := wrapI _ (by omega) (by omega)
  obtain ⟨role, hro⟩ : ∃ role : Int, 1 + (n0.tmod 2 + 2).tmod 2 = role := ⟨_, rfl⟩
  have hr : role = 1 ∨ role = 2 := by omega
  rw [hro] at w2
  obtain ⟨PA, hPA⟩ : ∃ PA, (St.nil.new (.cells 0 [.int .i64 baud, .int .i64 silent, .int .i64 win, .int .i64 size, .int .i64 wait])).next = PA := ⟨_, rfl⟩
  obtain ⟨S2, hS2⟩ : ∃ S2, (St.nil.new (.cells 0 [.int .i64 baud, .int .i64 silent, .int .i64 win, .int .i64 size, .int .i64 wait])).new (.cells 0 (plC seat count cmd kind sort nr ns pf body)) = S2 := ⟨_, rfl⟩
  have pa : PA = St.nil.next + 1 := hPA.symm
  have gP : S2.get PA = some (.cells 0 (plC seat count cmd kind sort nr ns pf body)) := by rw [← hS2, ← hPA]; exact get_new_eq _ _
  have gD : S2.get St.nil.next = some (.cells 0 [.int .i64 baud, .int .i64 silent, .int .i64 win, .int .i64 size, .int .i64 wait]) := by rw [← hS2, get_new_ne _ _ (by rw [hPA, pa]; omega)]; exact get_new_eq _ _
  have nP : PA < S2.next := by rw [← hS2, ← hPA]; simp [St.new]
  obtain ⟨S3, t, o, i, c1, c2, c3, c4, c5, c6⟩ := new_evT 997 (S2.upd St.nil.next (.cells 0 [.int .i64 baud, .int .i64 silent, .int .i64 win, .int .i64 8, .int .i64 wait])) role baud silent win 8 wait hr
  have nU : (S2.upd St.nil.next (.cells 0 [.int .i64 baud, .int .i64 silent, .int .i64 win, .int .i64 8, .int .i64 wait])).next = S2.next := rfl
  rw [nU] at c3 c4 c5
  have gP3 : S3.get PA = some (.cells 0 (plC seat count cmd kind sort nr ns pf body)) := (c6 t o i).2 _ _ _ (by rw [nU]; exact nP) (by omega) (by omega) (by omega) (by rw [get_upd_ne _ _ (by omega)]; exact gP)
  have nP3 : PA < S3.next := by have := (c6 t o i).1; rw [nU] at this; omega
  obtain ⟨S4, d1, d2, d3⟩ := put_evT 997 [97] c2 (by decide) (by decide)
  have gP4 := d3.2 _ _ _ nP3 (by omega) (by omega) (by omega) gP3
  have nP4 : PA < S4.next := by have := d3.1; omega
  have e1 := mine_evT 998 d2
  have d5 := d2.updC (c := PA) (by omega) (by omega) (by omega) gP4 (.cells 0 (plC seat count (role == 1) kind sort nr ns pf body))
  have gP5 : (S4.upd PA (.cells 0 (plC seat count (role == 1) kind sort nr ns pf body))).get PA = some (.cells 0 (plC seat count (role == 1) kind sort nr ns pf body)) := get_upd_eq _ _ gP4
  obtain ⟨S6, f1, f2, f3⟩ := take_no 997 d5 hr seat count (role == 1) kind sort nr ns pf body (by rcases hr with rfl | rfl <;> exact .inl (by decide))
  have gP6 := f3.2 _ _ _ (by simpa [St.upd] using nP4) (by omega) (by omega) (by omega) gP5
  have d7 := f2.updC (c := PA) (by omega) (by omega) (by omega) gP6 (.cells 0 (plC seat count (!(role == 1)) 3 sort nr ns pf body))
  have gP7 : (S6.upd PA (.cells 0 (plC seat count (!(role == 1)) 3 sort nr ns pf body))).get PA = some (.cells 0 (plC seat count (!(role == 1)) 3 sort nr ns pf body)) := get_upd_eq _ _ gP6
  obtain ⟨S8, k1, k2, k3⟩ := take_no 997 d7 hr seat count (!(role == 1)) 3 sort nr ns pf body (.inr (by decide))
  have e2 := mine_evT 998 k2
  have e3 := left_evT 997 k2
  have w0 : ∀ (a b : Bool), eqAV (.flat (.one .b)) (.bool a) (.bool b) = some (a == b) := fun a b => rfl
  have se : binV .eql (.str []) (.str []) = some (.bool true) := rfl
  have uu : ∀ p q, (S6.upd PA p).upd PA q = S6.upd PA q := fun p q => upd_upd _ _ _ _
  have gg : ∀ q, (S6.upd PA q).get PA = some q := fun q => get_upd_eq _ _ gP6
  have gg4 : ∀ q, (S4.upd PA q).get PA = some q := fun q => get_upd_eq _ _ gP4
  have ggD : ∀ q, (S2.upd St.nil.next q).get St.nil.next = some q := fun q => get_upd_eq _ _ gD
  rw [show (1000 : Nat) = 999 + 1 from rfl, evO_in rfl tab17]
  unfold plC at *
  simp only [M17, h21, m1, m2, w1, w2, hro, ev1_boxV, boxV_some, hPA, hS2, gD, ggD, gg, gg4, uu, gP3, gP4, gP6, c1, d1, e1, f1, k1, e2, e3, w0, se, ev1_eqv, beq_self_eq_true, qES0, qES1, qES2, env0, List.length_cons, List.length_nil, Nat.reduceAdd, Nat.reduceSub, List.replicate, List.cons_append, List.nil_append, opd, Env.put, Env.at, List.set_cons_zero, List.set_cons_succ, List.getD_cons_zero, List.getD_cons_succ, freezeL, resVs, oneOr, Option.map_some, Option.map_none, List.map_cons, List.map_nil, if_true, if_false, Bool.not_true, Bool.not_false, Bool.false_eq_true, reduceIte, decide_true, decide_false, Int.reduceLT, Int.reduceLE, Int.reduceGT, Int.reduceGE, Int.reduceEq, Int.reduceBEq, Int.reduceBNe, load_ptr, ldV_some, cellAt_cells, List.getElem?_cons_zero, List.getElem?_cons_succ, store_ptr, stO_some, setAt_0, setAt_1, setAt_2, setAt_3, setAt_4, setAt_5, setAt_6, setAt_7, setAt_8, setAt_9, setAt_10, setAt_11, setAt_12, cells_int, cells_bool, cells_str, cells_nils, cells_nilp, cells_ptr, cells_sl, cells_u8, cells_u16, cells_agg, get_upd_is, Option.isSome_some, upd_upd, ev1_nchkV, ev1_faV, nchkV_ptr, faV_ptr, ev1_extV, extV_tup, eqptr_nil, eqptr_ptr, Nat.zero_add, Nat.add_zero, qPL0, qPL1, qPL2, qPL3, qPL4, qPL5, beq_self_eq_true]
  rfl
end Go.Proofs.YtochnineebgbgaaDoor.turnOther
