/- What the evaluator says of the law TurnSwap: true. No conditions. -/
import Derived.Test.YtochnineebgbgaaDoorSwp5
import Derived.Test.YtochnineebgbgaaDoorPlainT12
namespace Go.Proofs.YtochnineebgbgaaDoor.turnSwap
open Go Go.Ab
set_option linter.unusedVariables false
set_option linter.unusedSimpArgs false
set_option maxRecDepth 100000 in
set_option maxHeartbeats 8000000 in
theorem says (as0 : List Ab.AV) (hs0 : Ab.ScL Tryd.prog dealTypes as0) (n1 : Int) (hn1 : IntKind.has .i64 n1) : Ab.saysTrue (evO 1000 19 [.agg as0, .int .i64 n1] Ab.St.nil) = true := by
  obtain ⟨baud, silent, win, size, wait, rfl⟩ := deal_of hs0
  have h21 := o21 998
  have m1 := i64_rem n1 8 (by omega)
  have r1 := tmR n1 8 (by omega)
  have w1 : IntKind.i64.wrap (n1.tmod 8 + 8) = n1.tmod 8 + 8 := wrapI _ (by omega) (by omega)
  have m2 := i64_rem (n1.tmod 8 + 8) 8 (by omega)
  have v0 : 0 ≤ (n1.tmod 8 + 8).tmod 8 := Int.tmod_nonneg _ (by omega)
  have v1 : (n1.tmod 8 + 8).tmod 8 < 8 := Int.tmod_lt_of_pos _ (by omega)
  obtain ⟨N, hN⟩ : ∃ N : Nat, (n1.tmod 8 + 8).tmod 8 = (N : Int) := ⟨_, (Int.toNat_of_nonneg v0).symm⟩
  rw [hN] at m2 v1
  have hN8 : N < 8 := by omega
  have gD : (St.nil.new (.cells 0 [.int .i64 baud, .int .i64 silent, .int .i64 win, .int .i64 size, .int .i64 wait])).get St.nil.next = some (.cells 0 [.int .i64 baud, .int .i64 silent, .int .i64 win, .int .i64 size, .int .i64 wait]) := get_new_eq _ _
  have wf1 := Wf.upd (Wf.new wf_nil (.cells 0 [.int .i64 baud, .int .i64 silent, .int .i64 win, .int .i64 size, .int .i64 wait])) gD (.cells 0 [.int .i64 baud, .int .i64 silent, .int .i64 win, .int .i64 10, .int .i64 wait])
  obtain ⟨S1, hS1⟩ : ∃ S1, St.nil.new (.cells 0 [.int .i64 baud, .int .i64 silent, .int .i64 win, .int .i64 size, .int .i64 wait]) = S1 := ⟨_, rfl⟩
  have hnx : S1.next = St.nil.next + 1 := by rw [← hS1]; rfl
  rw [hS1] at gD wf1
  have ggD : ∀ q, (S1.upd St.nil.next q).get St.nil.next = some q := fun q => get_upd_eq _ _ gD
  have hcl := clampW_le win
  obtain ⟨W, hW⟩ : ∃ W : Nat, clampW win = (W : Int) := ⟨(clampW win).toNat, by omega⟩
  obtain ⟨s1, s2, ta, oa, ia, tb, ob, ib, c1, c2, hd, same⟩ := two_new _ wf1 baud silent win wait W hW
  have kD := (same St.nil.next (by show St.nil.next < S1.next; omega)).trans (ggD _)
  obtain ⟨S3, p1, hd3⟩ := putsL N hN8 W s2 ta oa ia tb ob ib hd (E19p N ta tb 0) rfl
  have p1' : ∀ e, maskE M19b3l e = E19p N ta tb 0 → iter (evC tabGl (evO 999) 999 M19b3) M19b3l 999 e s2 = some (.exit 0, X19p N ta tb, S3) := fun e he => by
    rw [← p1, show (999 : Nat) = 998 + 1 from rfl, iter_succ, iter_succ, he]
    rfl
  have dg : DuoG (S3.new (.cells 0 [.int .i64 0, .int .i64 0])) ta oa ia tb ob ib 10 W (Sy.start N).a (Sy.start N).b S3.next 0 0 := by
    have hn := hd3.new (.cells 0 [.int .i64 0, .int .i64 0])
    refine ⟨hn, get_new_eq _ _, fun hh => ?_, fun hh => ?_⟩
    · obtain ⟨_, a2⟩ := TurnAt.keep hd3.a (s' := S3.new (.cells 0 [.int .i64 0, .int .i64 0])) (by simp [St.new]) (fun j hj => get_new_ne _ _ (by have := hd3.a.ft_lt hj; omega))
      have := hd3.a.ft_lt (a2 _ hh)
      omega
    · obtain ⟨_, a2⟩ := TurnAt.keep hd3.b (s' := S3.new (.cells 0 [.int .i64 0, .int .i64 0])) (by simp [St.new]) (fun j hj => get_new_ne _ _ (by have := hd3.b.ft_lt hj; omega))
      have := hd3.b.ft_lt (a2 _ hh)
      omega
  have good := swap_good W (by omega) (by omega) N hN8
  obtain ⟨S5, X, q1, q2, q3⟩ := roundsL N hN8 W (by omega) good _ ta oa ia tb ob ib S3.next dg (E19o ta tb S3.next N 0) rfl
  have q1' : ∀ e, maskE M19b2l e = E19o ta tb S3.next N 0 → iter (evC tabGl (evO 999) 999 M19b2) M19b2l 999 e (S3.new (.cells 0 [.int .i64 0, .int .i64 0])) = some (.exit 2, X19o ta tb S3.next N, S5) := fun e he => by
    rw [← q1, show (999 : Nat) = 998 + 1 from rfl, iter_succ, iter_succ, he]
    rfl
  have hfin : X.g0 = N ∧ X.g1 = N ∧ X.a.L = [] ∧ X.b.L = [] := by
    unfold Sy.good at good
    rw [q2] at good
    simp only [Bool.and_eq_true, decide_eq_true_eq] at good
    exact ⟨good.1.1.1, good.1.1.2, good.1.2, good.2⟩
  have la := left_evT 997 q3.duo.a
  have lb := left_evT 997 q3.duo.b
  have gG := q3.g
  rw [hfin.1, hfin.2.1] at gG
  rw [hfin.2.2.1] at la
  rw [hfin.2.2.2] at lb
  have ip0 : ixpV 2 1 (.ptr S3.next 0) (.int .i64 0) = some (.ptr S3.next 0) := rfl
  have ip1 : ixpV 2 1 (.ptr S3.next 0) (.int .i64 1) = some (.ptr S3.next 1) := rfl
  have nn : ((N : Int) == (N : Int)) = true := by simp
  have z0 : ((([] : List (List UInt8)).length : Nat) : Int) = 0 := rfl
  rw [z0] at la lb
  have z1 : ((0 : Int) == 0) = true := rfl
  rw [show (1000 : Nat) = 999 + 1 from rfl, evO_in rfl tab19]
  suffices hv : valR (outR M19.res (evC tabGl (evO 999) 999 M19.body (env0 M19.ntmps [.agg [.int .i64 baud, .int .i64 silent, .int .i64 win, .int .i64 size, .int .i64 wait], .int .i64 n1]) (St.nil.pl []))) = some (.bool true) by
    obtain ⟨v0, s', h1, h2⟩ := valR_of hv
    have : v0 = .bool true := by
      cases v0 with
      | bool b => exact h2
      | tup l => cases h2
      | _ => cases h2
    rw [this] at h1
    exact (congrArg Ab.saysTrue h1)
  rw [show St.nil.pl [] = St.nil from rfl]
  simp only [M19, h21, m1, m2, w1, ev1_boxV, boxV_some, hS1, gD, ggD, kD, c1, c2, evC_loop, qES0, qES1, qES2, env0, List.length_cons, List.length_nil, Nat.reduceAdd, Nat.reduceSub, List.replicate, List.cons_append, List.nil_append, opd, Env.put, Env.at, List.set_cons_zero, List.set_cons_succ, List.getD_cons_zero, List.getD_cons_succ, freezeL, resVs, oneOr, Option.map_some, Option.map_none, List.map_cons, List.map_nil, if_true, if_false, Bool.not_true, Bool.not_false, Bool.false_eq_true, reduceIte, decide_true, decide_false, Int.reduceLT, Int.reduceLE, Int.reduceGT, Int.reduceGE, Int.reduceEq, Int.reduceBEq, Int.reduceBNe, load_ptr, ldV_some, cellAt_cells, List.getElem?_cons_zero, List.getElem?_cons_succ, store_ptr, stO_some, setAt_0, setAt_1, setAt_2, setAt_3, setAt_4, setAt_5, setAt_6, setAt_7, setAt_8, setAt_9, setAt_10, setAt_11, setAt_12, cells_int, cells_bool, cells_str, cells_nils, cells_nilp, cells_ptr, cells_sl, cells_u8, cells_u16, cells_agg, get_upd_is, Option.isSome_some, upd_upd, ev1_nchkV, ev1_faV, nchkV_ptr, faV_ptr, ev1_extV, extV_tup, eqptr_nil, eqptr_ptr, Nat.zero_add, Nat.add_zero, qPL0, qPL1, qPL2, qPL3, qPL4, qPL5, beq_self_eq_true, qED0, qED1, placeR]
  rw [drawR_ok]; case h => simp (config := {decide := true}) [calm, calmPair, calmTwo, List.range, List.range.loop, sameO_refl, ggD, kD]
  simp only [evC_loop, qES0, qES1, qES2, env0, List.length_cons, List.length_nil, Nat.reduceAdd, Nat.reduceSub, List.replicate, List.cons_append, List.nil_append, opd, Env.put, Env.at, List.set_cons_zero, List.set_cons_succ, List.getD_cons_zero, List.getD_cons_succ, freezeL, resVs, oneOr, Option.map_some, Option.map_none, List.map_cons, List.map_nil, if_true, if_false, Bool.not_true, Bool.not_false, Bool.false_eq_true, reduceIte, decide_true, decide_false, Int.reduceLT, Int.reduceLE, Int.reduceGT, Int.reduceGE, Int.reduceEq, Int.reduceBEq, Int.reduceBNe, load_ptr, ldV_some, cellAt_cells, List.getElem?_cons_zero, List.getElem?_cons_succ, store_ptr, stO_some, setAt_0, setAt_1, setAt_2, setAt_3, setAt_4, setAt_5, setAt_6, setAt_7, setAt_8, setAt_9, setAt_10, setAt_11, setAt_12, cells_int, cells_bool, cells_str, cells_nils, cells_nilp, cells_ptr, cells_sl, cells_u8, cells_u16, cells_agg, get_upd_is, Option.isSome_some, upd_upd, ev1_nchkV, ev1_faV, nchkV_ptr, faV_ptr, ev1_extV, extV_tup, eqptr_nil, eqptr_ptr, Nat.zero_add, Nat.add_zero, qPL0, qPL1, qPL2, qPL3, qPL4, qPL5, beq_self_eq_true, qED0, qED1, placeR]
  rw [p1']
  rotate_left
  · rfl
  dsimp only [X19p]
  simp only [evC_loop, get_new_eq, new_upd0, qES0, qES1, qES2, env0, List.length_cons, List.length_nil, Nat.reduceAdd, Nat.reduceSub, List.replicate, List.cons_append, List.nil_append, opd, Env.put, Env.at, List.set_cons_zero, List.set_cons_succ, List.getD_cons_zero, List.getD_cons_succ, freezeL, resVs, oneOr, Option.map_some, Option.map_none, List.map_cons, List.map_nil, if_true, if_false, Bool.not_true, Bool.not_false, Bool.false_eq_true, reduceIte, decide_true, decide_false, Int.reduceLT, Int.reduceLE, Int.reduceGT, Int.reduceGE, Int.reduceEq, Int.reduceBEq, Int.reduceBNe, load_ptr, ldV_some, cellAt_cells, List.getElem?_cons_zero, List.getElem?_cons_succ, store_ptr, stO_some, setAt_0, setAt_1, setAt_2, setAt_3, setAt_4, setAt_5, setAt_6, setAt_7, setAt_8, setAt_9, setAt_10, setAt_11, setAt_12, cells_int, cells_bool, cells_str, cells_nils, cells_nilp, cells_ptr, cells_sl, cells_u8, cells_u16, cells_agg, get_upd_is, Option.isSome_some, upd_upd, ev1_nchkV, ev1_faV, nchkV_ptr, faV_ptr, ev1_extV, extV_tup, eqptr_nil, eqptr_ptr, Nat.zero_add, Nat.add_zero, qPL0, qPL1, qPL2, qPL3, qPL4, qPL5, beq_self_eq_true, qED0, qED1, placeR]
  rw [q1']
  rotate_left
  · rfl
  dsimp only [X19o]
  simp only [la, lb, gG, ip0, ip1, ev1_ixpV, nn, z1, qES0, qES1, qES2, env0, List.length_cons, List.length_nil, Nat.reduceAdd, Nat.reduceSub, List.replicate, List.cons_append, List.nil_append, opd, Env.put, Env.at, List.set_cons_zero, List.set_cons_succ, List.getD_cons_zero, List.getD_cons_succ, freezeL, resVs, oneOr, Option.map_some, Option.map_none, List.map_cons, List.map_nil, if_true, if_false, Bool.not_true, Bool.not_false, Bool.false_eq_true, reduceIte, decide_true, decide_false, Int.reduceLT, Int.reduceLE, Int.reduceGT, Int.reduceGE, Int.reduceEq, Int.reduceBEq, Int.reduceBNe, load_ptr, ldV_some, cellAt_cells, List.getElem?_cons_zero, List.getElem?_cons_succ, store_ptr, stO_some, setAt_0, setAt_1, setAt_2, setAt_3, setAt_4, setAt_5, setAt_6, setAt_7, setAt_8, setAt_9, setAt_10, setAt_11, setAt_12, cells_int, cells_bool, cells_str, cells_nils, cells_nilp, cells_ptr, cells_sl, cells_u8, cells_u16, cells_agg, get_upd_is, Option.isSome_some, upd_upd, ev1_nchkV, ev1_faV, nchkV_ptr, faV_ptr, ev1_extV, extV_tup, eqptr_nil, eqptr_ptr, Nat.zero_add, Nat.add_zero, qPL0, qPL1, qPL2, qPL3, qPL4, qPL5, beq_self_eq_true, qED0, qED1, placeR]
end Go.Proofs.YtochnineebgbgaaDoor.turnSwap
