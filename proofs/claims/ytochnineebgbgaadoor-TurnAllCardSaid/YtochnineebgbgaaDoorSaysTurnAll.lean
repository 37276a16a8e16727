/- What the evaluator says of the law TurnAll: true. No conditions. -/
import Derived.Test.YtochnineebgbgaaDoorTa
import Derived.Test.YtochnineebgbgaaDoorPlainT12
namespace Go.Proofs.YtochnineebgbgaaDoor.turnAll
open Go Go.Ab
set_option linter.unusedVariables false
set_option linter.unusedSimpArgs false
set_option maxRecDepth 100000 in
set_option maxHeartbeats 8000000 in
theorem says (n0 : Int) (hn0 : IntKind.has .i64 n0) (as1 : List Ab.AV) (hs1 : Ab.ScL Tryd.prog dealTypes as1) (x2 : Ab.AV) (z2 : List (List Ab.AV)) (hx2 : IsOps x2 z2) : Ab.saysTrue (evO 1000 18 [.int .i64 n0, .agg as1, x2] Ab.St.nil) = true := by
  obtain ⟨baud, silent, win, size, wait, rfl⟩ := deal_of hs1
  have h21 := o21 998
  have m1 := i64_rem n0 2 (by omega)
  have r1 := tmR n0 2 (by omega)
  have w1 : IntKind.i64.wrap (n0.tmod 2 + 2) = n0.tmod 2 + 2 := wrapI _ (by omega) (by omega)
  have m2 := i64_rem (n0.tmod 2 + 2) 2 (by omega)
  have v0 : 0 ≤ (n0.tmod 2 + 2).tmod 2 := Int.tmod_nonneg _ (by omega)
  have v1 : (n0.tmod 2 + 2).tmod 2 < 2 := Int.tmod_lt_of_pos _ (by omega)
  obtain ⟨R, w3, hR⟩ : ∃ R : Int, IntKind.i64.wrap (1 + (n0.tmod 2 + 2).tmod 2) = R ∧ (R = 1 ∨ R = 2) := by
    refine ⟨1 + (n0.tmod 2 + 2).tmod 2, wrapI _ (by omega) (by omega), by omega⟩
  have m3 := i64_rem size 70 (by omega)
  have r3 := tmR size 70 (by omega)
  have w4 : IntKind.i64.wrap (size.tmod 70 + 70) = size.tmod 70 + 70 := wrapI _ (by omega) (by omega)
  have m4 := i64_rem (size.tmod 70 + 70) 70 (by omega)
  have u0 : 0 ≤ (size.tmod 70 + 70).tmod 70 := Int.tmod_nonneg _ (by omega)
  obtain ⟨Z, hZ⟩ : ∃ Z, (size.tmod 70 + 70).tmod 70 = Z := ⟨_, rfl⟩
  rw [hZ] at m4
  have hcl := clampW_le win
  obtain ⟨W, hW⟩ : ∃ W : Nat, clampW win = (W : Int) := ⟨(clampW win).toNat, by omega⟩
  have A0 : Apart St.nil [] := Apart.nil (fun _ _ => rfl)
  have A1 := A0.new (.cells 0 [.int .i64 baud, .int .i64 silent, .int .i64 win, .int .i64 Z, .int .i64 wait])
  rw [show St.nil.new (.cells 0 [.int .i64 baud, .int .i64 silent, .int .i64 win, .int .i64 Z, .int .i64 wait]) = St.nil.pl [.cells 0 [.int .i64 baud, .int .i64 silent, .int .i64 win, .int .i64 Z, .int .i64 wait]] from rfl] at A1
  obtain ⟨S1, t, o, ii, c1, A2⟩ := A1.newTurn R hR baud silent win Z wait _ rfl W hW
  obtain ⟨S2, w, wo, c2, A3⟩ := A2.newR 997 R baud silent win Z wait rfl hW
  have gA := (A2.get (b := St.nil.next) (o := .cells 0 [.int .i64 baud, .int .i64 silent, .int .i64 win, .int .i64 Z, .int .i64 wait]) (by simp)).1
  have H : Ta S2 t o ii w wo (if 64 < Z then 64 else Z) W (tn0 R) := Apart.take (Apart.third A3) 3
  have hI : Sane (tn0 R) := ⟨hR, by simp [tn0], by simp [tn0], by simp [tn0], by simp [tn0], by simp [tn0], by simp [tn0], by simp [tn0]⟩
  have key := loopA x2 z2 hx2 S2 W (by omega) _ t o ii w wo (tn0 R) hI H
  rw [show (1000 : Nat) = 999 + 1 from rfl, evO_in rfl tab18]
  suffices hv : valR (outR M18.res (evC tabGl (evO 999) 999 M18.body (env0 M18.ntmps [.int .i64 n0, .agg [.int .i64 baud, .int .i64 silent, .int .i64 win, .int .i64 size, .int .i64 wait], x2]) (St.nil.pl []))) = some (.bool true) by
    obtain ⟨v0, s', h1, h2⟩ := valR_of hv
    have : v0 = .bool true := by
      cases v0 with
      | bool b => exact h2
      | tup l => cases h2
      | _ => cases h2
    rw [this] at h1
    exact (congrArg Ab.saysTrue h1)
  simp only [M18, h21, m1, m2, w1, w3, m3, w4, m4, hZ, ev1_boxV, boxV_some, c1, c2, gA, evC_loop, qES0, qES1, qES2, env0, List.length_cons, List.length_nil, Nat.reduceAdd, Nat.reduceSub, List.replicate, List.cons_append, List.nil_append, opd, Env.put, Env.at, List.set_cons_zero, List.set_cons_succ, List.getD_cons_zero, List.getD_cons_succ, freezeL, resVs, oneOr, Option.map_some, Option.map_none, List.map_cons, List.map_nil, if_true, if_false, Bool.not_true, Bool.not_false, Bool.false_eq_true, reduceIte, decide_true, decide_false, Int.reduceLT, Int.reduceLE, Int.reduceGT, Int.reduceGE, Int.reduceEq, Int.reduceBEq, Int.reduceBNe, load_ptr, ldV_some, cellAt_cells, List.getElem?_cons_zero, List.getElem?_cons_succ, store_ptr, stO_some, setAt_0, setAt_1, setAt_2, setAt_3, setAt_4, setAt_5, setAt_6, setAt_7, setAt_8, setAt_9, setAt_10, setAt_11, setAt_12, cells_int, cells_bool, cells_str, cells_nils, cells_nilp, cells_ptr, cells_sl, cells_u8, cells_u16, cells_agg, get_upd_is, Option.isSome_some, upd_upd, ev1_nchkV, ev1_faV, nchkV_ptr, faV_ptr, ev1_extV, extV_tup, eqptr_nil, eqptr_ptr, Nat.zero_add, Nat.add_zero, qPL0, qPL1, qPL2, qPL3, qPL4, qPL5, beq_self_eq_true, qED0, qED1, placeR]
  rw [drawR_ok]; case h => simp (config := {decide := true}) [calm, calmPair, calmTwo, List.range, List.range.loop, sameO_refl, plg0, gA]
  simp only [ev1_eqv, eqptr_nil, eqptr_ptr, evC_loop, qES0, qES1, qES2, env0, List.length_cons, List.length_nil, Nat.reduceAdd, Nat.reduceSub, List.replicate, List.cons_append, List.nil_append, opd, Env.put, Env.at, List.set_cons_zero, List.set_cons_succ, List.getD_cons_zero, List.getD_cons_succ, freezeL, resVs, oneOr, Option.map_some, Option.map_none, List.map_cons, List.map_nil, if_true, if_false, Bool.not_true, Bool.not_false, Bool.false_eq_true, reduceIte, decide_true, decide_false, Int.reduceLT, Int.reduceLE, Int.reduceGT, Int.reduceGE, Int.reduceEq, Int.reduceBEq, Int.reduceBNe, load_ptr, ldV_some, cellAt_cells, List.getElem?_cons_zero, List.getElem?_cons_succ, store_ptr, stO_some, setAt_0, setAt_1, setAt_2, setAt_3, setAt_4, setAt_5, setAt_6, setAt_7, setAt_8, setAt_9, setAt_10, setAt_11, setAt_12, cells_int, cells_bool, cells_str, cells_nils, cells_nilp, cells_ptr, cells_sl, cells_u8, cells_u16, cells_agg, get_upd_is, Option.isSome_some, upd_upd, ev1_nchkV, ev1_faV, nchkV_ptr, faV_ptr, ev1_extV, extV_tup, eqptr_nil, eqptr_ptr, Nat.zero_add, Nat.add_zero, qPL0, qPL1, qPL2, qPL3, qPL4, qPL5, beq_self_eq_true, qED0, qED1, placeR]
  exact key _ rfl
end Go.Proofs.YtochnineebgbgaaDoor.turnAll
