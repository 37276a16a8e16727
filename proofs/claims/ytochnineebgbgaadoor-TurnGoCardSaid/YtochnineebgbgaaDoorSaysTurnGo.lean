/- What the evaluator says of the law TurnGo: true. No conditions. -/
import Derived.Test.YtochnineebgbgaaDoorTGp
import Derived.Test.YtochnineebgbgaaDoorPlainT12
namespace Go.Proofs.YtochnineebgbgaaDoor.turnGo
open Go Go.Ab
set_option linter.unusedVariables false
set_option linter.unusedSimpArgs false
set_option maxRecDepth 100000 in
set_option maxHeartbeats 8000000 in
theorem says (n0 : Int) (hn0 : IntKind.has .i64 n0) (as1 : List Ab.AV) (hs1 : Ab.ScL Tryd.prog dealTypes as1) (x2 : Ab.AV) (z2 : List (List UInt8)) (hx2 : Ab.IsStrs x2 z2) : Ab.saysTrue (evO 1000 10 [.int .i64 n0, .agg as1, x2] Ab.St.nil) = true := by
  obtain ⟨baud, silent, win, size, wait, rfl⟩ := deal_of hs1
  have h21 := o21 998
  have m1 := i64_rem n0 2 (by omega)
  have r1 := tmR n0 2 (by omega)
  have w1 : IntKind.i64.wrap (n0.tmod 2 + 2) = n0.tmod 2 + 2 := wrapI _ (by omega) (by omega)
  have m2 := i64_rem (n0.tmod 2 + 2) 2 (by omega)
  have v0 : 0 ≤ (n0.tmod 2 + 2).tmod 2 := Int.tmod_nonneg _ (by omega)
  have v1 : (n0.tmod 2 + 2).tmod 2 < 2 := Int.tmod_lt_of_pos _ (by omega)
  obtain ⟨R, w3, hR⟩ : ∃ R : Int, IntKind.i64.wrap (1 + (n0.tmod 2 + 2).tmod 2) = R ∧ (R = 1 ∨ R = 2) := by
    refine ⟨1 + (n0.tmod 2 + 2).tmod 2, wrapI _ (by omega) (by omega), by omega⟩
  have gD : (St.nil.new (.cells 0 [.int .i64 baud, .int .i64 silent, .int .i64 win, .int .i64 size, .int .i64 wait])).get St.nil.next = some (.cells 0 [.int .i64 baud, .int .i64 silent, .int .i64 win, .int .i64 size, .int .i64 wait]) := get_new_eq _ _
  obtain ⟨S1, hS1⟩ : ∃ S1, St.nil.new (.cells 0 [.int .i64 baud, .int .i64 silent, .int .i64 win, .int .i64 size, .int .i64 wait]) = S1 := ⟨_, rfl⟩
  have hnx : S1.next = St.nil.next + 1 := by rw [← hS1]; rfl
  rw [hS1] at gD
  have ggD : ∀ q, (S1.upd St.nil.next q).get St.nil.next = some q := fun q => get_upd_eq _ _ gD
  obtain ⟨S3, t, o, ix, c1, c2, c3, c4, c5, c6⟩ := new_evT 997 (S1.upd St.nil.next (.cells 0 [.int .i64 baud, .int .i64 silent, .int .i64 win, .int .i64 64, .int .i64 wait])) R baud silent win 64 wait hR
  have hcl := clampW_le win
  obtain ⟨W, hW⟩ : ∃ W : Nat, clampW win = (W : Int) := ⟨(clampW win).toNat, by omega⟩
  rw [hW] at c2
  have c2' : TurnAt S3 t o ix R 64 (R == 1) (W : Nat) [] 0 0 0 false := c2
  have hnx2 : (S1.upd St.nil.next (.cells 0 [.int .i64 baud, .int .i64 silent, .int .i64 win, .int .i64 64, .int .i64 wait])).next = St.nil.next + 1 := hnx
  rw [hnx2] at c3 c4 c5
  have kD := (c6 t o ix).2 St.nil.next _ _ (by rw [hnx2]; omega) (by omega) (by omega) (by omega) (ggD _)
  have kl : St.nil.next < S3.next := by have := (c6 t o ix).1; rw [hnx2] at this; omega
  have key := goL1 x2 z2 hx2 R hR St.nil.next t o ix baud silent win wait W hW S3 c2' kD kl (by omega) (by omega) (by omega)
  rw [show (1000 : Nat) = 999 + 1 from rfl, evO_in rfl tab10]
  suffices hv : valR (outR M10.res (evC tabGl (evO 999) 999 M10.body (env0 M10.ntmps [.int .i64 n0, .agg [.int .i64 baud, .int .i64 silent, .int .i64 win, .int .i64 size, .int .i64 wait], x2]) (St.nil.pl []))) = some (.bool true) by
    obtain ⟨v0, s', h1, h2⟩ := valR_of hv
    have : v0 = .bool true := by
      cases v0 with
      | bool b => exact h2
      | tup l => cases h2
      | _ => cases h2
    rw [this] at h1
    exact (congrArg Ab.saysTrue h1)
  rw [show St.nil.pl [] = St.nil from rfl]
  simp only [M10, h21, m1, m2, w1, w3, ev1_boxV, boxV_some, hS1, gD, ggD, c1, evC_loop, qES0, qES1, qES2, env0, List.length_cons, List.length_nil, Nat.reduceAdd, Nat.reduceSub, List.replicate, List.cons_append, List.nil_append, opd, Env.put, Env.at, List.set_cons_zero, List.set_cons_succ, List.getD_cons_zero, List.getD_cons_succ, freezeL, resVs, oneOr, Option.map_some, Option.map_none, List.map_cons, List.map_nil, if_true, if_false, Bool.not_true, Bool.not_false, Bool.false_eq_true, reduceIte, decide_true, decide_false, Int.reduceLT, Int.reduceLE, Int.reduceGT, Int.reduceGE, Int.reduceEq, Int.reduceBEq, Int.reduceBNe, load_ptr, ldV_some, cellAt_cells, List.getElem?_cons_zero, List.getElem?_cons_succ, store_ptr, stO_some, setAt_0, setAt_1, setAt_2, setAt_3, setAt_4, setAt_5, setAt_6, setAt_7, setAt_8, setAt_9, setAt_10, setAt_11, setAt_12, cells_int, cells_bool, cells_str, cells_nils, cells_nilp, cells_ptr, cells_sl, cells_u8, cells_u16, cells_agg, get_upd_is, Option.isSome_some, upd_upd, ev1_nchkV, ev1_faV, nchkV_ptr, faV_ptr, ev1_extV, extV_tup, eqptr_nil, eqptr_ptr, Nat.zero_add, Nat.add_zero, qPL0, qPL1, qPL2, qPL3, qPL4, qPL5, beq_self_eq_true]
  exact key _ rfl
end Go.Proofs.YtochnineebgbgaaDoor.turnGo
