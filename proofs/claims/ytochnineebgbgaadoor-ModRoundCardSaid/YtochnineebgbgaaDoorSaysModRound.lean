/- What the evaluator says of the law ModRound: true. No conditions. -/
import Derived.Test.YtochnineebgbgaaDoorCount
import Derived.Test.YtochnineebgbgaaDoorArgS
namespace Go.Proofs.YtochnineebgbgaaDoor.modRound
open Go Go.Ab
set_option linter.unusedVariables false
set_option linter.unusedSimpArgs false
set_option maxRecDepth 100000 in
set_option maxHeartbeats 8000000 in
theorem says (n0 : Int) (hn0 : IntKind.has .i64 n0) (n1 : Int) (hn1 : IntKind.has .i64 n1) (n2 : Int) (hn2 : IntKind.has .i64 n2) : Ab.saysTrue (evT 1000 5 [.int .i64 n0, .int .i64 n1, .int .i64 n2] Ab.St.nil) = true := by
  obtain ⟨s1, hb⟩ := begunT_ev
  obtain ⟨A, hA⟩ : ∃ A, binV .and (.int .i64 n0) (.int .i64 1023) = some (.int .i64 A) := ⟨_, rfl⟩
  obtain ⟨B, hB⟩ : ∃ B, binV .and (.int .i64 n1) (.int .i64 1023) = some (.int .i64 B) := ⟨_, rfl⟩
  have m1 := i64_rem n2 12 (by omega)
  have m2 := i64_rem (n2.tmod 12 + 12) 12 (by omega)
  have hR := tmR n2 12 (by omega)
  have m3 : IntKind.i64.wrap (n2.tmod 12 + 12) = n2.tmod 12 + 12 := wrapI _ (by omega) (by omega)
  have hN0 : 0 ≤ (n2.tmod 12 + 12).tmod 12 := Int.tmod_nonneg _ (by omega)
  have hN1 : (n2.tmod 12 + 12).tmod 12 < 12 := Int.tmod_lt_of_pos _ (by omega)
  generalize (n2.tmod 12 + 12).tmod 12 = N at m2 hN0 hN1
  have c1 : ∀ s, evT 999 22 [.int .i64 A, .int .i64 8] s = some (.int .i64 (A % 8), s) := fun s => by
    rw [add_ev 998 A 8]; congr 3; omega
  have c2 : ∀ s, evT 999 22 [.int .i64 A, .int .i64 0] s = some (.int .i64 (A % 8), s) := fun s => by
    rw [add_ev 998 A 0]; congr 3; omega
  have c3 := add_ev 998 A B
  have c4 : ∀ s, evT 999 22 [.int .i64 ((A + B) % 8), .int .i64 0] s = some (.int .i64 ((A + B) % 8), s) := fun s => by
    rw [add_ev 998 _ 0]; congr 3; omega
  have c5 : ∀ s, evT 999 22 [.int .i64 B, .int .i64 A] s = some (.int .i64 ((A + B) % 8), s) := fun s => by
    rw [add_ev 998 B A]; congr 3; omega
  have c6 : ∀ s, evT 999 24 [.int .i64 A, .int .i64 A] s = some (.int .i64 0, s) := fun s => by
    rw [diff_ev 997 A A]; congr 3; omega
  have c7 : ∀ s, evT 999 25 [.int .i64 A, .int .i64 A, .int .i64 1] s = some (.bool true, s) := fun s => by
    rw [in_ev 996 A A 1]
    have : decide ((A - A) % 8 < kOf 1) = true := by
      rw [show (A - A) % 8 = 0 by omega]; decide
    rw [this]
  have c8 := diff_ev 997 A B
  have c9 := diff_ev 997 B A
  have c10 : ∀ s, evT 999 22 [.int .i64 ((A - B) % 8), .int .i64 ((B - A) % 8)] s = some (.int .i64 0, s) := fun s => by
    rw [add_ev 998 _ _]; congr 3; omega
  have k8 := cntI_8 A N hN0 hN1
  rw [show (1000 : Nat) = 999 + 1 from rfl, evT_in rfl tab5]
  have hl : ∀ e, maskE M5b0l e = E5 A B N 0 0 → ∃ e', iter (evC tabGl (evT 999) 999 M5b0) M5b0l 999 e s1 = some (.exit 0, e', s1) ∧ e' = [.int .i64 A, .int .i64 B, .int .i64 N, .undef, .undef, .undef, .undef, .undef, .int .i64 (if (8 : Int) < N then 8 else N), .int .i64 8, .undef, .undef, .undef, .undef, .undef, .undef, .undef, .undef, .undef, .undef, .undef, .int .i64 8, .bool false, .undef, .undef, .undef, .undef, .undef, .undef, .undef, .undef, .undef, .undef, .undef, .undef, .undef, .undef, .undef, .undef, .undef, .undef, .undef, .undef, .undef, .undef, .undef, .undef, .undef, .undef, .undef, .undef, .undef, .undef, .undef, .undef, .undef, .undef, .undef, .undef, .undef, .undef, .undef, .undef, .undef, .undef, .undef, .undef, .undef, .undef, .undef, .undef, .undef, .undef] := by
    intro e he
    refine ⟨_, iter_rounds (evC tabGl (evT 999) 999 M5b0) M5b0l (fun i e st => maskE M5b0l e = E5 A B N (cntI A N i : Nat) (i : Nat) ∧ st = s1) _ 8 ?_ ?_ 8 0 _ _ 999 rfl ⟨he, rfl⟩ (by omega), rfl⟩
    · rintro i e st hi ⟨h1, rfl⟩
      rw [h1]
      obtain ⟨e', g1, g2⟩ := round5 A B N i hi st
      exact ⟨e', _, g1, g2, rfl⟩
    · rintro e st ⟨h1, rfl⟩
      rw [h1]
      refine ⟨?_, fun e' s' h => by cases h⟩
      show evC tabGl (evT 999) 999 M5b0 (E5 A B N (cntI A N 8 : Nat) 8) st = _
      rw [k8]
      simp only [M5b0, E5, qES0, qES1, qES2, env0, List.length_cons, List.length_nil, Nat.reduceAdd, Nat.reduceSub, List.replicate, List.cons_append, List.nil_append, opd, Env.put, Env.at, List.set_cons_zero, List.set_cons_succ, List.getD_cons_zero, List.getD_cons_succ, freezeL, resVs, oneOr, Option.map_some, Option.map_none, List.map_cons, List.map_nil, if_true, if_false, Bool.not_true, Bool.not_false, Bool.false_eq_true, reduceIte, decide_true, decide_false, Int.reduceLT, Int.reduceLE, Int.reduceGT, Int.reduceGE, Int.reduceEq, Int.reduceBEq, Int.reduceBNe]
  obtain ⟨e', g1, g2⟩ := hl [.int .i64 A, .int .i64 B, .int .i64 N, .undef, .undef, .undef, .bool false, .bool true, .int .i64 0, .int .i64 0, .bool true, .bool true, .bool false, .int .i64 n0, .int .i64 A, .int .i64 n1, .int .i64 B, .int .i64 n2, .int .i64 (n2.tmod 12), .int .i64 (n2.tmod 12 + 12), .int .i64 N, .undef, .undef, .undef, .undef, .undef, .undef, .undef, .undef, .undef, .undef, .undef, .undef, .undef, .undef, .undef, .undef, .undef, .undef, .undef, .undef, .undef, .undef, .undef, .undef, .undef, .undef, .undef, .undef, .undef, .undef, .undef, .undef, .undef, .undef, .undef, .undef, .undef, .undef, .undef, .undef, .undef, .undef, .undef, .undef, .undef, .undef, .undef, .undef, .undef, .undef, .undef, .undef] rfl
  rw [g2] at g1
  simp only [M5, hb, hA, hB, m1, m2, m3, g1, c1, c2, c3, c4, c5, c6, c7, c8, c9, c10, evC_loop, qES0, qES1, qES2, env0, List.length_cons, List.length_nil, Nat.reduceAdd, Nat.reduceSub, List.replicate, List.cons_append, List.nil_append, opd, Env.put, Env.at, List.set_cons_zero, List.set_cons_succ, List.getD_cons_zero, List.getD_cons_succ, freezeL, resVs, oneOr, Option.map_some, Option.map_none, List.map_cons, List.map_nil, if_true, if_false, Bool.not_true, Bool.not_false, Bool.false_eq_true, reduceIte, decide_true, decide_false, Int.reduceLT, Int.reduceLE, Int.reduceGT, Int.reduceGE, Int.reduceEq, Int.reduceBEq, Int.reduceBNe, load_ptr, ldV_some, cellAt_cells, List.getElem?_cons_zero, List.getElem?_cons_succ, store_ptr, stO_some, setAt_0, setAt_1, setAt_2, setAt_3, setAt_4, setAt_5, setAt_6, setAt_7, setAt_8, setAt_9, setAt_10, setAt_11, setAt_12, cells_int, cells_bool, cells_str, cells_nils, cells_nilp, cells_ptr, cells_sl, cells_u8, cells_u16, cells_agg, get_upd_is, Option.isSome_some, upd_upd, ev1_nchkV, ev1_faV, nchkV_ptr, faV_ptr, ev1_extV, extV_tup, eqptr_nil, eqptr_ptr, Nat.zero_add, Nat.add_zero, qPL0, qPL1, qPL2, qPL3, qPL4, qPL5, beq_self_eq_true]
  rfl
end Go.Proofs.YtochnineebgbgaaDoor.modRound
