/- OutWindow: the rounds. No conditions. -/
import Derived.Test.YtochnineebgbgaaDoorWin2
set_option linter.unusedSimpArgs false
set_option linter.unusedVariables false
set_option maxRecDepth 100000
set_option maxHeartbeats 8000000
namespace Go.Proofs.YtochnineebgbgaaDoor
open Go Go.Ab
def X6b1 (W N b : Nat) (x : AV) (done i : Nat) (u0 u1 u2 u3 u4 u5 u6 u7 : AV) : Env := [.int .i64 (W : Nat), .int .i64 (N : Nat), x, .undef, .undef, .undef, .undef, .undef, .ptr b 0, .undef, .int .i64 (done : Nat), .int .i64 (i : Nat), .undef, .undef, .undef, .undef, .undef, .undef, .undef, .undef, .undef, .undef, .undef, .undef, .undef, .undef, .undef, .undef, .undef, .undef, .undef, .undef, .undef, .undef, .undef, .undef, .undef, .undef, .undef, .undef, .undef, .undef, u0, u1, u2, u3, u4, u5, u6, u7, .undef, .undef, .undef, .undef, .undef, .undef, .undef, .undef, .undef, .undef, .undef, .undef, .undef, .undef, .undef, .undef, .undef, .undef, .undef, .undef, .undef, .undef, .undef, .undef, .undef, .undef, .undef, .undef, .undef, .undef, .undef, .undef, .undef, .undef, .undef, .undef, .undef, .undef, .undef, .undef, .undef, .undef, .undef, .undef, .undef, .undef, .undef, .undef, .undef, .undef, .undef, .undef, .undef, .undef, .undef, .undef, .undef, .undef, .undef, .undef, .undef, .undef, .undef, .undef, .undef, .undef, .undef, .undef, .undef, .undef, .undef, .undef, .undef, .undef, .undef, .undef, .undef, .undef, .undef, .undef, .undef, .undef, .undef, .undef, .undef, .undef, .undef, .undef, .undef, .undef, .undef, .undef, .undef, .undef, .undef, .undef]
theorem loopA (W N b : Nat) (x : AV) (zs : List Int) (hx : IsInts x zs) (s : St) (h8 : N ≤ 8) (hW : W ≤ 7) (h : OutAt s b (W : Nat) (bdF 0 N) ((0 % 8 : Nat) : Int) (0 : Nat)) (e : Env) (he : maskE M6b1l e = E6b1 W N b x 0 0) :
    ∃ done i u0 u1 u2 u3 u4 u5 u6 u7 S, iter (evC tabGl (evO 999) 999 M6b1) M6b1l 999 e s = some (.exit 2, X6b1 W N b x done i u0 u1 u2 u3 u4 u5 u6 u7, S) := by
  have lx : lenV x = some (.int .i64 (zs.length : Nat)) := by rcases hx with ⟨rfl, rfl⟩ | rfl <;> rfl
  have fx : ∀ n s, Ab.freeze n s x = some (x, s) := fun n s => by rcases hx with ⟨rfl, _⟩ | rfl <;> rfl
  refine iter_leave (evC tabGl (evO 999) 999 M6b1) M6b1l (fun i e S => ∃ (done st : Nat), maskE M6b1l e = E6b1 W N b x done i ∧ done ≤ N ∧ st ≤ min W (N - done) ∧ OutAt S b (W : Nat) (bdF done N) ((done % 8 : Nat) : Int) (st : Nat))
    (fun out => ∃ done i u0 u1 u2 u3 u4 u5 u6 u7 S, out = some (.exit 2, X6b1 W N b x done i u0 u1 u2 u3 u4 u5 u6 u7, S)) (min zs.length 20) ?_ ?_ (min zs.length 20) 0 _ _ 999 (by omega) ⟨0, 0, he, by omega, by omega, h⟩ (by omega)
  · rintro i e S hi ⟨done, st, g1, g2, g3, g4⟩
    rw [g1]
    have hsl : x = .sl (zs.map (AV.int .i64 ·)) zs.length none := by
      rcases hx with ⟨rfl, rfl⟩ | h
      · simp at hi
      · exact h
    subst hsl
    obtain ⟨e', s', done', st', r1, r2, r3, r4, r5⟩ := roundA W N b done i zs S st (by omega) (by omega) g2 h8 hW g3 g4
    exact .inl ⟨e', s', r1, done', st', r2, r3, r4, r5⟩
  · rintro e S ⟨done, st, g1, g2, g3, g4⟩
    rw [g1]
    suffices hq : ∃ u0 u1 u2 u3 u4 u5 u6 u7, evC tabGl (evO 999) 999 M6b1 (E6b1 W N b x done (min zs.length 20)) S = some (.exit 2, X6b1 W N b x done (min zs.length 20) u0 u1 u2 u3 u4 u5 u6 u7, S) by
      obtain ⟨u0, u1, u2, u3, u4, u5, u6, u7, hq⟩ := hq
      rw [hq]
      exact ⟨⟨done, _, u0, u1, u2, u3, u4, u5, u6, u7, S, rfl⟩, fun _ _ h => by cases h⟩
    by_cases hq : zs.length ≤ 20
    · rw [Nat.min_eq_left hq]
      have q1 : (((zs.length : Nat) : Int) < ((zs.length : Nat) : Int)) = False := eq_false (by omega)
      simp only [M6b1, E6b1, lx, q1, fx, qES0, qES1, qES2, env0, List.length_cons, List.length_nil, Nat.reduceAdd, Nat.reduceSub, List.replicate, List.cons_append, List.nil_append, opd, Env.put, Env.at, List.set_cons_zero, List.set_cons_succ, List.getD_cons_zero, List.getD_cons_succ, freezeL, resVs, oneOr, Option.map_some, Option.map_none, List.map_cons, List.map_nil, if_true, if_false, Bool.not_true, Bool.not_false, Bool.false_eq_true, reduceIte, decide_true, decide_false, Int.reduceLT, Int.reduceLE, Int.reduceGT, Int.reduceGE, Int.reduceEq, Int.reduceBEq, Int.reduceBNe, load_ptr, ldV_some, cellAt_cells, List.getElem?_cons_zero, List.getElem?_cons_succ, store_ptr, stO_some, setAt_0, setAt_1, setAt_2, setAt_3, setAt_4, setAt_5, setAt_6, setAt_7, setAt_8, setAt_9, setAt_10, setAt_11, setAt_12, cells_int, cells_bool, cells_str, cells_nils, cells_nilp, cells_ptr, cells_sl, cells_u8, cells_u16, cells_agg, get_upd_is, Option.isSome_some, upd_upd, ev1_nchkV, ev1_faV, nchkV_ptr, faV_ptr, ev1_extV, extV_tup, eqptr_nil, eqptr_ptr, Nat.zero_add, Nat.add_zero, qPL0, qPL1, qPL2, qPL3, qPL4, qPL5, beq_self_eq_true]
      exact ⟨_, _, _, _, _, _, _, _, rfl⟩
    · rw [Nat.min_eq_right (by omega)]
      have q1 : (((20 : Nat) : Int) < ((zs.length : Nat) : Int)) = True := eq_true (by omega)
      have q2 : (((20 : Nat) : Int) < 20) = False := eq_false (by omega)
      simp only [M6b1, E6b1, lx, q1, q2, fx, qES0, qES1, qES2, env0, List.length_cons, List.length_nil, Nat.reduceAdd, Nat.reduceSub, List.replicate, List.cons_append, List.nil_append, opd, Env.put, Env.at, List.set_cons_zero, List.set_cons_succ, List.getD_cons_zero, List.getD_cons_succ, freezeL, resVs, oneOr, Option.map_some, Option.map_none, List.map_cons, List.map_nil, if_true, if_false, Bool.not_true, Bool.not_false, Bool.false_eq_true, reduceIte, decide_true, decide_false, Int.reduceLT, Int.reduceLE, Int.reduceGT, Int.reduceGE, Int.reduceEq, Int.reduceBEq, Int.reduceBNe, load_ptr, ldV_some, cellAt_cells, List.getElem?_cons_zero, List.getElem?_cons_succ, store_ptr, stO_some, setAt_0, setAt_1, setAt_2, setAt_3, setAt_4, setAt_5, setAt_6, setAt_7, setAt_8, setAt_9, setAt_10, setAt_11, setAt_12, cells_int, cells_bool, cells_str, cells_nils, cells_nilp, cells_ptr, cells_sl, cells_u8, cells_u16, cells_agg, get_upd_is, Option.isSome_some, upd_upd, ev1_nchkV, ev1_faV, nchkV_ptr, faV_ptr, ev1_extV, extV_tup, eqptr_nil, eqptr_ptr, Nat.zero_add, Nat.add_zero, qPL0, qPL1, qPL2, qPL3, qPL4, qPL5, beq_self_eq_true]
      exact ⟨_, _, _, _, _, _, _, _, rfl⟩
end Go.Proofs.YtochnineebgbgaaDoor
