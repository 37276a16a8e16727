/- TurnSwap: the loop that puts. No conditions. -/
import Derived.Test.YtochnineebgbgaaDoorDuo
import Derived.Test.YtochnineebgbgaaDoorM12j
set_option linter.unusedSimpArgs false
set_option linter.unusedVariables false
set_option maxRecDepth 100000
set_option maxHeartbeats 4000000
namespace Go.Proofs.YtochnineebgbgaaDoor
open Go Go.Ab
def E19p (n ta tb : Nat) (i : Int) : Env := [.undef, .int .i64 (n : Nat), .undef, .undef, .undef, .undef, .ptr ta 0, .ptr tb 0, .int .i64 i, .undef, .undef, .undef, .undef, .undef, .undef, .undef, .undef, .undef, .undef, .undef, .undef, .undef, .undef, .undef, .undef, .undef, .undef, .undef, .undef, .undef, .undef, .undef, .undef, .undef, .undef, .undef, .undef, .undef, .undef, .undef, .undef, .undef, .undef, .undef, .undef, .undef, .undef, .undef, .undef, .undef, .undef, .undef, .undef, .undef, .undef, .undef, .undef, .undef, .undef, .undef, .undef, .undef, .undef, .undef, .undef, .undef, .undef, .undef, .undef, .undef, .undef, .undef, .undef, .undef, .undef, .undef, .undef, .undef, .undef, .undef, .undef, .undef, .undef, .undef, .undef, .undef, .undef, .undef, .undef, .undef, .undef, .undef, .undef, .undef, .undef, .undef, .undef, .undef, .undef, .undef, .undef, .undef, .undef, .undef, .undef, .undef, .undef, .undef, .undef, .undef, .undef, .undef, .undef, .undef, .undef, .undef, .undef, .undef, .undef, .undef, .undef, .undef, .undef, .undef, .undef, .undef, .undef, .undef, .undef, .undef, .undef, .undef, .undef, .undef, .undef, .undef, .undef, .undef, .undef, .undef, .undef, .undef, .undef, .undef, .undef, .undef, .undef, .undef, .undef, .undef, .undef, .undef, .undef, .undef, .undef, .undef, .undef, .undef, .undef]
def X19p (n ta tb : Nat) : Env := [.undef, .int .i64 (n : Nat), .undef, .undef, .undef, .undef, .ptr ta 0, .ptr tb 0, .int .i64 (n : Nat), .undef, .undef, .undef, .undef, .undef, .undef, .undef, .undef, .undef, .undef, .undef, .undef, .undef, .undef, .undef, .undef, .undef, .undef, .undef, .undef, .undef, .undef, .undef, .int .i64 (n : Nat), .int .i64 (n : Nat), .bool false, .undef, .undef, .undef, .undef, .undef, .undef, .undef, .undef, .undef, .undef, .undef, .undef, .undef, .undef, .undef, .undef, .undef, .undef, .undef, .undef, .undef, .undef, .undef, .undef, .undef, .undef, .undef, .undef, .undef, .undef, .undef, .undef, .undef, .undef, .undef, .undef, .undef, .undef, .undef, .undef, .undef, .undef, .undef, .undef, .undef, .undef, .undef, .undef, .undef, .undef, .undef, .undef, .undef, .undef, .undef, .undef, .undef, .undef, .undef, .undef, .undef, .undef, .undef, .undef, .undef, .undef, .undef, .undef, .undef, .undef, .undef, .undef, .undef, .undef, .undef, .undef, .undef, .undef, .undef, .undef, .undef, .undef, .undef, .undef, .undef, .undef, .undef, .undef, .undef, .undef, .undef, .undef, .undef, .undef, .undef, .undef, .undef, .undef, .undef, .undef, .undef, .undef, .undef, .undef, .undef, .undef, .undef, .undef, .undef, .undef, .undef, .undef, .undef, .undef, .undef, .undef, .undef, .undef, .undef, .undef, .undef, .undef, .undef, .undef]
theorem bd_len (i : Nat) : (bd i).length = 1 := rfl
theorem putsL (n : Nat) (hn : n < 8) (W : Nat) (s : St) (ta oa ia tb ob ib : Nat) (h : Duo s ta oa ia tb ob ib 10 W (Sy.start 0).a (Sy.start 0).b) (e : Env) (he : maskE M19b3l e = E19p n ta tb 0) :
    ∃ S, iter (evC tabGl (evO 999) 999 M19b3) M19b3l 999 e s = some (.exit 0, X19p n ta tb, S) ∧ Duo S ta oa ia tb ob ib 10 W (Sy.start n).a (Sy.start n).b := by
  refine iter_leave (evC tabGl (evO 999) 999 M19b3) M19b3l (fun i e S => maskE M19b3l e = E19p n ta tb (i : Nat) ∧ Duo S ta oa ia tb ob ib 10 W (Sy.start i).a (Sy.start i).b)
    (fun out => ∃ S, out = some (.exit 0, X19p n ta tb, S) ∧ Duo S ta oa ia tb ob ib 10 W (Sy.start n).a (Sy.start n).b) n ?_ ?_ n 0 _ _ 999 (by omega) ⟨he, h⟩ (by omega)
  · rintro i e S hi ⟨h1, h2⟩
    rw [h1]
    left
    have q : ((i : Int) < ((n : Nat) : Int)) = True := eq_true (by omega)
    have w1 : IntKind.i64.wrap ((i : Int) + 1) = ((i + 1 : Nat) : Int) := (wrapI _ (by omega) (by omega)).trans (by omega)
    have w2 : IntKind.i64.wrap ((i : Int) + 10) = ((i + 10 : Nat) : Int) := (wrapI _ (by omega) (by omega)).trans (by omega)
    have h34 := o34 998 i
    have h34' := o34 998 (i + 10)
    obtain ⟨S1, p1, p2, _⟩ := put_evT 997 (bd i) h2.a (by simp [Sy.start]; omega) (by rw [bd_len]; omega)
    have p2' : TnAt S1 ta oa ia 10 W (Sy.start (i + 1)).a := by
      have e : (Sy.start (i + 1)).a.L = (Sy.start i).a.L ++ [bd i] := by simp [Sy.start, List.range_succ]
      unfold TnAt
      rw [e]
      exact p2
    have d1 := (h2.step p1 (fun C hC => ⟨hC, trivial, trivial⟩) p2').1
    obtain ⟨S2, p3, p4, _⟩ := put_evT 997 (bd (i + 10)) d1.b (by simp [Sy.start]; omega) (by rw [bd_len]; omega)
    have p4' : TnAt S2 tb ob ib 10 W (Sy.start (i + 1)).b := by
      have e : (Sy.start (i + 1)).b.L = (Sy.start i).b.L ++ [bd (i + 10)] := by simp [Sy.start, List.range_succ]
      unfold TnAt
      rw [e]
      exact p4
    have d2 := (d1.symm.step p3 (fun C hC => ⟨hC, trivial, trivial⟩) p4').1.symm
    have p1' : evO 999 40 [.ptr ta 0, .str (bd i)] S = some (.int .i64 0, S1) := p1
    have p3' : evO 999 40 [.ptr tb 0, .str (bd (i + 10))] S1 = some (.int .i64 0, S2) := p3
    suffices hs : ∃ e', evC tabGl (evO 999) 999 M19b3 (E19p n ta tb (i : Nat)) S = some (.nrm, e', S2) ∧ maskE M19b3l e' = E19p n ta tb ((i + 1 : Nat) : Int) by
      obtain ⟨e', g1, g2⟩ := hs
      exact ⟨e', S2, g1, g2, d2⟩
    simp only [M19b3, E19p, q, w1, w2, h34, h34', p1', p3', qES0, qES1, qES2, env0, List.length_cons, List.length_nil, Nat.reduceAdd, Nat.reduceSub, List.replicate, List.cons_append, List.nil_append, opd, Env.put, Env.at, List.set_cons_zero, List.set_cons_succ, List.getD_cons_zero, List.getD_cons_succ, freezeL, resVs, oneOr, Option.map_some, Option.map_none, List.map_cons, List.map_nil, if_true, if_false, Bool.not_true, Bool.not_false, Bool.false_eq_true, reduceIte, decide_true, decide_false, Int.reduceLT, Int.reduceLE, Int.reduceGT, Int.reduceGE, Int.reduceEq, Int.reduceBEq, Int.reduceBNe, load_ptr, ldV_some, cellAt_cells, List.getElem?_cons_zero, List.getElem?_cons_succ, store_ptr, stO_some, setAt_0, setAt_1, setAt_2, setAt_3, setAt_4, setAt_5, setAt_6, setAt_7, setAt_8, setAt_9, setAt_10, setAt_11, setAt_12, cells_int, cells_bool, cells_str, cells_nils, cells_nilp, cells_ptr, cells_sl, cells_u8, cells_u16, cells_agg, get_upd_is, Option.isSome_some, upd_upd, ev1_nchkV, ev1_faV, nchkV_ptr, faV_ptr, ev1_extV, extV_tup, eqptr_nil, eqptr_ptr, Nat.zero_add, Nat.add_zero, qPL0, qPL1, qPL2, qPL3, qPL4, qPL5, beq_self_eq_true, qED0, qED1, placeR]
    exact ⟨_, rfl, rfl⟩
  · rintro e S ⟨h1, h2⟩
    rw [h1]
    have q : (((n : Nat) : Int) < ((n : Nat) : Int)) = False := eq_false (by omega)
    have hx : evC tabGl (evO 999) 999 M19b3 (E19p n ta tb (n : Nat)) S = some (.exit 0, X19p n ta tb, S) := by
      simp only [M19b3, E19p, X19p, q, qES0, qES1, qES2, env0, List.length_cons, List.length_nil, Nat.reduceAdd, Nat.reduceSub, List.replicate, List.cons_append, List.nil_append, opd, Env.put, Env.at, List.set_cons_zero, List.set_cons_succ, List.getD_cons_zero, List.getD_cons_succ, freezeL, resVs, oneOr, Option.map_some, Option.map_none, List.map_cons, List.map_nil, if_true, if_false, Bool.not_true, Bool.not_false, Bool.false_eq_true, reduceIte, decide_true, decide_false, Int.reduceLT, Int.reduceLE, Int.reduceGT, Int.reduceGE, Int.reduceEq, Int.reduceBEq, Int.reduceBNe, load_ptr, ldV_some, cellAt_cells, List.getElem?_cons_zero, List.getElem?_cons_succ, store_ptr, stO_some, setAt_0, setAt_1, setAt_2, setAt_3, setAt_4, setAt_5, setAt_6, setAt_7, setAt_8, setAt_9, setAt_10, setAt_11, setAt_12, cells_int, cells_bool, cells_str, cells_nils, cells_nilp, cells_ptr, cells_sl, cells_u8, cells_u16, cells_agg, get_upd_is, Option.isSome_some, upd_upd, ev1_nchkV, ev1_faV, nchkV_ptr, faV_ptr, ev1_extV, extV_tup, eqptr_nil, eqptr_ptr, Nat.zero_add, Nat.add_zero, qPL0, qPL1, qPL2, qPL3, qPL4, qPL5, beq_self_eq_true]
    rw [hx]
    exact ⟨⟨S, rfl, h2⟩, fun _ _ h => by cases h⟩
end Go.Proofs.YtochnineebgbgaaDoor
