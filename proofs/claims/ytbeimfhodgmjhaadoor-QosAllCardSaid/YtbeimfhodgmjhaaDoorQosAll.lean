/- Texts as offers, one after the other: the loop of the law QosAll. No conditions. -/
import Derived.Test.YtbeimfhodgmjhaaDoorQ12
import Derived.Test.YtbeimfhodgmjhaaDoorM8_3
set_option linter.unusedSimpArgs false
set_option linter.unusedVariables false
set_option maxRecDepth 100000
set_option maxHeartbeats 4000000
namespace Go.Proofs.YtbeimfhodgmjhaaDoor
open Go Go.Ab
theorem ine (a : Int) : binV .neq (.int .i64 a) (.int .i64 a) = some (.bool false) := by
  show some (AV.bool (a != a)) = _
  simp
theorem sne (a : List UInt8) : binV .neq (.str a) (.str a) = some (.bool false) := by
  show some (AV.bool (!(a == a))) = _
  simp
theorem getOV_some (t : List UInt8) : ∃ (D : Of5) (b : Bool), getOV (getO t) = .tup [.agg (ofC D.b D.s D.w D.z D.t), .bool b] := by
  cases getO t with
  | none => exact ⟨⟨0, 0, 0, 0, 0⟩, false, rfl⟩
  | some o => exact ⟨o, true, rfl⟩
def E3 (x : AV) (n i : Int) : Env := [.undef, .undef, .undef, .undef, .undef, .undef, .undef, .undef, .undef, .undef, .undef, .undef, .undef, .undef, .undef, .undef, .undef, .undef, .undef, .undef, .undef, .undef, .undef, .undef, .undef, .undef, .undef, .undef, .undef, .undef, .undef, .undef, .undef, .undef, .undef, .undef, .undef, .undef, .undef, .undef, .undef, .undef, .undef, .undef, .undef, .undef, .undef, .undef, .undef, .undef, .undef, .undef, .undef, .undef, .undef, .undef, .undef, .undef, .undef, .undef, .undef, .undef, .undef, .undef, .undef, .undef, .undef, .undef, .undef, .undef, .undef, .undef, .undef, .undef, .undef, .undef, .undef, .undef, .undef, .undef, .undef, .undef, .undef, .undef, .undef, .undef, .undef, .undef, .undef, .undef, .undef, .undef, .undef, .undef, .undef, .undef, .undef, .undef, .undef, .undef, .undef, .undef, x, .int .i64 n, .int .i64 i, .undef, .undef, .undef, .undef, .undef, .undef, .undef, .undef, .undef, .undef, .undef, .undef, .undef, .undef, .undef, .undef, .undef, .undef, .undef, .undef, .undef, .undef]
theorem texts_all (L : List (List UInt8)) (n : Nat) (hn : L.length = n) (h100 : n ≤ 100) (tk : Option (Nat × Nat × Nat)) (s : St) : ∀ e, maskE M3b0l e = E3 (.sl (L.map .str) n tk) n 0 →
    valR (outR M3.res (seqR (blockR 0 (iter (evC tabGl (evK 999) 999 M3b0) M3b0l 999 e s)) (evC tabGl (evK 999) 999 M3r0))) = some (.bool true) := by
  intro e he
  refine iter_leave (evC tabGl (evK 999) 999 M3b0) M3b0l (fun i e st => maskE M3b0l e = E3 (.sl (L.map .str) n tk) n (i : Int))
    (fun out => valR (outR M3.res (seqR (blockR 0 out) (evC tabGl (evK 999) 999 M3r0))) = some (.bool true)) n ?_ ?_ n 0 _ _ 999 (by omega) he (by omega)
  · rintro i e st hi h1
    rw [h1]
    left
    have d0 : decide ((i : Int) < (n : Int)) = true := decide_eq_true (by omega)
    have w1 : IntKind.i64.wrap ((i : Int) + 1) = ((i + 1 : Nat) : Int) := (wrapI _ (by omega) (by omega)).trans (by omega)
    have x : ixaV 1 (.sl (L.map .str) n tk) (.int .i64 (i : Int)) = some (.rp ((L.drop i).map .str)) := by
      have h1 : idx n (.int .i64 (i : Int)) = some i := by simp [idx]; omega
      simp only [ixaV, h1, Nat.mul_one, List.map_drop]
    have c : Ab.cut ((L.drop i).map AV.str) 0 none = some (.str (L[i]'(by omega))) := by
      simp only [Ab.cut, List.getElem?_map, List.getElem?_drop, Nat.add_zero]
      rw [List.getElem?_eq_getElem (show i < L.length by omega)]
      rfl
    have e1 := k38 998 (L[i]'(by omega))
    have e2 := k39 998 (L[i]'(by omega))
    obtain ⟨D, b, hD⟩ := getOV_some (L[i]'(by omega))
    rw [hD] at e1 e2
    simp only [ofC] at e1 e2
    have q5 := eq5 D.b D.s D.w D.z D.t
    have qb := eqB b
    rw [show st = st.pl [] from rfl]
    simp only [M3b0, E3, d0, w1, x, c, e1, e2, q5, qb, loadR_rp, ev1_eqv, ev1_extV, qES0, qES1, qES2, env0, List.length_cons, List.length_nil, Nat.reduceAdd, Nat.reduceSub, List.replicate, List.cons_append, List.nil_append, opd, Env.put, Env.at, List.set_cons_zero, List.set_cons_succ, List.getD_cons_zero, List.getD_cons_succ, freezeL, resVs, oneOr, Option.map_some, Option.map_none, List.map_cons, List.map_nil, if_true, if_false, Bool.not_true, Bool.not_false, Bool.false_eq_true, reduceIte, decide_true, decide_false, Int.reduceLT, Int.reduceLE, Int.reduceGT, Int.reduceGE, Int.reduceEq, Int.reduceBEq, Int.reduceBNe, load_ptr, ldV_some, cellAt_cells, List.getElem?_cons_zero, List.getElem?_cons_succ, store_ptr, stO_some, setAt_0, setAt_1, setAt_2, setAt_3, setAt_4, setAt_5, setAt_6, setAt_7, setAt_8, setAt_9, setAt_10, setAt_11, setAt_12, cells_int, cells_bool, cells_str, cells_nils, cells_nilp, cells_ptr, cells_sl, cells_u8, cells_u16, cells_agg, get_upd_is, Option.isSome_some, upd_upd, ev1_nchkV, ev1_faV, nchkV_ptr, faV_ptr, ev1_extV, extV_tup, eqptr_nil, eqptr_ptr, Nat.zero_add, Nat.add_zero, qPL0, qPL1, qPL2, qPL3, qPL4, qPL5, beq_self_eq_true]
    exact ⟨_, _, rfl, rfl⟩
  · rintro e st h1
    rw [h1]
    have d0 : decide ((n : Int) < (n : Int)) = false := decide_eq_false (by omega)
    refine ⟨?_, fun e' s' hh => ?_⟩
    · simp only [M3, M3r0, M3b0, E3, d0, qES0, qES1, qES2, env0, List.length_cons, List.length_nil, Nat.reduceAdd, Nat.reduceSub, List.replicate, List.cons_append, List.nil_append, opd, Env.put, Env.at, List.set_cons_zero, List.set_cons_succ, List.getD_cons_zero, List.getD_cons_succ, freezeL, resVs, oneOr, Option.map_some, Option.map_none, List.map_cons, List.map_nil, if_true, if_false, Bool.not_true, Bool.not_false, Bool.false_eq_true, reduceIte, decide_true, decide_false, Int.reduceLT, Int.reduceLE, Int.reduceGT, Int.reduceGE, Int.reduceEq, Int.reduceBEq, Int.reduceBNe, load_ptr, ldV_some, cellAt_cells, List.getElem?_cons_zero, List.getElem?_cons_succ, store_ptr, stO_some, setAt_0, setAt_1, setAt_2, setAt_3, setAt_4, setAt_5, setAt_6, setAt_7, setAt_8, setAt_9, setAt_10, setAt_11, setAt_12, cells_int, cells_bool, cells_str, cells_nils, cells_nilp, cells_ptr, cells_sl, cells_u8, cells_u16, cells_agg, get_upd_is, Option.isSome_some, upd_upd, ev1_nchkV, ev1_faV, nchkV_ptr, faV_ptr, ev1_extV, extV_tup, eqptr_nil, eqptr_ptr, Nat.zero_add, Nat.add_zero, qPL0, qPL1, qPL2, qPL3, qPL4, qPL5, beq_self_eq_true]
    · simp only [M3b0, E3, d0, qES0, qES1, qES2, env0, List.length_cons, List.length_nil, Nat.reduceAdd, Nat.reduceSub, List.replicate, List.cons_append, List.nil_append, opd, Env.put, Env.at, List.set_cons_zero, List.set_cons_succ, List.getD_cons_zero, List.getD_cons_succ, freezeL, resVs, oneOr, Option.map_some, Option.map_none, List.map_cons, List.map_nil, if_true, if_false, Bool.not_true, Bool.not_false, Bool.false_eq_true, reduceIte, decide_true, decide_false, Int.reduceLT, Int.reduceLE, Int.reduceGT, Int.reduceGE, Int.reduceEq, Int.reduceBEq, Int.reduceBNe, load_ptr, ldV_some, cellAt_cells, List.getElem?_cons_zero, List.getElem?_cons_succ, store_ptr, stO_some, setAt_0, setAt_1, setAt_2, setAt_3, setAt_4, setAt_5, setAt_6, setAt_7, setAt_8, setAt_9, setAt_10, setAt_11, setAt_12, cells_int, cells_bool, cells_str, cells_nils, cells_nilp, cells_ptr, cells_sl, cells_u8, cells_u16, cells_agg, get_upd_is, Option.isSome_some, upd_upd, ev1_nchkV, ev1_faV, nchkV_ptr, faV_ptr, ev1_extV, extV_tup, eqptr_nil, eqptr_ptr, Nat.zero_add, Nat.add_zero, qPL0, qPL1, qPL2, qPL3, qPL4, qPL5, beq_self_eq_true] at hh
      cases hh
end Go.Proofs.YtbeimfhodgmjhaaDoor
