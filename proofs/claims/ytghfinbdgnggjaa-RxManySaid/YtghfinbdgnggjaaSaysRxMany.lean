/- What the evaluator says of the law RxMany: true. No conditions. -/
import Derived.Test.YtghfinbdgnggjaaBegun
import Derived.Test.YtghfinbdgnggjaaMny
namespace Go.Proofs.Ytghfinbdgnggjaa.rxMany
open Go Go.Ab
set_option linter.unusedVariables false
set_option linter.unusedSimpArgs false
set_option maxRecDepth 100000 in
theorem says (b0 : List (List UInt8)) {x0 : Ab.AV} (hx0 : Ab.IsBytess x0 b0) (b1 : List UInt8) {x1 : Ab.AV} (hx1 : Ab.IsBytes x1 b1) : Ab.saysTrue (ev 1000 9 [x0, x1] Ab.St.nil) = true := by
  obtain ⟨s1, hb⟩ := begun_ev
  have hx1b := hx1.bys
  have l0 := hx0.len
  obtain ⟨n, hn⟩ : ∃ n, n = min b0.length 8 := ⟨_, rfl⟩
  have hr : M9.res = [MRes.tmp 0 4] := rfl
  have hl : ∃ S, outR [MRes.tmp 0 4] (seqR (blockR 0 (iter (evC noGl (ev 999) 999 M9b2) M9b2l 999 (E9o x0 x1 .nils .nils 0) s1)) (evC noGl (ev 999) 999 M9r2)) = some (.bool true, S) := by
    refine iter_leave (evC noGl (ev 999) 999 M9b2) M9b2l (fun i e S => ∃ bv wv, maskE M9b2l e = E9o x0 x1 bv wv (i : Nat) ∧ In9 S bv wv (strm b1 b0 i) (want b0 i))
      (fun out => ∃ S, outR [MRes.tmp 0 4] (seqR (blockR 0 out) (evC noGl (ev 999) 999 M9r2)) = some (.bool true, S)) n ?_ ?_ n 0 _ _ 999 (by omega) ⟨.nils, .nils, rfl, ⟨.inl ⟨rfl, rfl⟩, .inl ⟨rfl, rfl⟩, fun j hj => by obtain ⟨_, _, _, _, hx⟩ := hj; cases hx⟩⟩ (by omega)
    · rintro i e S hi ⟨bv, wv, h1, h2⟩
      rw [h1]
      left
      obtain ⟨e', S', bv', wv', p1, p2, p3⟩ := round9 x0 x1 b0 b1 hx0 hx1b S bv wv i (by omega) (by omega) h2
      exact ⟨e', S', p1, bv', wv', p2, p3⟩
    · rintro e S ⟨bv, wv, h1, h2⟩
      rw [h1]
      have hB := h2.gb.bys
      have hsl := strm_le b1 b0 n (by omega)
      have hwl := want_le b0 n
      obtain ⟨o, S2, ys, t1, t2, t3, t4⟩ : ∃ o s' ys, ev 999 35 [.int .i64 30, bv] S = some (o, s') ∧ IsL o ys ∧ AllBys ys (rxAll 30 (strm b1 b0 n)) ∧ Ext S s' := rxAll_ev hB 30 964 (by omega) (by omega) S
      rw [rxAll_many] at t3
      have hyl := t3.length
      have key := sameL9 wv o ys (want b0 n) h2.gw.isL t2 t3 (by omega) S2
      have lo := t2.len
      have lw := h2.gw.isL.len
      rw [List.length_map] at lw
      rw [hyl] at lo
      have fb := hB.freeze
      have nn : ∀ a : Int, (a != a) = false := fun a => by simp
      by_cases hq : b0.length ≤ 8
      · have hnn : n = b0.length := by omega
        subst hnn
        have q1 : (((b0.length : Nat) : Int) < ((b0.length : Nat) : Int)) = False := eq_false (by omega)
        refine ⟨⟨S2, ?_⟩, fun _ _ h => ?_⟩
        · simp only [M9b2, E9o, M9r2, l0, q1, fb, t1, lo, lw, nn, evC_loop, qES0, qES1, qES2, env0, List.length_cons, List.length_nil, Nat.reduceAdd, Nat.reduceSub, List.replicate, List.cons_append, List.nil_append, opd, Env.put, Env.at, List.set_cons_zero, List.set_cons_succ, List.getD_cons_zero, List.getD_cons_succ, freezeL, resVs, oneOr, Option.map_some, Option.map_none, List.map_cons, List.map_nil, if_true, if_false, Bool.not_true, Bool.not_false, Bool.false_eq_true, reduceIte, decide_true, decide_false, Int.reduceLT, Int.reduceLE, Int.reduceGT, Int.reduceGE, Int.reduceEq, Int.reduceBEq, Int.reduceBNe, load_ptr, ldV_some, cellAt_cells, List.getElem?_cons_zero, List.getElem?_cons_succ, store_ptr, stO_some, setAt_0, setAt_1, setAt_2, setAt_3, setAt_4, setAt_5, setAt_6, setAt_7, setAt_8, setAt_9, setAt_10, setAt_11, setAt_12, cells_int, cells_bool, cells_str, cells_nils, cells_nilp, cells_ptr, cells_sl, cells_u8, cells_u16, cells_agg, get_upd_is, Option.isSome_some, upd_upd, ev1_nchkV, ev1_faV, nchkV_ptr, faV_ptr, ev1_extV, extV_tup, eqptr_nil, eqptr_ptr, Nat.zero_add, Nat.add_zero, qED0, qED1, placeR]
          exact key _ rfl
        · simp only [M9b2, E9o, l0, q1, qES0, qES1, qES2, env0, List.length_cons, List.length_nil, Nat.reduceAdd, Nat.reduceSub, List.replicate, List.cons_append, List.nil_append, opd, Env.put, Env.at, List.set_cons_zero, List.set_cons_succ, List.getD_cons_zero, List.getD_cons_succ, freezeL, resVs, oneOr, Option.map_some, Option.map_none, List.map_cons, List.map_nil, if_true, if_false, Bool.not_true, Bool.not_false, Bool.false_eq_true, reduceIte, decide_true, decide_false, Int.reduceLT, Int.reduceLE, Int.reduceGT, Int.reduceGE, Int.reduceEq, Int.reduceBEq, Int.reduceBNe, load_ptr, ldV_some, cellAt_cells, List.getElem?_cons_zero, List.getElem?_cons_succ, store_ptr, stO_some, setAt_0, setAt_1, setAt_2, setAt_3, setAt_4, setAt_5, setAt_6, setAt_7, setAt_8, setAt_9, setAt_10, setAt_11, setAt_12, cells_int, cells_bool, cells_str, cells_nils, cells_nilp, cells_ptr, cells_sl, cells_u8, cells_u16, cells_agg, get_upd_is, Option.isSome_some, upd_upd, ev1_nchkV, ev1_faV, nchkV_ptr, faV_ptr, ev1_extV, extV_tup, eqptr_nil, eqptr_ptr, Nat.zero_add, Nat.add_zero, qED0, qED1, placeR] at h
          cases h
      · have hnn : n = 8 := by omega
        subst hnn
        have q1 : (((8 : Nat) : Int) < ((b0.length : Nat) : Int)) = True := eq_true (by omega)
        have q2 : (((8 : Nat) : Int) < 8) = False := eq_false (by omega)
        refine ⟨⟨S2, ?_⟩, fun _ _ h => ?_⟩
        · simp only [M9b2, E9o, M9r2, l0, q1, q2, fb, t1, lo, lw, nn, evC_loop, qES0, qES1, qES2, env0, List.length_cons, List.length_nil, Nat.reduceAdd, Nat.reduceSub, List.replicate, List.cons_append, List.nil_append, opd, Env.put, Env.at, List.set_cons_zero, List.set_cons_succ, List.getD_cons_zero, List.getD_cons_succ, freezeL, resVs, oneOr, Option.map_some, Option.map_none, List.map_cons, List.map_nil, if_true, if_false, Bool.not_true, Bool.not_false, Bool.false_eq_true, reduceIte, decide_true, decide_false, Int.reduceLT, Int.reduceLE, Int.reduceGT, Int.reduceGE, Int.reduceEq, Int.reduceBEq, Int.reduceBNe, load_ptr, ldV_some, cellAt_cells, List.getElem?_cons_zero, List.getElem?_cons_succ, store_ptr, stO_some, setAt_0, setAt_1, setAt_2, setAt_3, setAt_4, setAt_5, setAt_6, setAt_7, setAt_8, setAt_9, setAt_10, setAt_11, setAt_12, cells_int, cells_bool, cells_str, cells_nils, cells_nilp, cells_ptr, cells_sl, cells_u8, cells_u16, cells_agg, get_upd_is, Option.isSome_some, upd_upd, ev1_nchkV, ev1_faV, nchkV_ptr, faV_ptr, ev1_extV, extV_tup, eqptr_nil, eqptr_ptr, Nat.zero_add, Nat.add_zero, qED0, qED1, placeR]
          exact key _ rfl
        · simp only [M9b2, E9o, l0, q1, q2, qES0, qES1, qES2, env0, List.length_cons, List.length_nil, Nat.reduceAdd, Nat.reduceSub, List.replicate, List.cons_append, List.nil_append, opd, Env.put, Env.at, List.set_cons_zero, List.set_cons_succ, List.getD_cons_zero, List.getD_cons_succ, freezeL, resVs, oneOr, Option.map_some, Option.map_none, List.map_cons, List.map_nil, if_true, if_false, Bool.not_true, Bool.not_false, Bool.false_eq_true, reduceIte, decide_true, decide_false, Int.reduceLT, Int.reduceLE, Int.reduceGT, Int.reduceGE, Int.reduceEq, Int.reduceBEq, Int.reduceBNe, load_ptr, ldV_some, cellAt_cells, List.getElem?_cons_zero, List.getElem?_cons_succ, store_ptr, stO_some, setAt_0, setAt_1, setAt_2, setAt_3, setAt_4, setAt_5, setAt_6, setAt_7, setAt_8, setAt_9, setAt_10, setAt_11, setAt_12, cells_int, cells_bool, cells_str, cells_nils, cells_nilp, cells_ptr, cells_sl, cells_u8, cells_u16, cells_agg, get_upd_is, Option.isSome_some, upd_upd, ev1_nchkV, ev1_faV, nchkV_ptr, faV_ptr, ev1_extV, extV_tup, eqptr_nil, eqptr_ptr, Nat.zero_add, Nat.add_zero, qED0, qED1, placeR] at h
          cases h
  obtain ⟨S, hS⟩ := hl
  have hS' : ∀ e, maskE M9b2l e = maskE M9b2l (E9o x0 x1 .nils .nils 0) → outR [MRes.tmp 0 4] (seqR (blockR 0 (iter (evC noGl (ev 999) 999 M9b2) M9b2l 999 e s1)) (evC noGl (ev 999) 999 M9r2)) = some (.bool true, S) := fun e he => by
    rw [iter_mask _ _ _ _ _ _ he]; exact hS
  rw [show (1000 : Nat) = 999 + 1 from rfl, ev_in rfl tab9]
  suffices hv : outR M9.res (evC noGl (ev 999) 999 M9.body (env0 M9.ntmps [x0, x1]) St.nil) = some (.bool true, S) by rw [hv]; rfl
  simp only [M9, hb, evC_loop, qES0, qES1, qES2, env0, List.length_cons, List.length_nil, Nat.reduceAdd, Nat.reduceSub, List.replicate, List.cons_append, List.nil_append, opd, Env.put, Env.at, List.set_cons_zero, List.set_cons_succ, List.getD_cons_zero, List.getD_cons_succ, freezeL, resVs, oneOr, Option.map_some, Option.map_none, List.map_cons, List.map_nil, if_true, if_false, Bool.not_true, Bool.not_false, Bool.false_eq_true, reduceIte, decide_true, decide_false, Int.reduceLT, Int.reduceLE, Int.reduceGT, Int.reduceGE, Int.reduceEq, Int.reduceBEq, Int.reduceBNe, load_ptr, ldV_some, cellAt_cells, List.getElem?_cons_zero, List.getElem?_cons_succ, store_ptr, stO_some, setAt_0, setAt_1, setAt_2, setAt_3, setAt_4, setAt_5, setAt_6, setAt_7, setAt_8, setAt_9, setAt_10, setAt_11, setAt_12, cells_int, cells_bool, cells_str, cells_nils, cells_nilp, cells_ptr, cells_sl, cells_u8, cells_u16, cells_agg, get_upd_is, Option.isSome_some, upd_upd, ev1_nchkV, ev1_faV, nchkV_ptr, faV_ptr, ev1_extV, extV_tup, eqptr_nil, eqptr_ptr, Nat.zero_add, Nat.add_zero, qED0, qED1, placeR]
  exact hS' _ rfl
end Go.Proofs.Ytghfinbdgnggjaa.rxMany
