/- OutAgain, window by window. No conditions. -/
import Derived.Test.YtochnineebgbgaaDoorIn
import Derived.Test.YtochnineebgbgaaDoorM12o
set_option linter.unusedSimpArgs false
set_option linter.unusedVariables false
set_option maxRecDepth 100000
set_option maxHeartbeats 8000000
namespace Go.Proofs.YtochnineebgbgaaDoor
open Go Go.Ab
theorem again_4_0 (n0 n1 n2 : Int) (hw : (n0.tmod 7 + 7).tmod 7 = 4) (hu : (n2.tmod 3 + 3).tmod 3 = 0) : Ab.saysTrue (evB 1000 13 [.int .i64 n0, .int .i64 n1, .int .i64 n2] Ab.St.nil) = true := by
  have h21 := b21 998
  have m1 := i64_rem n0 7 (by omega)
  have m2 := i64_rem (n0.tmod 7 + 7) 7 (by omega)
  have m3 := i64_rem n1 6 (by omega)
  have m4 := i64_rem (n1.tmod 6 + 6) 6 (by omega)
  have m5 := i64_rem n2 3 (by omega)
  have m6 := i64_rem (n2.tmod 3 + 3) 3 (by omega)
  have r1 := tmR n0 7 (by omega)
  have r2 := tmR n1 6 (by omega)
  have r3 := tmR n2 3 (by omega)
  have w1 : IntKind.i64.wrap (n0.tmod 7 + 7) = n0.tmod 7 + 7 := wrapI _ (by omega) (by omega)
  have w2 : IntKind.i64.wrap (n1.tmod 6 + 6) = n1.tmod 6 + 6 := wrapI _ (by omega) (by omega)
  have w4 : IntKind.i64.wrap (n2.tmod 3 + 3) = n2.tmod 3 + 3 := wrapI _ (by omega) (by omega)
  have hv0 : 0 ≤ (n1.tmod 6 + 6).tmod 6 := Int.tmod_nonneg _ (by omega)
  have hv1 : (n1.tmod 6 + 6).tmod 6 < 6 := Int.tmod_lt_of_pos _ (by omega)
  have w3 : IntKind.i64.wrap (1 + 4) = 5 := rfl
  rw [hw] at m2
  rw [hu] at m6
  generalize (n1.tmod 6 + 6).tmod 6 = v at m4 hv0 hv1
  have hv : v = 0 ∨ v = 1 ∨ v = 2 ∨ v = 3 ∨ v = 4 ∨ v = 5 := by omega
  rw [show (1000 : Nat) = 999 + 1 from rfl, evB_in rfl tab13]
  simp only [M13, h21, m1, m2, m3, m4, m5, m6, w1, w2, w3, w4, qES0, qES1, qES2, env0, List.length_cons, List.length_nil, Nat.reduceAdd, Nat.reduceSub, List.replicate, List.cons_append, List.nil_append, opd, Env.put, Env.at, List.set_cons_zero, List.set_cons_succ, List.getD_cons_zero, List.getD_cons_succ, freezeL, resVs, oneOr, Option.map_some, Option.map_none, List.map_cons, List.map_nil, if_true, if_false, Bool.not_true, Bool.not_false, Bool.false_eq_true, reduceIte, decide_true, decide_false, Int.reduceLT, Int.reduceLE, Int.reduceGT, Int.reduceGE, Int.reduceEq, Int.reduceBEq, Int.reduceBNe, load_ptr, ldV_some, cellAt_cells, List.getElem?_cons_zero, List.getElem?_cons_succ, store_ptr, stO_some, setAt_0, setAt_1, setAt_2, setAt_3, setAt_4, setAt_5, setAt_6, setAt_7, setAt_8, setAt_9, setAt_10, setAt_11, setAt_12, cells_int, cells_bool, cells_str, cells_nils, cells_nilp, cells_ptr, cells_sl, cells_u8, cells_u16, cells_agg, get_upd_is, Option.isSome_some, upd_upd, ev1_nchkV, ev1_faV, nchkV_ptr, faV_ptr, ev1_extV, extV_tup, eqptr_nil, eqptr_ptr, Nat.zero_add, Nat.add_zero]
  generalize n0.tmod 7 = d
  generalize n1.tmod 6 = e
  generalize n2.tmod 3 = f
  clear h21 m1 m2 m3 m4 m5 m6 w1 w2 w3 w4 r1 r2 r3 hw hu hv0 hv1
  rcases hv with rfl | rfl | rfl | rfl | rfl | rfl <;> (show _ = true; kernel_rfl)
theorem again_4_1 (n0 n1 n2 : Int) (hw : (n0.tmod 7 + 7).tmod 7 = 4) (hu : (n2.tmod 3 + 3).tmod 3 = 1) : Ab.saysTrue (evB 1000 13 [.int .i64 n0, .int .i64 n1, .int .i64 n2] Ab.St.nil) = true := by
  have h21 := b21 998
  have m1 := i64_rem n0 7 (by omega)
  have m2 := i64_rem (n0.tmod 7 + 7) 7 (by omega)
  have m3 := i64_rem n1 6 (by omega)
  have m4 := i64_rem (n1.tmod 6 + 6) 6 (by omega)
  have m5 := i64_rem n2 3 (by omega)
  have m6 := i64_rem (n2.tmod 3 + 3) 3 (by omega)
  have r1 := tmR n0 7 (by omega)
  have r2 := tmR n1 6 (by omega)
  have r3 := tmR n2 3 (by omega)
  have w1 : IntKind.i64.wrap (n0.tmod 7 + 7) = n0.tmod 7 + 7 := wrapI _ (by omega) (by omega)
  have w2 : IntKind.i64.wrap (n1.tmod 6 + 6) = n1.tmod 6 + 6 := wrapI _ (by omega) (by omega)
  have w4 : IntKind.i64.wrap (n2.tmod 3 + 3) = n2.tmod 3 + 3 := wrapI _ (by omega) (by omega)
  have hv0 : 0 ≤ (n1.tmod 6 + 6).tmod 6 := Int.tmod_nonneg _ (by omega)
  have hv1 : (n1.tmod 6 + 6).tmod 6 < 6 := Int.tmod_lt_of_pos _ (by omega)
  have w3 : IntKind.i64.wrap (1 + 4) = 5 := rfl
  rw [hw] at m2
  rw [hu] at m6
  generalize (n1.tmod 6 + 6).tmod 6 = v at m4 hv0 hv1
  have hv : v = 0 ∨ v = 1 ∨ v = 2 ∨ v = 3 ∨ v = 4 ∨ v = 5 := by omega
  rw [show (1000 : Nat) = 999 + 1 from rfl, evB_in rfl tab13]
  simp only [M13, h21, m1, m2, m3, m4, m5, m6, w1, w2, w3, w4, qES0, qES1, qES2, env0, List.length_cons, List.length_nil, Nat.reduceAdd, Nat.reduceSub, List.replicate, List.cons_append, List.nil_append, opd, Env.put, Env.at, List.set_cons_zero, List.set_cons_succ, List.getD_cons_zero, List.getD_cons_succ, freezeL, resVs, oneOr, Option.map_some, Option.map_none, List.map_cons, List.map_nil, if_true, if_false, Bool.not_true, Bool.not_false, Bool.false_eq_true, reduceIte, decide_true, decide_false, Int.reduceLT, Int.reduceLE, Int.reduceGT, Int.reduceGE, Int.reduceEq, Int.reduceBEq, Int.reduceBNe, load_ptr, ldV_some, cellAt_cells, List.getElem?_cons_zero, List.getElem?_cons_succ, store_ptr, stO_some, setAt_0, setAt_1, setAt_2, setAt_3, setAt_4, setAt_5, setAt_6, setAt_7, setAt_8, setAt_9, setAt_10, setAt_11, setAt_12, cells_int, cells_bool, cells_str, cells_nils, cells_nilp, cells_ptr, cells_sl, cells_u8, cells_u16, cells_agg, get_upd_is, Option.isSome_some, upd_upd, ev1_nchkV, ev1_faV, nchkV_ptr, faV_ptr, ev1_extV, extV_tup, eqptr_nil, eqptr_ptr, Nat.zero_add, Nat.add_zero]
  generalize n0.tmod 7 = d
  generalize n1.tmod 6 = e
  generalize n2.tmod 3 = f
  clear h21 m1 m2 m3 m4 m5 m6 w1 w2 w3 w4 r1 r2 r3 hw hu hv0 hv1
  rcases hv with rfl | rfl | rfl | rfl | rfl | rfl <;> (show _ = true; kernel_rfl)
theorem again_4_2 (n0 n1 n2 : Int) (hw : (n0.tmod 7 + 7).tmod 7 = 4) (hu : (n2.tmod 3 + 3).tmod 3 = 2) : Ab.saysTrue (evB 1000 13 [.int .i64 n0, .int .i64 n1, .int .i64 n2] Ab.St.nil) = true := by
  have h21 := b21 998
  have m1 := i64_rem n0 7 (by omega)
  have m2 := i64_rem (n0.tmod 7 + 7) 7 (by omega)
  have m3 := i64_rem n1 6 (by omega)
  have m4 := i64_rem (n1.tmod 6 + 6) 6 (by omega)
  have m5 := i64_rem n2 3 (by omega)
  have m6 := i64_rem (n2.tmod 3 + 3) 3 (by omega)
  have r1 := tmR n0 7 (by omega)
  have r2 := tmR n1 6 (by omega)
  have r3 := tmR n2 3 (by omega)
  have w1 : IntKind.i64.wrap (n0.tmod 7 + 7) = n0.tmod 7 + 7 := wrapI _ (by omega) (by omega)
  have w2 : IntKind.i64.wrap (n1.tmod 6 + 6) = n1.tmod 6 + 6 := wrapI _ (by omega) (by omega)
  have w4 : IntKind.i64.wrap (n2.tmod 3 + 3) = n2.tmod 3 + 3 := wrapI _ (by omega) (by omega)
  have hv0 : 0 ≤ (n1.tmod 6 + 6).tmod 6 := Int.tmod_nonneg _ (by omega)
  have hv1 : (n1.tmod 6 + 6).tmod 6 < 6 := Int.tmod_lt_of_pos _ (by omega)
  have w3 : IntKind.i64.wrap (1 + 4) = 5 := rfl
  rw [hw] at m2
  rw [hu] at m6
  generalize (n1.tmod 6 + 6).tmod 6 = v at m4 hv0 hv1
  have hv : v = 0 ∨ v = 1 ∨ v = 2 ∨ v = 3 ∨ v = 4 ∨ v = 5 := by omega
  rw [show (1000 : Nat) = 999 + 1 from rfl, evB_in rfl tab13]
  simp only [M13, h21, m1, m2, m3, m4, m5, m6, w1, w2, w3, w4, qES0, qES1, qES2, env0, List.length_cons, List.length_nil, Nat.reduceAdd, Nat.reduceSub, List.replicate, List.cons_append, List.nil_append, opd, Env.put, Env.at, List.set_cons_zero, List.set_cons_succ, List.getD_cons_zero, List.getD_cons_succ, freezeL, resVs, oneOr, Option.map_some, Option.map_none, List.map_cons, List.map_nil, if_true, if_false, Bool.not_true, Bool.not_false, Bool.false_eq_true, reduceIte, decide_true, decide_false, Int.reduceLT, Int.reduceLE, Int.reduceGT, Int.reduceGE, Int.reduceEq, Int.reduceBEq, Int.reduceBNe, load_ptr, ldV_some, cellAt_cells, List.getElem?_cons_zero, List.getElem?_cons_succ, store_ptr, stO_some, setAt_0, setAt_1, setAt_2, setAt_3, setAt_4, setAt_5, setAt_6, setAt_7, setAt_8, setAt_9, setAt_10, setAt_11, setAt_12, cells_int, cells_bool, cells_str, cells_nils, cells_nilp, cells_ptr, cells_sl, cells_u8, cells_u16, cells_agg, get_upd_is, Option.isSome_some, upd_upd, ev1_nchkV, ev1_faV, nchkV_ptr, faV_ptr, ev1_extV, extV_tup, eqptr_nil, eqptr_ptr, Nat.zero_add, Nat.add_zero]
  generalize n0.tmod 7 = d
  generalize n1.tmod 6 = e
  generalize n2.tmod 3 = f
  clear h21 m1 m2 m3 m4 m5 m6 w1 w2 w3 w4 r1 r2 r3 hw hu hv0 hv1
  rcases hv with rfl | rfl | rfl | rfl | rfl | rfl <;> (show _ = true; kernel_rfl)
theorem again_5_0 (n0 n1 n2 : Int) (hw : (n0.tmod 7 + 7).tmod 7 = 5) (hu : (n2.tmod 3 + 3).tmod 3 = 0) : Ab.saysTrue (evB 1000 13 [.int .i64 n0, .int .i64 n1, .int .i64 n2] Ab.St.nil) = true := by
  have h21 := b21 998
  have m1 := i64_rem n0 7 (by omega)
  have m2 := i64_rem (n0.tmod 7 + 7) 7 (by omega)
  have m3 := i64_rem n1 6 (by omega)
  have m4 := i64_rem (n1.tmod 6 + 6) 6 (by omega)
  have m5 := i64_rem n2 3 (by omega)
  have m6 := i64_rem (n2.tmod 3 + 3) 3 (by omega)
  have r1 := tmR n0 7 (by omega)
  have r2 := tmR n1 6 (by omega)
  have r3 := tmR n2 3 (by omega)
  have w1 : IntKind.i64.wrap (n0.tmod 7 + 7) = n0.tmod 7 + 7 := wrapI _ (by omega) (by omega)
  have w2 : IntKind.i64.wrap (n1.tmod 6 + 6) = n1.tmod 6 + 6 := wrapI _ (by omega) (by omega)
  have w4 : IntKind.i64.wrap (n2.tmod 3 + 3) = n2.tmod 3 + 3 := wrapI _ (by omega) (by omega)
  have hv0 : 0 ≤ (n1.tmod 6 + 6).tmod 6 := Int.tmod_nonneg _ (by omega)
  have hv1 : (n1.tmod 6 + 6).tmod 6 < 6 := Int.tmod_lt_of_pos _ (by omega)
  have w3 : IntKind.i64.wrap (1 + 5) = 6 := rfl
  rw [hw] at m2
  rw [hu] at m6
  generalize (n1.tmod 6 + 6).tmod 6 = v at m4 hv0 hv1
  have hv : v = 0 ∨ v = 1 ∨ v = 2 ∨ v = 3 ∨ v = 4 ∨ v = 5 := by omega
  rw [show (1000 : Nat) = 999 + 1 from rfl, evB_in rfl tab13]
  simp only [M13, h21, m1, m2, m3, m4, m5, m6, w1, w2, w3, w4, qES0, qES1, qES2, env0, List.length_cons, List.length_nil, Nat.reduceAdd, Nat.reduceSub, List.replicate, List.cons_append, List.nil_append, opd, Env.put, Env.at, List.set_cons_zero, List.set_cons_succ, List.getD_cons_zero, List.getD_cons_succ, freezeL, resVs, oneOr, Option.map_some, Option.map_none, List.map_cons, List.map_nil, if_true, if_false, Bool.not_true, Bool.not_false, Bool.false_eq_true, reduceIte, decide_true, decide_false, Int.reduceLT, Int.reduceLE, Int.reduceGT, Int.reduceGE, Int.reduceEq, Int.reduceBEq, Int.reduceBNe, load_ptr, ldV_some, cellAt_cells, List.getElem?_cons_zero, List.getElem?_cons_succ, store_ptr, stO_some, setAt_0, setAt_1, setAt_2, setAt_3, setAt_4, setAt_5, setAt_6, setAt_7, setAt_8, setAt_9, setAt_10, setAt_11, setAt_12, cells_int, cells_bool, cells_str, cells_nils, cells_nilp, cells_ptr, cells_sl, cells_u8, cells_u16, cells_agg, get_upd_is, Option.isSome_some, upd_upd, ev1_nchkV, ev1_faV, nchkV_ptr, faV_ptr, ev1_extV, extV_tup, eqptr_nil, eqptr_ptr, Nat.zero_add, Nat.add_zero]
  generalize n0.tmod 7 = d
  generalize n1.tmod 6 = e
  generalize n2.tmod 3 = f
  clear h21 m1 m2 m3 m4 m5 m6 w1 w2 w3 w4 r1 r2 r3 hw hu hv0 hv1
  rcases hv with rfl | rfl | rfl | rfl | rfl | rfl <;> (show _ = true; kernel_rfl)
theorem again_5_1 (n0 n1 n2 : Int) (hw : (n0.tmod 7 + 7).tmod 7 = 5) (hu : (n2.tmod 3 + 3).tmod 3 = 1) : Ab.saysTrue (evB 1000 13 [.int .i64 n0, .int .i64 n1, .int .i64 n2] Ab.St.nil) = true := by
  have h21 := b21 998
  have m1 := i64_rem n0 7 (by omega)
  have m2 := i64_rem (n0.tmod 7 + 7) 7 (by omega)
  have m3 := i64_rem n1 6 (by omega)
  have m4 := i64_rem (n1.tmod 6 + 6) 6 (by omega)
  have m5 := i64_rem n2 3 (by omega)
  have m6 := i64_rem (n2.tmod 3 + 3) 3 (by omega)
  have r1 := tmR n0 7 (by omega)
  have r2 := tmR n1 6 (by omega)
  have r3 := tmR n2 3 (by omega)
  have w1 : IntKind.i64.wrap (n0.tmod 7 + 7) = n0.tmod 7 + 7 := wrapI _ (by omega) (by omega)
  have w2 : IntKind.i64.wrap (n1.tmod 6 + 6) = n1.tmod 6 + 6 := wrapI _ (by omega) (by omega)
  have w4 : IntKind.i64.wrap (n2.tmod 3 + 3) = n2.tmod 3 + 3 := wrapI _ (by omega) (by omega)
  have hv0 : 0 ≤ (n1.tmod 6 + 6).tmod 6 := Int.tmod_nonneg _ (by omega)
  have hv1 : (n1.tmod 6 + 6).tmod 6 < 6 := Int.tmod_lt_of_pos _ (by omega)
  have w3 : IntKind.i64.wrap (1 + 5) = 6 := rfl
  rw [hw] at m2
  rw [hu] at m6
  generalize (n1.tmod 6 + 6).tmod 6 = v at m4 hv0 hv1
  have hv : v = 0 ∨ v = 1 ∨ v = 2 ∨ v = 3 ∨ v = 4 ∨ v = 5 := by omega
  rw [show (1000 : Nat) = 999 + 1 from rfl, evB_in rfl tab13]
  simp only [M13, h21, m1, m2, m3, m4, m5, m6, w1, w2, w3, w4, qES0, qES1, qES2, env0, List.length_cons, List.length_nil, Nat.reduceAdd, Nat.reduceSub, List.replicate, List.cons_append, List.nil_append, opd, Env.put, Env.at, List.set_cons_zero, List.set_cons_succ, List.getD_cons_zero, List.getD_cons_succ, freezeL, resVs, oneOr, Option.map_some, Option.map_none, List.map_cons, List.map_nil, if_true, if_false, Bool.not_true, Bool.not_false, Bool.false_eq_true, reduceIte, decide_true, decide_false, Int.reduceLT, Int.reduceLE, Int.reduceGT, Int.reduceGE, Int.reduceEq, Int.reduceBEq, Int.reduceBNe, load_ptr, ldV_some, cellAt_cells, List.getElem?_cons_zero, List.getElem?_cons_succ, store_ptr, stO_some, setAt_0, setAt_1, setAt_2, setAt_3, setAt_4, setAt_5, setAt_6, setAt_7, setAt_8, setAt_9, setAt_10, setAt_11, setAt_12, cells_int, cells_bool, cells_str, cells_nils, cells_nilp, cells_ptr, cells_sl, cells_u8, cells_u16, cells_agg, get_upd_is, Option.isSome_some, upd_upd, ev1_nchkV, ev1_faV, nchkV_ptr, faV_ptr, ev1_extV, extV_tup, eqptr_nil, eqptr_ptr, Nat.zero_add, Nat.add_zero]
  generalize n0.tmod 7 = d
  generalize n1.tmod 6 = e
  generalize n2.tmod 3 = f
  clear h21 m1 m2 m3 m4 m5 m6 w1 w2 w3 w4 r1 r2 r3 hw hu hv0 hv1
  rcases hv with rfl | rfl | rfl | rfl | rfl | rfl <;> (show _ = true; kernel_rfl)
theorem again_5_2 (n0 n1 n2 : Int) (hw : (n0.tmod 7 + 7).tmod 7 = 5) (hu : (n2.tmod 3 + 3).tmod 3 = 2) : Ab.saysTrue (evB 1000 13 [.int .i64 n0, .int .i64 n1, .int .i64 n2] Ab.St.nil) = true := by
  have h21 := b21 998
  have m1 := i64_rem n0 7 (by omega)
  have m2 := i64_rem (n0.tmod 7 + 7) 7 (by omega)
  have m3 := i64_rem n1 6 (by omega)
  have m4 := i64_rem (n1.tmod 6 + 6) 6 (by omega)
  have m5 := i64_rem n2 3 (by omega)
  have m6 := i64_rem (n2.tmod 3 + 3) 3 (by omega)
  have r1 := tmR n0 7 (by omega)
  have r2 := tmR n1 6 (by omega)
  have r3 := tmR n2 3 (by omega)
  have w1 : IntKind.i64.wrap (n0.tmod 7 + 7) = n0.tmod 7 + 7 := wrapI _ (by omega) (by omega)
  have w2 : IntKind.i64.wrap (n1.tmod 6 + 6) = n1.tmod 6 + 6 := wrapI _ (by omega) (by omega)
  have w4 : IntKind.i64.wrap (n2.tmod 3 + 3) = n2.tmod 3 + 3 := wrapI _ (by omega) (by omega)
  have hv0 : 0 ≤ (n1.tmod 6 + 6).tmod 6 := Int.tmod_nonneg _ (by omega)
  have hv1 : (n1.tmod 6 + 6).tmod 6 < 6 := Int.tmod_lt_of_pos _ (by omega)
  have w3 : IntKind.i64.wrap (1 + 5) = 6 := rfl
  rw [hw] at m2
  rw [hu] at m6
  generalize (n1.tmod 6 + 6).tmod 6 = v at m4 hv0 hv1
  have hv : v = 0 ∨ v = 1 ∨ v = 2 ∨ v = 3 ∨ v = 4 ∨ v = 5 := by omega
  rw [show (1000 : Nat) = 999 + 1 from rfl, evB_in rfl tab13]
  simp only [M13, h21, m1, m2, m3, m4, m5, m6, w1, w2, w3, w4, qES0, qES1, qES2, env0, List.length_cons, List.length_nil, Nat.reduceAdd, Nat.reduceSub, List.replicate, List.cons_append, List.nil_append, opd, Env.put, Env.at, List.set_cons_zero, List.set_cons_succ, List.getD_cons_zero, List.getD_cons_succ, freezeL, resVs, oneOr, Option.map_some, Option.map_none, List.map_cons, List.map_nil, if_true, if_false, Bool.not_true, Bool.not_false, Bool.false_eq_true, reduceIte, decide_true, decide_false, Int.reduceLT, Int.reduceLE, Int.reduceGT, Int.reduceGE, Int.reduceEq, Int.reduceBEq, Int.reduceBNe, load_ptr, ldV_some, cellAt_cells, List.getElem?_cons_zero, List.getElem?_cons_succ, store_ptr, stO_some, setAt_0, setAt_1, setAt_2, setAt_3, setAt_4, setAt_5, setAt_6, setAt_7, setAt_8, setAt_9, setAt_10, setAt_11, setAt_12, cells_int, cells_bool, cells_str, cells_nils, cells_nilp, cells_ptr, cells_sl, cells_u8, cells_u16, cells_agg, get_upd_is, Option.isSome_some, upd_upd, ev1_nchkV, ev1_faV, nchkV_ptr, faV_ptr, ev1_extV, extV_tup, eqptr_nil, eqptr_ptr, Nat.zero_add, Nat.add_zero]
  generalize n0.tmod 7 = d
  generalize n1.tmod 6 = e
  generalize n2.tmod 3 = f
  clear h21 m1 m2 m3 m4 m5 m6 w1 w2 w3 w4 r1 r2 r3 hw hu hv0 hv1
  rcases hv with rfl | rfl | rfl | rfl | rfl | rfl <;> (show _ = true; kernel_rfl)
end Go.Proofs.YtochnineebgbgaaDoor
