/- What the evaluator says of the law TurnReject: true. No conditions. -/
import Derived.Test.YtochnineebgbgaaDoorOrder
import Derived.Test.YtochnineebgbgaaDoorArgS
namespace Go.Proofs.YtochnineebgbgaaDoor.turnReject
open Go Go.Ab
set_option linter.unusedVariables false
set_option linter.unusedSimpArgs false
set_option maxRecDepth 100000 in
set_option maxHeartbeats 8000000 in
theorem says (n0 : Int) (hn0 : IntKind.has .i64 n0) : Ab.saysTrue (evB 1000 15 [.int .i64 n0] Ab.St.nil) = true := by
  have h21 := b21 998
  have m1 := i64_rem n0 8 (by omega)
  obtain ⟨q, h1, h2, h3, _⟩ := tm8 n0
  have w1 : IntKind.i64.wrap (n0.tmod 8 + 8) = n0.tmod 8 + 8 := wrapI _ (by omega) (by omega)
  have m2 := i64_rem (n0.tmod 8 + 8) 8 (by omega)
  rw [mod8] at m2
  have hv : n0 % 8 = 0 ∨ n0 % 8 = 1 ∨ n0 % 8 = 2 ∨ n0 % 8 = 3 ∨ n0 % 8 = 4 ∨ n0 % 8 = 5 ∨ n0 % 8 = 6 ∨ n0 % 8 = 7 := by omega
  generalize n0 % 8 = v at m2 hv
  rw [show (1000 : Nat) = 999 + 1 from rfl, evB_in rfl tab15]
  simp only [M15, h21, m1, m2, w1, qES0, qES1, qES2, env0, List.length_cons, List.length_nil, Nat.reduceAdd, Nat.reduceSub, List.replicate, List.cons_append, List.nil_append, opd, Env.put, Env.at, List.set_cons_zero, List.set_cons_succ, List.getD_cons_zero, List.getD_cons_succ, freezeL, resVs, oneOr, Option.map_some, Option.map_none, List.map_cons, List.map_nil, if_true, if_false, Bool.not_true, Bool.not_false, Bool.false_eq_true, reduceIte, decide_true, decide_false, Int.reduceLT, Int.reduceLE, Int.reduceGT, Int.reduceGE, Int.reduceEq, Int.reduceBEq, Int.reduceBNe, load_ptr, ldV_some, cellAt_cells, List.getElem?_cons_zero, List.getElem?_cons_succ, store_ptr, stO_some, setAt_0, setAt_1, setAt_2, setAt_3, setAt_4, setAt_5, setAt_6, setAt_7, setAt_8, setAt_9, setAt_10, setAt_11, setAt_12, cells_int, cells_bool, cells_str, cells_nils, cells_nilp, cells_ptr, cells_sl, cells_u8, cells_u16, cells_agg, get_upd_is, Option.isSome_some, upd_upd, ev1_nchkV, ev1_faV, nchkV_ptr, faV_ptr, ev1_extV, extV_tup, eqptr_nil, eqptr_ptr, Nat.zero_add, Nat.add_zero]
  generalize n0.tmod 8 = d
  clear h21 m1 m2 w1 h1 h2 h3
  rcases hv with rfl | rfl | rfl | rfl | rfl | rfl | rfl | rfl <;> (show _ = true; kernel_rfl)
end Go.Proofs.YtochnineebgbgaaDoor.turnReject
