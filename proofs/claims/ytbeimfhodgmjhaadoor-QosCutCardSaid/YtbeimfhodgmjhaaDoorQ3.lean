/- qos.May, meet.Frame and the document's; bits one by one. No conditions. -/
import Derived.Test.YtbeimfhodgmjhaaDoorQ2
set_option linter.unusedSimpArgs false
set_option linter.unusedVariables false
set_option maxRecDepth 100000
set_option maxHeartbeats 4000000
namespace Go.Proofs.YtbeimfhodgmjhaaDoor
open Go Go.Ab
def mayP (b s w z t : Int) : Prop := 1 ≤ b ∧ b ≤ 15 ∧ b % 2 = 1 ∧ 1 ≤ s ∧ s ≤ 7 ∧ s % 2 = 1 ∧ 1 ≤ w ∧ w ≤ 127 ∧ 1 ≤ z ∧ z ≤ 15 ∧ 1 ≤ t ∧ t ≤ 7
instance (b s w z t : Int) : Decidable (mayP b s w z t) := inferInstanceAs (Decidable (_ ∧ _))
def ofC (b s w z t : Int) : List AV := [.int .i64 b, .int .i64 s, .int .i64 w, .int .i64 z, .int .i64 t]
theorem in62_ev (k : Nat) (n m : Int) (s : St) : evT (k + 1) 62 [.int .i64 n, .int .i64 m] s = some (.bool (decide (n ≥ 1 ∧ n ≤ m)), s) := by
  rw [evT_in rfl tab62]
  by_cases h : n ≥ 1
  · have d : decide (n ≥ 1) = true := decide_eq_true h
    simp only [M62, d, qES0, qES1, qES2, env0, List.length_cons, List.length_nil, Nat.reduceAdd, Nat.reduceSub, List.replicate, List.cons_append, List.nil_append, opd, Env.put, Env.at, List.set_cons_zero, List.set_cons_succ, List.getD_cons_zero, List.getD_cons_succ, freezeL, resVs, oneOr, Option.map_some, Option.map_none, List.map_cons, List.map_nil, if_true, if_false, Bool.not_true, Bool.not_false, Bool.false_eq_true, reduceIte, decide_true, decide_false, Int.reduceLT, Int.reduceLE, Int.reduceGT, Int.reduceGE, Int.reduceEq, Int.reduceBEq, Int.reduceBNe, load_ptr, ldV_some, cellAt_cells, List.getElem?_cons_zero, List.getElem?_cons_succ, store_ptr, stO_some, setAt_0, setAt_1, setAt_2, setAt_3, setAt_4, setAt_5, setAt_6, setAt_7, setAt_8, setAt_9, setAt_10, setAt_11, setAt_12, cells_int, cells_bool, cells_str, cells_nils, cells_nilp, cells_ptr, cells_sl, cells_u8, cells_u16, cells_agg, get_upd_is, Option.isSome_some, upd_upd, ev1_nchkV, ev1_faV, nchkV_ptr, faV_ptr, ev1_extV, extV_tup, eqptr_nil, eqptr_ptr, Nat.zero_add, Nat.add_zero, qPL0, qPL1, qPL2, qPL3, qPL4, qPL5, beq_self_eq_true]
    simp [h]
  · have d : decide (n ≥ 1) = false := decide_eq_false h
    simp only [M62, d, qES0, qES1, qES2, env0, List.length_cons, List.length_nil, Nat.reduceAdd, Nat.reduceSub, List.replicate, List.cons_append, List.nil_append, opd, Env.put, Env.at, List.set_cons_zero, List.set_cons_succ, List.getD_cons_zero, List.getD_cons_succ, freezeL, resVs, oneOr, Option.map_some, Option.map_none, List.map_cons, List.map_nil, if_true, if_false, Bool.not_true, Bool.not_false, Bool.false_eq_true, reduceIte, decide_true, decide_false, Int.reduceLT, Int.reduceLE, Int.reduceGT, Int.reduceGE, Int.reduceEq, Int.reduceBEq, Int.reduceBNe, load_ptr, ldV_some, cellAt_cells, List.getElem?_cons_zero, List.getElem?_cons_succ, store_ptr, stO_some, setAt_0, setAt_1, setAt_2, setAt_3, setAt_4, setAt_5, setAt_6, setAt_7, setAt_8, setAt_9, setAt_10, setAt_11, setAt_12, cells_int, cells_bool, cells_str, cells_nils, cells_nilp, cells_ptr, cells_sl, cells_u8, cells_u16, cells_agg, get_upd_is, Option.isSome_some, upd_upd, ev1_nchkV, ev1_faV, nchkV_ptr, faV_ptr, ev1_extV, extV_tup, eqptr_nil, eqptr_ptr, Nat.zero_add, Nat.add_zero, qPL0, qPL1, qPL2, qPL3, qPL4, qPL5, beq_self_eq_true]
    simp [h]
theorem may_val (k : Nat) (b s w z t : Int) (S : St) : valR (evT (k + 2) 25 [.agg (ofC b s w z t)] (S.pl [])) = some (.bool (decide (mayP b s w z t))) := by
  rw [show k + 2 = (k + 1) + 1 from rfl, evT_in rfl tab25]
  have h62 := fun n m s => in62_ev k n m s
  simp only [ofC, M25, h62, and_1, qES0, qES1, qES2, env0, List.length_cons, List.length_nil, Nat.reduceAdd, Nat.reduceSub, List.replicate, List.cons_append, List.nil_append, opd, Env.put, Env.at, List.set_cons_zero, List.set_cons_succ, List.getD_cons_zero, List.getD_cons_succ, freezeL, resVs, oneOr, Option.map_some, Option.map_none, List.map_cons, List.map_nil, if_true, if_false, Bool.not_true, Bool.not_false, Bool.false_eq_true, reduceIte, decide_true, decide_false, Int.reduceLT, Int.reduceLE, Int.reduceGT, Int.reduceGE, Int.reduceEq, Int.reduceBEq, Int.reduceBNe, load_ptr, ldV_some, cellAt_cells, List.getElem?_cons_zero, List.getElem?_cons_succ, store_ptr, stO_some, setAt_0, setAt_1, setAt_2, setAt_3, setAt_4, setAt_5, setAt_6, setAt_7, setAt_8, setAt_9, setAt_10, setAt_11, setAt_12, cells_int, cells_bool, cells_str, cells_nils, cells_nilp, cells_ptr, cells_sl, cells_u8, cells_u16, cells_agg, get_upd_is, Option.isSome_some, upd_upd, ev1_nchkV, ev1_faV, nchkV_ptr, faV_ptr, ev1_extV, extV_tup, eqptr_nil, eqptr_ptr, Nat.zero_add, Nat.add_zero, qPL0, qPL1, qPL2, qPL3, qPL4, qPL5, beq_self_eq_true]
  repeat' split
  all_goals first
    | exact congrArg (fun x => some (AV.bool x)) (decide_eq_decide.2 (by unfold mayP; omega))
    | exact congrArg (fun x => some (AV.bool x)) (decide_eq_false (by unfold mayP; omega)).symm
theorem tmod2 (n : Int) (h : 1 ≤ n) : n.tmod 2 = n % 2 := Int.tmod_eq_emod_of_nonneg (by omega)
theorem rmay_val (k : Nat) (b s w z t : Int) (S : St) : valR (evT (k + 1) 58 [.agg (ofC b s w z t)] (S.pl [])) = some (.bool (decide (mayP b s w z t))) := by
  rw [evT_in rfl tab58]
  have r1 := i64_rem b 2 (by omega)
  have r2 := i64_rem s 2 (by omega)
  simp only [ofC, M58, r1, r2, qES0, qES1, qES2, env0, List.length_cons, List.length_nil, Nat.reduceAdd, Nat.reduceSub, List.replicate, List.cons_append, List.nil_append, opd, Env.put, Env.at, List.set_cons_zero, List.set_cons_succ, List.getD_cons_zero, List.getD_cons_succ, freezeL, resVs, oneOr, Option.map_some, Option.map_none, List.map_cons, List.map_nil, if_true, if_false, Bool.not_true, Bool.not_false, Bool.false_eq_true, reduceIte, decide_true, decide_false, Int.reduceLT, Int.reduceLE, Int.reduceGT, Int.reduceGE, Int.reduceEq, Int.reduceBEq, Int.reduceBNe, load_ptr, ldV_some, cellAt_cells, List.getElem?_cons_zero, List.getElem?_cons_succ, store_ptr, stO_some, setAt_0, setAt_1, setAt_2, setAt_3, setAt_4, setAt_5, setAt_6, setAt_7, setAt_8, setAt_9, setAt_10, setAt_11, setAt_12, cells_int, cells_bool, cells_str, cells_nils, cells_nilp, cells_ptr, cells_sl, cells_u8, cells_u16, cells_agg, get_upd_is, Option.isSome_some, upd_upd, ev1_nchkV, ev1_faV, nchkV_ptr, faV_ptr, ev1_extV, extV_tup, eqptr_nil, eqptr_ptr, Nat.zero_add, Nat.add_zero, qPL0, qPL1, qPL2, qPL3, qPL4, qPL5, beq_self_eq_true]
  by_cases hb : 1 ≤ b
  · by_cases hs : 1 ≤ s
    · rw [tmod2 b hb, tmod2 s hs]
      repeat' split
      all_goals first
        | exact congrArg (fun x => some (AV.bool x)) (decide_eq_decide.2 (by unfold mayP; omega))
        | exact congrArg (fun x => some (AV.bool x)) (decide_eq_false (by unfold mayP; omega)).symm
    · have hm : decide (mayP b s w z t) = false := decide_eq_false (by unfold mayP; omega)
      rw [hm]
      repeat' split
      all_goals first | rfl | omega
  · have hm : decide (mayP b s w z t) = false := decide_eq_false (by unfold mayP; omega)
    rw [hm]
    repeat' split
    all_goals first | rfl | omega
theorem i64_mul (a b : Int) : binV .mul (.int .i64 a) (.int .i64 b) = some (.int .i64 (IntKind.i64.wrap (a * b))) := (id rfl)
theorem frame_ev (k : Nat) (size baud : Int) (h0 : 0 ≤ size) (h1 : size ≤ 1000000) (s : St) : evT (k + 2) 44 [.int .i64 size, .int .i64 baud] s = some (.int .i64 (ticksZ (2 * (size + 5) + 2) baud), s) := by
  rw [show k + 2 = (k + 1) + 1 from rfl, evT_in rfl tab44]
  have w1 : IntKind.i64.wrap (size + 5) = size + 5 := wrapI _ (by omega) (by omega)
  have w2 : IntKind.i64.wrap (2 * (size + 5)) = 2 * (size + 5) := wrapI _ (by omega) (by omega)
  have w3 : IntKind.i64.wrap (2 * (size + 5) + 2) = 2 * (size + 5) + 2 := wrapI _ (by omega) (by omega)
  have h := ticks_ev k (2 * (size + 5) + 2) baud ⟨by simp [IntKind.min, IntKind.bits, IntKind.signed]; omega, by simp [IntKind.max, IntKind.bits, IntKind.signed]; omega⟩
  simp only [M44, w1, w2, w3, h, i64_mul, qES0, qES1, qES2, env0, List.length_cons, List.length_nil, Nat.reduceAdd, Nat.reduceSub, List.replicate, List.cons_append, List.nil_append, opd, Env.put, Env.at, List.set_cons_zero, List.set_cons_succ, List.getD_cons_zero, List.getD_cons_succ, freezeL, resVs, oneOr, Option.map_some, Option.map_none, List.map_cons, List.map_nil, if_true, if_false, Bool.not_true, Bool.not_false, Bool.false_eq_true, reduceIte, decide_true, decide_false, Int.reduceLT, Int.reduceLE, Int.reduceGT, Int.reduceGE, Int.reduceEq, Int.reduceBEq, Int.reduceBNe, load_ptr, ldV_some, cellAt_cells, List.getElem?_cons_zero, List.getElem?_cons_succ, store_ptr, stO_some, setAt_0, setAt_1, setAt_2, setAt_3, setAt_4, setAt_5, setAt_6, setAt_7, setAt_8, setAt_9, setAt_10, setAt_11, setAt_12, cells_int, cells_bool, cells_str, cells_nils, cells_nilp, cells_ptr, cells_sl, cells_u8, cells_u16, cells_agg, get_upd_is, Option.isSome_some, upd_upd, ev1_nchkV, ev1_faV, nchkV_ptr, faV_ptr, ev1_extV, extV_tup, eqptr_nil, eqptr_ptr, Nat.zero_add, Nat.add_zero, qPL0, qPL1, qPL2, qPL3, qPL4, qPL5, beq_self_eq_true]
theorem rframe_ev (k : Nat) (size baud : Int) (h0 : 0 ≤ size) (h1 : size ≤ 1000000) (s : St) : evT (k + 2) 45 [.int .i64 size, .int .i64 baud] s = some (.int .i64 (ticksZ (2 * (size + 5) + 2) baud), s) := by
  rw [show k + 2 = (k + 1) + 1 from rfl, evT_in rfl tab45]
  have w1 : IntKind.i64.wrap (size + 5) = size + 5 := wrapI _ (by omega) (by omega)
  have w2 : IntKind.i64.wrap (2 * (size + 5)) = 2 * (size + 5) := wrapI _ (by omega) (by omega)
  have w3 : IntKind.i64.wrap (2 * (size + 5) + 2) = 2 * (size + 5) + 2 := wrapI _ (by omega) (by omega)
  have h := rticks_ev k (2 * (size + 5) + 2) baud ⟨by simp [IntKind.min, IntKind.bits, IntKind.signed]; omega, by simp [IntKind.max, IntKind.bits, IntKind.signed]; omega⟩
  simp only [M45, w1, w2, w3, h, i64_mul, qES0, qES1, qES2, env0, List.length_cons, List.length_nil, Nat.reduceAdd, Nat.reduceSub, List.replicate, List.cons_append, List.nil_append, opd, Env.put, Env.at, List.set_cons_zero, List.set_cons_succ, List.getD_cons_zero, List.getD_cons_succ, freezeL, resVs, oneOr, Option.map_some, Option.map_none, List.map_cons, List.map_nil, if_true, if_false, Bool.not_true, Bool.not_false, Bool.false_eq_true, reduceIte, decide_true, decide_false, Int.reduceLT, Int.reduceLE, Int.reduceGT, Int.reduceGE, Int.reduceEq, Int.reduceBEq, Int.reduceBNe, load_ptr, ldV_some, cellAt_cells, List.getElem?_cons_zero, List.getElem?_cons_succ, store_ptr, stO_some, setAt_0, setAt_1, setAt_2, setAt_3, setAt_4, setAt_5, setAt_6, setAt_7, setAt_8, setAt_9, setAt_10, setAt_11, setAt_12, cells_int, cells_bool, cells_str, cells_nils, cells_nilp, cells_ptr, cells_sl, cells_u8, cells_u16, cells_agg, get_upd_is, Option.isSome_some, upd_upd, ev1_nchkV, ev1_faV, nchkV_ptr, faV_ptr, ev1_extV, extV_tup, eqptr_nil, eqptr_ptr, Nat.zero_add, Nat.add_zero, qPL0, qPL1, qPL2, qPL3, qPL4, qPL5, beq_self_eq_true]
end Go.Proofs.YtbeimfhodgmjhaaDoor
