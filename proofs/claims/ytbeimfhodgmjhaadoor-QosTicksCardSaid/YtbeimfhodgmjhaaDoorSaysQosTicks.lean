/- What the evaluator says of the law QosTicks: true. No conditions. -/
import Derived.Test.YtbeimfhodgmjhaaDoorQ7
import Derived.Test.YtbeimfhodgmjhaaDoorM8_12
import Derived.Test.YtbeimfhodgmjhaaDoorPlainT8
namespace Go.Proofs.YtbeimfhodgmjhaaDoor.qosTicks
open Go Go.Ab
set_option linter.unusedVariables false
set_option linter.unusedSimpArgs false
set_option maxRecDepth 100000 in
set_option maxHeartbeats 8000000 in
theorem says (n0 : Int) (hn0 : IntKind.has .i64 n0) (n1 : Int) (hn1 : IntKind.has .i64 n1) : Ab.saysTrue (evB 1000 12 [.int .i64 n0, .int .i64 n1] Ab.St.nil) = true := by
  have hb := b21 998
  rw [show (1000 : Nat) = 999 + 1 from rfl, evB_in rfl tab12]
  have a1 := and_65535 n0
  have a2 : binV .and (.int .i64 n1) (.int .i64 255) = some (.int .i64 (n1 % 256)) := and_max n1 8 (by omega)
  obtain ⟨B, hB⟩ : ∃ B, B = 1 + n0 % 65536 := ⟨_, rfl⟩
  obtain ⟨D, hD⟩ : ∃ D, D = 1 + n1 % 256 := ⟨_, rfl⟩
  have w1 : IntKind.i64.wrap (1 + n0 % 65536) = B := (wrapI _ (by omega) (by omega)).trans hB.symm
  have w2 : IntKind.i64.wrap (1 + n1 % 256) = D := (wrapI _ (by omega) (by omega)).trans hD.symm
  have hB1 : 1 ≤ B ∧ B ≤ 65536 := by omega
  have hD1 : 1 ≤ D ∧ D ≤ 256 := by omega
  clear hB hD
  have t1 := b36 998 B D ⟨by omega, by omega⟩
  have t2 := b36 998 B (2 * D) ⟨by omega, by omega⟩
  have t3 := b36 998 (B + 1) D ⟨by omega, by omega⟩
  have e1 : ticksZ B D = (B - 1) / D + 1 := by unfold ticksZ; rw [if_neg (by omega)]
  have e2 : ticksZ B (2 * D) = (B - 1) / (2 * D) + 1 := by unfold ticksZ; rw [if_neg (by omega)]
  have e3 : ticksZ (B + 1) D = B / D + 1 := by unfold ticksZ; rw [if_neg (by omega), show B + 1 - 1 = B by omega]
  rw [e1] at t1
  rw [e2] at t2
  rw [e3] at t3
  have p1 := Int.mul_ediv_add_emod (B - 1) D
  have p2 := Int.emod_nonneg (B - 1) (show D ≠ 0 by omega)
  have p3 := Int.emod_lt_of_pos (B - 1) (show 0 < D by omega)
  have p4 : 0 ≤ (B - 1) / D := Int.ediv_nonneg (by omega) (by omega)
  have p5 : (B - 1) / D ≤ B - 1 := Int.ediv_le_self _ (by omega)
  have p6 : (B - 1) / (2 * D) ≤ (B - 1) / D := by
    rw [Int.mul_comm, ← Int.ediv_ediv_of_nonneg (by omega)]
    exact Int.ediv_le_self _ p4
  have p7 : (B - 1) / D ≤ B / D := Int.ediv_le_ediv (by omega) (by omega)
  have p8 : 0 ≤ (B - 1) / (2 * D) := Int.ediv_nonneg (by omega) (by omega)
  obtain ⟨Q, hQ⟩ : ∃ Q, Q = (B - 1) / D := ⟨_, rfl⟩
  obtain ⟨Q2, hQ2⟩ : ∃ Q2, Q2 = (B - 1) / (2 * D) := ⟨_, rfl⟩
  obtain ⟨Q3, hQ3⟩ : ∃ Q3, Q3 = B / D := ⟨_, rfl⟩
  rw [← hQ] at t1 p1 p4 p5 p6 p7
  rw [← hQ2] at t2 p6 p8
  rw [← hQ3] at t3 p7
  have m0 : D * Q = Q * D := Int.mul_comm _ _
  have m1 : (Q + 1) * D = Q * D + D := by rw [Int.add_mul, Int.one_mul]
  have wm1 : IntKind.i64.wrap ((Q + 1) * D) = (Q + 1) * D := wrapI _ (by omega) (by omega)
  have ws : IntKind.i64.wrap (Q + 1 - 1) = Q := (wrapI _ (by omega) (by omega)).trans (by omega)
  have wm2 : IntKind.i64.wrap (Q * D) = Q * D := wrapI _ (by omega) (by omega)
  have wd : IntKind.i64.wrap (2 * D) = 2 * D := wrapI _ (by omega) (by omega)
  have wb : IntKind.i64.wrap (B + 1) = B + 1 := wrapI _ (by omega) (by omega)
  have d1 : decide (Q + 1 ≥ 1) = true := decide_eq_true (by omega)
  have d2 : decide ((Q + 1) * D ≥ B) = true := decide_eq_true (by omega)
  have d3 : decide (Q * D < B) = true := decide_eq_true (by omega)
  have d4 : decide (Q2 + 1 ≤ Q + 1) = true := decide_eq_true (by omega)
  have d5 : decide (Q3 + 1 ≥ Q + 1) = true := decide_eq_true (by omega)
  simp only [M12, hb, a1, a2, w1, w2, t1, t2, t3, wm1, wm2, ws, wd, wb, d1, d2, d3, d4, d5, i64_mul, qES0, qES1, qES2, env0, List.length_cons, List.length_nil, Nat.reduceAdd, Nat.reduceSub, List.replicate, List.cons_append, List.nil_append, opd, Env.put, Env.at, List.set_cons_zero, List.set_cons_succ, List.getD_cons_zero, List.getD_cons_succ, freezeL, resVs, oneOr, Option.map_some, Option.map_none, List.map_cons, List.map_nil, if_true, if_false, Bool.not_true, Bool.not_false, Bool.false_eq_true, reduceIte, decide_true, decide_false, Int.reduceLT, Int.reduceLE, Int.reduceGT, Int.reduceGE, Int.reduceEq, Int.reduceBEq, Int.reduceBNe, load_ptr, ldV_some, cellAt_cells, List.getElem?_cons_zero, List.getElem?_cons_succ, store_ptr, stO_some, setAt_0, setAt_1, setAt_2, setAt_3, setAt_4, setAt_5, setAt_6, setAt_7, setAt_8, setAt_9, setAt_10, setAt_11, setAt_12, cells_int, cells_bool, cells_str, cells_nils, cells_nilp, cells_ptr, cells_sl, cells_u8, cells_u16, cells_agg, get_upd_is, Option.isSome_some, upd_upd, ev1_nchkV, ev1_faV, nchkV_ptr, faV_ptr, ev1_extV, extV_tup, eqptr_nil, eqptr_ptr, Nat.zero_add, Nat.add_zero, qPL0, qPL1, qPL2, qPL3, qPL4, qPL5, beq_self_eq_true]
  rfl
end Go.Proofs.YtbeimfhodgmjhaaDoor.qosTicks
