/- Of eight numbers so many are among some. No conditions. -/
import Derived.Test.YtochnineebgbgaaDoorMod
set_option linter.unusedSimpArgs false
set_option linter.unusedVariables false
set_option maxRecDepth 100000
namespace Go.Proofs.YtochnineebgbgaaDoor
open Go Go.Ab
def cntI (A N : Int) (i : Nat) : Nat := ((List.range i).filter (fun x => decide ((((x : Nat) : Int) - A) % 8 < kOf N))).length
theorem cntI_succ (A N : Int) (i : Nat) : cntI A N (i + 1) = cntI A N i + (if ((i : Int) - A) % 8 < kOf N then 1 else 0) := by
  simp only [cntI, List.range_succ, List.filter_append, List.length_append, List.filter_cons, List.filter_nil]
  by_cases h : ((i : Int) - A) % 8 < kOf N <;> simp [h]
theorem cntI_le (A N : Int) (i : Nat) : cntI A N i ≤ i := by
  induction i with
  | zero => exact Nat.le_refl _
  | succ i ih => rw [cntI_succ]; split <;> omega
theorem cnt_fin : ∀ r, r < 8 → ∀ n, n < 12 → cntI ((r : Nat) : Int) ((n : Nat) : Int) 8 = min n 8 := by decide +kernel
theorem cntI_mod (A N : Int) (i : Nat) : cntI A N i = cntI (A % 8) N i := by
  unfold cntI
  congr 1
  apply List.filter_congr
  intro x _
  congr 1
  have : ((x : Int) - A) % 8 = ((x : Int) - A % 8) % 8 := by omega
  rw [this]
theorem cntI_8 (A N : Int) (h0 : 0 ≤ N) (h1 : N < 12) : ((cntI A N 8 : Nat) : Int) = if (8 : Int) < N then 8 else N := by
  rw [cntI_mod]
  have := cnt_fin (A % 8).toNat (by omega) N.toNat (by omega)
  rw [Int.toNat_of_nonneg (by omega), Int.toNat_of_nonneg h0] at this
  rw [this]
  split <;> omega
def E5 (A B N k i : Int) : Env := [.int .i64 A, .int .i64 B, .int .i64 N, .undef, .undef, .undef, .undef, .undef, .int .i64 k, .int .i64 i, .undef, .undef, .undef, .undef, .undef, .undef, .undef, .undef, .undef, .undef, .undef, .undef, .undef, .undef, .undef, .undef, .undef, .undef, .undef, .undef, .undef, .undef, .undef, .undef, .undef, .undef, .undef, .undef, .undef, .undef, .undef, .undef, .undef, .undef, .undef, .undef, .undef, .undef, .undef, .undef, .undef, .undef, .undef, .undef, .undef, .undef, .undef, .undef, .undef, .undef, .undef, .undef, .undef, .undef, .undef, .undef, .undef, .undef, .undef, .undef, .undef, .undef, .undef]
theorem round5 (A B N : Int) (i : Nat) (hi : i < 8) (s : St) : ∃ e', evC tabGl (evT 999) 999 M5b0 (E5 A B N (cntI A N i : Nat) i) s = some (.nrm, e', s) ∧ maskE M5b0l e' = E5 A B N (cntI A N (i + 1) : Nat) ((i + 1 : Nat) : Int) := by
  have hlt : ((i : Int) < 8) = True := eq_true (by omega)
  have h25 := in_ev 996 (i : Int) A N
  have w1 : IntKind.i64.wrap ((i : Int) + 1) = ((i + 1 : Nat) : Int) := (wrapI _ (by omega) (by omega)).trans (by omega)
  have hle := cntI_le A N i
  have w2 : IntKind.i64.wrap ((cntI A N i : Int) + 1) = ((cntI A N i + 1 : Nat) : Int) := (wrapI _ (by omega) (by omega)).trans (by omega)
  rw [cntI_succ]
  by_cases h : ((i : Int) - A) % 8 < kOf N
  · rw [decide_eq_true h] at h25
    rw [if_pos h]
    simp only [M5b0, E5, hlt, h25, w1, w2, qES0, qES1, qES2, env0, List.length_cons, List.length_nil, Nat.reduceAdd, Nat.reduceSub, List.replicate, List.cons_append, List.nil_append, opd, Env.put, Env.at, List.set_cons_zero, List.set_cons_succ, List.getD_cons_zero, List.getD_cons_succ, freezeL, resVs, oneOr, Option.map_some, Option.map_none, List.map_cons, List.map_nil, if_true, if_false, Bool.not_true, Bool.not_false, Bool.false_eq_true, reduceIte, decide_true, decide_false, Int.reduceLT, Int.reduceLE, Int.reduceGT, Int.reduceGE, Int.reduceEq, Int.reduceBEq, Int.reduceBNe, load_ptr, ldV_some, cellAt_cells, List.getElem?_cons_zero, List.getElem?_cons_succ, store_ptr, stO_some, setAt_0, setAt_1, setAt_2, setAt_3, setAt_4, setAt_5, setAt_6, setAt_7, setAt_8, setAt_9, setAt_10, setAt_11, setAt_12, cells_int, cells_bool, cells_str, cells_nils, cells_nilp, cells_ptr, cells_sl, cells_u8, cells_u16, cells_agg, get_upd_is, Option.isSome_some, upd_upd, ev1_nchkV, ev1_faV, nchkV_ptr, faV_ptr, ev1_extV, extV_tup, eqptr_nil, eqptr_ptr, Nat.zero_add, Nat.add_zero, qPL0, qPL1, qPL2, qPL3, qPL4, qPL5, beq_self_eq_true]
    exact ⟨_, rfl, rfl⟩
  · rw [decide_eq_false h] at h25
    rw [if_neg h]
    simp only [M5b0, E5, hlt, h25, w1, w2, qES0, qES1, qES2, env0, List.length_cons, List.length_nil, Nat.reduceAdd, Nat.reduceSub, List.replicate, List.cons_append, List.nil_append, opd, Env.put, Env.at, List.set_cons_zero, List.set_cons_succ, List.getD_cons_zero, List.getD_cons_succ, freezeL, resVs, oneOr, Option.map_some, Option.map_none, List.map_cons, List.map_nil, if_true, if_false, Bool.not_true, Bool.not_false, Bool.false_eq_true, reduceIte, decide_true, decide_false, Int.reduceLT, Int.reduceLE, Int.reduceGT, Int.reduceGE, Int.reduceEq, Int.reduceBEq, Int.reduceBNe, load_ptr, ldV_some, cellAt_cells, List.getElem?_cons_zero, List.getElem?_cons_succ, store_ptr, stO_some, setAt_0, setAt_1, setAt_2, setAt_3, setAt_4, setAt_5, setAt_6, setAt_7, setAt_8, setAt_9, setAt_10, setAt_11, setAt_12, cells_int, cells_bool, cells_str, cells_nils, cells_nilp, cells_ptr, cells_sl, cells_u8, cells_u16, cells_agg, get_upd_is, Option.isSome_some, upd_upd, ev1_nchkV, ev1_faV, nchkV_ptr, faV_ptr, ev1_extV, extV_tup, eqptr_nil, eqptr_ptr, Nat.zero_add, Nat.add_zero, qPL0, qPL1, qPL2, qPL3, qPL4, qPL5, beq_self_eq_true]
    exact ⟨_, rfl, rfl⟩
end Go.Proofs.YtochnineebgbgaaDoor
