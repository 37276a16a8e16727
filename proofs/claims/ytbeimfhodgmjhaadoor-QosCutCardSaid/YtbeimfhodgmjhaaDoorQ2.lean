/- Numbers of offers: qos.Baud, Silent, Size, Ticks, May and the document's, as the evaluator answers them. No conditions. -/
import Derived.Test.YtbeimfhodgmjhaaDoorQ1
import Derived.Test.YtbeimfhodgmjhaaDoorBegunT8
set_option linter.unusedSimpArgs false
set_option linter.unusedVariables false
set_option maxRecDepth 100000
set_option maxHeartbeats 4000000
namespace Go.Proofs.YtbeimfhodgmjhaaDoor
open Go Go.Ab
def baudZ (i : Int) : Int := if i = 0 then 32 else if i = 1 then 64 else if i = 2 then 128 else if i = 3 then 256 else 0
def silentZ (i : Int) : Int := if i = 0 then 200 else if i = 1 then 300 else if i = 2 then 500 else 0
def sizeZ (i : Int) : Int := if i = 0 then 8 else if i = 1 then 16 else if i = 2 then 32 else if i = 3 then 64 else 0
def ticksZ (bytes baud : Int) : Int := if bytes < 1 ∨ baud < 1 then 0 else (bytes - 1) / baud + 1
theorem of_ev (k : Nat) (i : Int) (l : List Int) (tk : Option (Nat × Nat × Nat)) (s : St) : ∃ s', evT (k + 1) 66 [.int .i64 i, .sl (l.map (.int .i64 ·)) l.length tk] s = some (.int .i64 (if i < 0 then 0 else l.getD i.toNat 0), s') := by
  rw [evT_in rfl tab66]
  have hl : lenV (.sl (l.map (.int .i64 ·)) l.length tk) = some (.int .i64 (l.length : Nat)) := rfl
  by_cases h : i < 0
  · have d : decide (i < 0) = true := decide_eq_true h
    rw [if_pos h]
    simp only [M66, d, qES0, qES1, qES2, env0, List.length_cons, List.length_nil, Nat.reduceAdd, Nat.reduceSub, List.replicate, List.cons_append, List.nil_append, opd, Env.put, Env.at, List.set_cons_zero, List.set_cons_succ, List.getD_cons_zero, List.getD_cons_succ, freezeL, resVs, oneOr, Option.map_some, Option.map_none, List.map_cons, List.map_nil, if_true, if_false, Bool.not_true, Bool.not_false, Bool.false_eq_true, reduceIte, decide_true, decide_false, Int.reduceLT, Int.reduceLE, Int.reduceGT, Int.reduceGE, Int.reduceEq, Int.reduceBEq, Int.reduceBNe, load_ptr, ldV_some, cellAt_cells, List.getElem?_cons_zero, List.getElem?_cons_succ, store_ptr, stO_some, setAt_0, setAt_1, setAt_2, setAt_3, setAt_4, setAt_5, setAt_6, setAt_7, setAt_8, setAt_9, setAt_10, setAt_11, setAt_12, cells_int, cells_bool, cells_str, cells_nils, cells_nilp, cells_ptr, cells_sl, cells_u8, cells_u16, cells_agg, get_upd_is, Option.isSome_some, upd_upd, ev1_nchkV, ev1_faV, nchkV_ptr, faV_ptr, ev1_extV, extV_tup, eqptr_nil, eqptr_ptr, Nat.zero_add, Nat.add_zero, qPL0, qPL1, qPL2, qPL3, qPL4, qPL5, beq_self_eq_true]
    exact ⟨_, rfl⟩
  · have d : decide (i < 0) = false := decide_eq_false h
    rw [if_neg h]
    by_cases g : i ≥ (l.length : Nat)
    · have d2 : decide (i ≥ ((l.length : Nat) : Int)) = true := decide_eq_true g
      have e : l.getD i.toNat 0 = 0 := by
        rw [List.getD_eq_getElem?_getD, List.getElem?_eq_none (by omega)]; rfl
      rw [e]
      simp only [M66, d, d2, hl, qES0, qES1, qES2, env0, List.length_cons, List.length_nil, Nat.reduceAdd, Nat.reduceSub, List.replicate, List.cons_append, List.nil_append, opd, Env.put, Env.at, List.set_cons_zero, List.set_cons_succ, List.getD_cons_zero, List.getD_cons_succ, freezeL, resVs, oneOr, Option.map_some, Option.map_none, List.map_cons, List.map_nil, if_true, if_false, Bool.not_true, Bool.not_false, Bool.false_eq_true, reduceIte, decide_true, decide_false, Int.reduceLT, Int.reduceLE, Int.reduceGT, Int.reduceGE, Int.reduceEq, Int.reduceBEq, Int.reduceBNe, load_ptr, ldV_some, cellAt_cells, List.getElem?_cons_zero, List.getElem?_cons_succ, store_ptr, stO_some, setAt_0, setAt_1, setAt_2, setAt_3, setAt_4, setAt_5, setAt_6, setAt_7, setAt_8, setAt_9, setAt_10, setAt_11, setAt_12, cells_int, cells_bool, cells_str, cells_nils, cells_nilp, cells_ptr, cells_sl, cells_u8, cells_u16, cells_agg, get_upd_is, Option.isSome_some, upd_upd, ev1_nchkV, ev1_faV, nchkV_ptr, faV_ptr, ev1_extV, extV_tup, eqptr_nil, eqptr_ptr, Nat.zero_add, Nat.add_zero, qPL0, qPL1, qPL2, qPL3, qPL4, qPL5, beq_self_eq_true]
      exact ⟨_, rfl⟩
    · have d2 : decide (i ≥ ((l.length : Nat) : Int)) = false := decide_eq_false g
      have x : ixaV 1 (.sl (l.map (.int .i64 ·)) l.length tk) (.int .i64 i) = some (.rp ((l.drop i.toNat).map (.int .i64 ·))) := by
        simp only [ixaV, idx]
        rw [if_pos ⟨by omega, by omega⟩]
        simp [List.map_drop]
      have c : Ab.cut ((l.drop i.toNat).map (AV.int .i64 ·)) 0 none = some (.int .i64 (l.getD i.toNat 0)) := by
        simp only [Ab.cut, List.getElem?_map, List.getElem?_drop, Nat.add_zero]
        rw [List.getD_eq_getElem?_getD, List.getElem?_eq_getElem (show i.toNat < l.length by omega)]
        rfl
      simp only [M66, d, d2, hl, x, c, ev1_load, loadR_rp, qES0, qES1, qES2, env0, List.length_cons, List.length_nil, Nat.reduceAdd, Nat.reduceSub, List.replicate, List.cons_append, List.nil_append, opd, Env.put, Env.at, List.set_cons_zero, List.set_cons_succ, List.getD_cons_zero, List.getD_cons_succ, freezeL, resVs, oneOr, Option.map_some, Option.map_none, List.map_cons, List.map_nil, if_true, if_false, Bool.not_true, Bool.not_false, Bool.false_eq_true, reduceIte, decide_true, decide_false, Int.reduceLT, Int.reduceLE, Int.reduceGT, Int.reduceGE, Int.reduceEq, Int.reduceBEq, Int.reduceBNe, load_ptr, ldV_some, cellAt_cells, List.getElem?_cons_zero, List.getElem?_cons_succ, store_ptr, stO_some, setAt_0, setAt_1, setAt_2, setAt_3, setAt_4, setAt_5, setAt_6, setAt_7, setAt_8, setAt_9, setAt_10, setAt_11, setAt_12, cells_int, cells_bool, cells_str, cells_nils, cells_nilp, cells_ptr, cells_sl, cells_u8, cells_u16, cells_agg, get_upd_is, Option.isSome_some, upd_upd, ev1_nchkV, ev1_faV, nchkV_ptr, faV_ptr, ev1_extV, extV_tup, eqptr_nil, eqptr_ptr, Nat.zero_add, Nat.add_zero, qPL0, qPL1, qPL2, qPL3, qPL4, qPL5, beq_self_eq_true]
      exact ⟨_, rfl⟩
theorem f4_2 (a0 a1 a2 a3 : AV) (k : IntKind) (n : Int) : fill1 [a0, a1, a2, a3] 2 1 (.int k n) = some [a0, a1, .int k n, a3] := fill1_c _ _ _ rfl (by simp)
theorem f4_3 (a0 a1 a2 a3 : AV) (k : IntKind) (n : Int) : fill1 [a0, a1, a2, a3] 3 1 (.int k n) = some [a0, a1, a2, .int k n] := fill1_c _ _ _ rfl (by simp)
theorem getD4 (i : Int) (a b c d : Int) (h : ¬ i < 0) : [a, b, c, d].getD i.toNat 0 = if i = 0 then a else if i = 1 then b else if i = 2 then c else if i = 3 then d else 0 := by
  obtain ⟨n, rfl⟩ : ∃ n : Nat, i = n := ⟨i.toNat, by omega⟩
  rw [Int.toNat_natCast]
  match n with
  | 0 => rfl
  | 1 => rfl
  | 2 => rfl
  | 3 => rfl
  | n + 4 =>
    have : [a, b, c, d].getD (n + 4) 0 = 0 := rfl
    rw [this]; repeat' split
    all_goals omega
theorem getD3 (i : Int) (a b c : Int) (h : ¬ i < 0) : [a, b, c].getD i.toNat 0 = if i = 0 then a else if i = 1 then b else if i = 2 then c else 0 := by
  obtain ⟨n, rfl⟩ : ∃ n : Nat, i = n := ⟨i.toNat, by omega⟩
  rw [Int.toNat_natCast]
  match n with
  | 0 => rfl
  | 1 => rfl
  | 2 => rfl
  | n + 3 =>
    have : [a, b, c].getD (n + 3) 0 = 0 := rfl
    rw [this]; repeat' split
    all_goals omega
theorem baud_val (i : Int) (s : St) : valR (evT 1000 30 [.int .i64 i] (s.pl [])) = some (.int .i64 (baudZ i)) := by
  rw [show (1000 : Nat) = 998 + 1 + 1 from rfl, evT_in rfl tab30]
  obtain ⟨s1, h⟩ := of_ev 998 i [32, 64, 128, 256] (some (s.next, 0, 1)) (s.pl [.tick 1 0])
  have e : (if i < 0 then 0 else [32, 64, 128, 256].getD i.toNat 0) = baudZ i := by
    unfold baudZ
    by_cases g : i < 0
    · rw [if_pos g]; repeat' split
      all_goals omega
    · rw [if_neg g, getD4 i _ _ _ _ g]
  rw [e] at h
  simp only [List.map_cons, List.map_nil, List.length_cons, List.length_nil, Nat.zero_add, Nat.reduceAdd] at h
  simp only [M30, h, frz_sl, f4_2, f4_3, qES0, qES1, qES2, env0, List.length_cons, List.length_nil, Nat.reduceAdd, Nat.reduceSub, List.replicate, List.cons_append, List.nil_append, opd, Env.put, Env.at, List.set_cons_zero, List.set_cons_succ, List.getD_cons_zero, List.getD_cons_succ, freezeL, resVs, oneOr, Option.map_some, Option.map_none, List.map_cons, List.map_nil, if_true, if_false, Bool.not_true, Bool.not_false, Bool.false_eq_true, reduceIte, decide_true, decide_false, Int.reduceLT, Int.reduceLE, Int.reduceGT, Int.reduceGE, Int.reduceEq, Int.reduceBEq, Int.reduceBNe, load_ptr, ldV_some, cellAt_cells, List.getElem?_cons_zero, List.getElem?_cons_succ, store_ptr, stO_some, setAt_0, setAt_1, setAt_2, setAt_3, setAt_4, setAt_5, setAt_6, setAt_7, setAt_8, setAt_9, setAt_10, setAt_11, setAt_12, cells_int, cells_bool, cells_str, cells_nils, cells_nilp, cells_ptr, cells_sl, cells_u8, cells_u16, cells_agg, get_upd_is, Option.isSome_some, upd_upd, ev1_nchkV, ev1_faV, nchkV_ptr, faV_ptr, ev1_extV, extV_tup, eqptr_nil, eqptr_ptr, Nat.zero_add, Nat.add_zero, qPL0, qPL1, qPL2, qPL3, qPL4, qPL5, beq_self_eq_true]
theorem silent_val (i : Int) (s : St) : valR (evT 1000 32 [.int .i64 i] (s.pl [])) = some (.int .i64 (silentZ i)) := by
  rw [show (1000 : Nat) = 998 + 1 + 1 from rfl, evT_in rfl tab32]
  obtain ⟨s1, h⟩ := of_ev 998 i [200, 300, 500] (some (s.next, 0, 1)) (s.pl [.tick 1 0])
  have e : (if i < 0 then 0 else [200, 300, 500].getD i.toNat 0) = silentZ i := by
    unfold silentZ
    by_cases g : i < 0
    · rw [if_pos g]; repeat' split
      all_goals omega
    · rw [if_neg g, getD3 i _ _ _ g]
  rw [e] at h
  simp only [List.map_cons, List.map_nil, List.length_cons, List.length_nil, Nat.zero_add, Nat.reduceAdd] at h
  simp only [M32, h, frz_sl, qES0, qES1, qES2, env0, List.length_cons, List.length_nil, Nat.reduceAdd, Nat.reduceSub, List.replicate, List.cons_append, List.nil_append, opd, Env.put, Env.at, List.set_cons_zero, List.set_cons_succ, List.getD_cons_zero, List.getD_cons_succ, freezeL, resVs, oneOr, Option.map_some, Option.map_none, List.map_cons, List.map_nil, if_true, if_false, Bool.not_true, Bool.not_false, Bool.false_eq_true, reduceIte, decide_true, decide_false, Int.reduceLT, Int.reduceLE, Int.reduceGT, Int.reduceGE, Int.reduceEq, Int.reduceBEq, Int.reduceBNe, load_ptr, ldV_some, cellAt_cells, List.getElem?_cons_zero, List.getElem?_cons_succ, store_ptr, stO_some, setAt_0, setAt_1, setAt_2, setAt_3, setAt_4, setAt_5, setAt_6, setAt_7, setAt_8, setAt_9, setAt_10, setAt_11, setAt_12, cells_int, cells_bool, cells_str, cells_nils, cells_nilp, cells_ptr, cells_sl, cells_u8, cells_u16, cells_agg, get_upd_is, Option.isSome_some, upd_upd, ev1_nchkV, ev1_faV, nchkV_ptr, faV_ptr, ev1_extV, extV_tup, eqptr_nil, eqptr_ptr, Nat.zero_add, Nat.add_zero, qPL0, qPL1, qPL2, qPL3, qPL4, qPL5, beq_self_eq_true]
theorem size_val (i : Int) (s : St) : valR (evT 1000 34 [.int .i64 i] (s.pl [])) = some (.int .i64 (sizeZ i)) := by
  rw [show (1000 : Nat) = 998 + 1 + 1 from rfl, evT_in rfl tab34]
  obtain ⟨s1, h⟩ := of_ev 998 i [8, 16, 32, 64] (some (s.next, 0, 1)) (s.pl [.tick 1 0])
  have e : (if i < 0 then 0 else [8, 16, 32, 64].getD i.toNat 0) = sizeZ i := by
    unfold sizeZ
    by_cases g : i < 0
    · rw [if_pos g]; repeat' split
      all_goals omega
    · rw [if_neg g, getD4 i _ _ _ _ g]
  rw [e] at h
  simp only [List.map_cons, List.map_nil, List.length_cons, List.length_nil, Nat.zero_add, Nat.reduceAdd] at h
  simp only [M34, h, frz_sl, f4_2, f4_3, qES0, qES1, qES2, env0, List.length_cons, List.length_nil, Nat.reduceAdd, Nat.reduceSub, List.replicate, List.cons_append, List.nil_append, opd, Env.put, Env.at, List.set_cons_zero, List.set_cons_succ, List.getD_cons_zero, List.getD_cons_succ, freezeL, resVs, oneOr, Option.map_some, Option.map_none, List.map_cons, List.map_nil, if_true, if_false, Bool.not_true, Bool.not_false, Bool.false_eq_true, reduceIte, decide_true, decide_false, Int.reduceLT, Int.reduceLE, Int.reduceGT, Int.reduceGE, Int.reduceEq, Int.reduceBEq, Int.reduceBNe, load_ptr, ldV_some, cellAt_cells, List.getElem?_cons_zero, List.getElem?_cons_succ, store_ptr, stO_some, setAt_0, setAt_1, setAt_2, setAt_3, setAt_4, setAt_5, setAt_6, setAt_7, setAt_8, setAt_9, setAt_10, setAt_11, setAt_12, cells_int, cells_bool, cells_str, cells_nils, cells_nilp, cells_ptr, cells_sl, cells_u8, cells_u16, cells_agg, get_upd_is, Option.isSome_some, upd_upd, ev1_nchkV, ev1_faV, nchkV_ptr, faV_ptr, ev1_extV, extV_tup, eqptr_nil, eqptr_ptr, Nat.zero_add, Nat.add_zero, qPL0, qPL1, qPL2, qPL3, qPL4, qPL5, beq_self_eq_true]
theorem rbaud_val (i : Int) (s : St) : valR (evT 1000 31 [.int .i64 i] (s.pl [])) = some (.int .i64 (baudZ i)) := by
  rw [show (1000 : Nat) = 999 + 1 from rfl, evT_in rfl tab31]
  unfold baudZ
  by_cases h : i < 0
  · have d : decide (i < 0) = true := decide_eq_true h
    simp only [M31, d, qES0, qES1, qES2, env0, List.length_cons, List.length_nil, Nat.reduceAdd, Nat.reduceSub, List.replicate, List.cons_append, List.nil_append, opd, Env.put, Env.at, List.set_cons_zero, List.set_cons_succ, List.getD_cons_zero, List.getD_cons_succ, freezeL, resVs, oneOr, Option.map_some, Option.map_none, List.map_cons, List.map_nil, if_true, if_false, Bool.not_true, Bool.not_false, Bool.false_eq_true, reduceIte, decide_true, decide_false, Int.reduceLT, Int.reduceLE, Int.reduceGT, Int.reduceGE, Int.reduceEq, Int.reduceBEq, Int.reduceBNe, load_ptr, ldV_some, cellAt_cells, List.getElem?_cons_zero, List.getElem?_cons_succ, store_ptr, stO_some, setAt_0, setAt_1, setAt_2, setAt_3, setAt_4, setAt_5, setAt_6, setAt_7, setAt_8, setAt_9, setAt_10, setAt_11, setAt_12, cells_int, cells_bool, cells_str, cells_nils, cells_nilp, cells_ptr, cells_sl, cells_u8, cells_u16, cells_agg, get_upd_is, Option.isSome_some, upd_upd, ev1_nchkV, ev1_faV, nchkV_ptr, faV_ptr, ev1_extV, extV_tup, eqptr_nil, eqptr_ptr, Nat.zero_add, Nat.add_zero, qPL0, qPL1, qPL2, qPL3, qPL4, qPL5, beq_self_eq_true]
    repeat' split
    all_goals first | rfl | omega
  · have d : decide (i < 0) = false := decide_eq_false h
    by_cases g : i > 3
    · have d2 : decide (i > 3) = true := decide_eq_true g
      simp only [M31, d, d2, qES0, qES1, qES2, env0, List.length_cons, List.length_nil, Nat.reduceAdd, Nat.reduceSub, List.replicate, List.cons_append, List.nil_append, opd, Env.put, Env.at, List.set_cons_zero, List.set_cons_succ, List.getD_cons_zero, List.getD_cons_succ, freezeL, resVs, oneOr, Option.map_some, Option.map_none, List.map_cons, List.map_nil, if_true, if_false, Bool.not_true, Bool.not_false, Bool.false_eq_true, reduceIte, decide_true, decide_false, Int.reduceLT, Int.reduceLE, Int.reduceGT, Int.reduceGE, Int.reduceEq, Int.reduceBEq, Int.reduceBNe, load_ptr, ldV_some, cellAt_cells, List.getElem?_cons_zero, List.getElem?_cons_succ, store_ptr, stO_some, setAt_0, setAt_1, setAt_2, setAt_3, setAt_4, setAt_5, setAt_6, setAt_7, setAt_8, setAt_9, setAt_10, setAt_11, setAt_12, cells_int, cells_bool, cells_str, cells_nils, cells_nilp, cells_ptr, cells_sl, cells_u8, cells_u16, cells_agg, get_upd_is, Option.isSome_some, upd_upd, ev1_nchkV, ev1_faV, nchkV_ptr, faV_ptr, ev1_extV, extV_tup, eqptr_nil, eqptr_ptr, Nat.zero_add, Nat.add_zero, qPL0, qPL1, qPL2, qPL3, qPL4, qPL5, beq_self_eq_true]
      repeat' split
      all_goals first | rfl | omega
    · have d2 : decide (i > 3) = false := decide_eq_false g
      have : i = 0 ∨ i = 1 ∨ i = 2 ∨ i = 3 := by omega
      rcases this with rfl | rfl | rfl | rfl <;> rfl
theorem rsilent_val (i : Int) (s : St) : valR (evT 1000 33 [.int .i64 i] (s.pl [])) = some (.int .i64 (silentZ i)) := by
  rw [show (1000 : Nat) = 999 + 1 from rfl, evT_in rfl tab33]
  unfold silentZ
  by_cases h : i < 0
  · have d : decide (i < 0) = true := decide_eq_true h
    simp only [M33, d, qES0, qES1, qES2, env0, List.length_cons, List.length_nil, Nat.reduceAdd, Nat.reduceSub, List.replicate, List.cons_append, List.nil_append, opd, Env.put, Env.at, List.set_cons_zero, List.set_cons_succ, List.getD_cons_zero, List.getD_cons_succ, freezeL, resVs, oneOr, Option.map_some, Option.map_none, List.map_cons, List.map_nil, if_true, if_false, Bool.not_true, Bool.not_false, Bool.false_eq_true, reduceIte, decide_true, decide_false, Int.reduceLT, Int.reduceLE, Int.reduceGT, Int.reduceGE, Int.reduceEq, Int.reduceBEq, Int.reduceBNe, load_ptr, ldV_some, cellAt_cells, List.getElem?_cons_zero, List.getElem?_cons_succ, store_ptr, stO_some, setAt_0, setAt_1, setAt_2, setAt_3, setAt_4, setAt_5, setAt_6, setAt_7, setAt_8, setAt_9, setAt_10, setAt_11, setAt_12, cells_int, cells_bool, cells_str, cells_nils, cells_nilp, cells_ptr, cells_sl, cells_u8, cells_u16, cells_agg, get_upd_is, Option.isSome_some, upd_upd, ev1_nchkV, ev1_faV, nchkV_ptr, faV_ptr, ev1_extV, extV_tup, eqptr_nil, eqptr_ptr, Nat.zero_add, Nat.add_zero, qPL0, qPL1, qPL2, qPL3, qPL4, qPL5, beq_self_eq_true]
    repeat' split
    all_goals first | rfl | omega
  · have d : decide (i < 0) = false := decide_eq_false h
    by_cases g : i > 2
    · have d2 : decide (i > 2) = true := decide_eq_true g
      simp only [M33, d, d2, qES0, qES1, qES2, env0, List.length_cons, List.length_nil, Nat.reduceAdd, Nat.reduceSub, List.replicate, List.cons_append, List.nil_append, opd, Env.put, Env.at, List.set_cons_zero, List.set_cons_succ, List.getD_cons_zero, List.getD_cons_succ, freezeL, resVs, oneOr, Option.map_some, Option.map_none, List.map_cons, List.map_nil, if_true, if_false, Bool.not_true, Bool.not_false, Bool.false_eq_true, reduceIte, decide_true, decide_false, Int.reduceLT, Int.reduceLE, Int.reduceGT, Int.reduceGE, Int.reduceEq, Int.reduceBEq, Int.reduceBNe, load_ptr, ldV_some, cellAt_cells, List.getElem?_cons_zero, List.getElem?_cons_succ, store_ptr, stO_some, setAt_0, setAt_1, setAt_2, setAt_3, setAt_4, setAt_5, setAt_6, setAt_7, setAt_8, setAt_9, setAt_10, setAt_11, setAt_12, cells_int, cells_bool, cells_str, cells_nils, cells_nilp, cells_ptr, cells_sl, cells_u8, cells_u16, cells_agg, get_upd_is, Option.isSome_some, upd_upd, ev1_nchkV, ev1_faV, nchkV_ptr, faV_ptr, ev1_extV, extV_tup, eqptr_nil, eqptr_ptr, Nat.zero_add, Nat.add_zero, qPL0, qPL1, qPL2, qPL3, qPL4, qPL5, beq_self_eq_true]
      repeat' split
      all_goals first | rfl | omega
    · have d2 : decide (i > 2) = false := decide_eq_false g
      have : i = 0 ∨ i = 1 ∨ i = 2 := by omega
      rcases this with rfl | rfl | rfl <;> rfl
theorem rsize_val (i : Int) (s : St) : valR (evT 1000 35 [.int .i64 i] (s.pl [])) = some (.int .i64 (sizeZ i)) := by
  rw [show (1000 : Nat) = 999 + 1 from rfl, evT_in rfl tab35]
  unfold sizeZ
  by_cases h : i < 0
  · have d : decide (i < 0) = true := decide_eq_true h
    simp only [M35, d, qES0, qES1, qES2, env0, List.length_cons, List.length_nil, Nat.reduceAdd, Nat.reduceSub, List.replicate, List.cons_append, List.nil_append, opd, Env.put, Env.at, List.set_cons_zero, List.set_cons_succ, List.getD_cons_zero, List.getD_cons_succ, freezeL, resVs, oneOr, Option.map_some, Option.map_none, List.map_cons, List.map_nil, if_true, if_false, Bool.not_true, Bool.not_false, Bool.false_eq_true, reduceIte, decide_true, decide_false, Int.reduceLT, Int.reduceLE, Int.reduceGT, Int.reduceGE, Int.reduceEq, Int.reduceBEq, Int.reduceBNe, load_ptr, ldV_some, cellAt_cells, List.getElem?_cons_zero, List.getElem?_cons_succ, store_ptr, stO_some, setAt_0, setAt_1, setAt_2, setAt_3, setAt_4, setAt_5, setAt_6, setAt_7, setAt_8, setAt_9, setAt_10, setAt_11, setAt_12, cells_int, cells_bool, cells_str, cells_nils, cells_nilp, cells_ptr, cells_sl, cells_u8, cells_u16, cells_agg, get_upd_is, Option.isSome_some, upd_upd, ev1_nchkV, ev1_faV, nchkV_ptr, faV_ptr, ev1_extV, extV_tup, eqptr_nil, eqptr_ptr, Nat.zero_add, Nat.add_zero, qPL0, qPL1, qPL2, qPL3, qPL4, qPL5, beq_self_eq_true]
    repeat' split
    all_goals first | rfl | omega
  · have d : decide (i < 0) = false := decide_eq_false h
    by_cases g : i > 3
    · have d2 : decide (i > 3) = true := decide_eq_true g
      simp only [M35, d, d2, qES0, qES1, qES2, env0, List.length_cons, List.length_nil, Nat.reduceAdd, Nat.reduceSub, List.replicate, List.cons_append, List.nil_append, opd, Env.put, Env.at, List.set_cons_zero, List.set_cons_succ, List.getD_cons_zero, List.getD_cons_succ, freezeL, resVs, oneOr, Option.map_some, Option.map_none, List.map_cons, List.map_nil, if_true, if_false, Bool.not_true, Bool.not_false, Bool.false_eq_true, reduceIte, decide_true, decide_false, Int.reduceLT, Int.reduceLE, Int.reduceGT, Int.reduceGE, Int.reduceEq, Int.reduceBEq, Int.reduceBNe, load_ptr, ldV_some, cellAt_cells, List.getElem?_cons_zero, List.getElem?_cons_succ, store_ptr, stO_some, setAt_0, setAt_1, setAt_2, setAt_3, setAt_4, setAt_5, setAt_6, setAt_7, setAt_8, setAt_9, setAt_10, setAt_11, setAt_12, cells_int, cells_bool, cells_str, cells_nils, cells_nilp, cells_ptr, cells_sl, cells_u8, cells_u16, cells_agg, get_upd_is, Option.isSome_some, upd_upd, ev1_nchkV, ev1_faV, nchkV_ptr, faV_ptr, ev1_extV, extV_tup, eqptr_nil, eqptr_ptr, Nat.zero_add, Nat.add_zero, qPL0, qPL1, qPL2, qPL3, qPL4, qPL5, beq_self_eq_true]
      repeat' split
      all_goals first | rfl | omega
    · have d2 : decide (i > 3) = false := decide_eq_false g
      have : i = 0 ∨ i = 1 ∨ i = 2 ∨ i = 3 := by omega
      rcases this with rfl | rfl | rfl | rfl <;> rfl
theorem ticks_ev (k : Nat) (bytes baud : Int) (hb : IntKind.i64.has bytes) (s : St) : evT (k + 1) 36 [.int .i64 bytes, .int .i64 baud] s = some (.int .i64 (ticksZ bytes baud), s) := by
  rw [evT_in rfl tab36]
  unfold ticksZ
  by_cases h : bytes < 1
  · rw [if_pos (.inl h)]
    have d : decide (bytes < 1) = true := decide_eq_true h
    simp only [M36, d, qES0, qES1, qES2, env0, List.length_cons, List.length_nil, Nat.reduceAdd, Nat.reduceSub, List.replicate, List.cons_append, List.nil_append, opd, Env.put, Env.at, List.set_cons_zero, List.set_cons_succ, List.getD_cons_zero, List.getD_cons_succ, freezeL, resVs, oneOr, Option.map_some, Option.map_none, List.map_cons, List.map_nil, if_true, if_false, Bool.not_true, Bool.not_false, Bool.false_eq_true, reduceIte, decide_true, decide_false, Int.reduceLT, Int.reduceLE, Int.reduceGT, Int.reduceGE, Int.reduceEq, Int.reduceBEq, Int.reduceBNe, load_ptr, ldV_some, cellAt_cells, List.getElem?_cons_zero, List.getElem?_cons_succ, store_ptr, stO_some, setAt_0, setAt_1, setAt_2, setAt_3, setAt_4, setAt_5, setAt_6, setAt_7, setAt_8, setAt_9, setAt_10, setAt_11, setAt_12, cells_int, cells_bool, cells_str, cells_nils, cells_nilp, cells_ptr, cells_sl, cells_u8, cells_u16, cells_agg, get_upd_is, Option.isSome_some, upd_upd, ev1_nchkV, ev1_faV, nchkV_ptr, faV_ptr, ev1_extV, extV_tup, eqptr_nil, eqptr_ptr, Nat.zero_add, Nat.add_zero, qPL0, qPL1, qPL2, qPL3, qPL4, qPL5, beq_self_eq_true]
  · have d : decide (bytes < 1) = false := decide_eq_false h
    by_cases g : baud < 1
    · rw [if_pos (.inr g)]
      have d2 : decide (baud < 1) = true := decide_eq_true g
      simp only [M36, d, d2, qES0, qES1, qES2, env0, List.length_cons, List.length_nil, Nat.reduceAdd, Nat.reduceSub, List.replicate, List.cons_append, List.nil_append, opd, Env.put, Env.at, List.set_cons_zero, List.set_cons_succ, List.getD_cons_zero, List.getD_cons_succ, freezeL, resVs, oneOr, Option.map_some, Option.map_none, List.map_cons, List.map_nil, if_true, if_false, Bool.not_true, Bool.not_false, Bool.false_eq_true, reduceIte, decide_true, decide_false, Int.reduceLT, Int.reduceLE, Int.reduceGT, Int.reduceGE, Int.reduceEq, Int.reduceBEq, Int.reduceBNe, load_ptr, ldV_some, cellAt_cells, List.getElem?_cons_zero, List.getElem?_cons_succ, store_ptr, stO_some, setAt_0, setAt_1, setAt_2, setAt_3, setAt_4, setAt_5, setAt_6, setAt_7, setAt_8, setAt_9, setAt_10, setAt_11, setAt_12, cells_int, cells_bool, cells_str, cells_nils, cells_nilp, cells_ptr, cells_sl, cells_u8, cells_u16, cells_agg, get_upd_is, Option.isSome_some, upd_upd, ev1_nchkV, ev1_faV, nchkV_ptr, faV_ptr, ev1_extV, extV_tup, eqptr_nil, eqptr_ptr, Nat.zero_add, Nat.add_zero, qPL0, qPL1, qPL2, qPL3, qPL4, qPL5, beq_self_eq_true]
    · rw [if_neg (by omega)]
      have d2 : decide (baud < 1) = false := decide_eq_false g
      have hb' : bytes ≤ 9223372036854775807 := hb.2
      have w1 : IntKind.i64.wrap (bytes - 1) = bytes - 1 := by rw [IntKind.wrap_i64]; omega
      have q0 : 0 ≤ (bytes - 1) / baud := Int.ediv_nonneg (by omega) (by omega)
      have q1 : (bytes - 1) / baud ≤ bytes - 1 := Int.ediv_le_self _ (by omega)
      have w2 : IntKind.i64.wrap ((bytes - 1) / baud) = (bytes - 1) / baud := by rw [IntKind.wrap_i64]; omega
      have w3 : IntKind.i64.wrap ((bytes - 1) / baud + 1) = (bytes - 1) / baud + 1 := by rw [IntKind.wrap_i64]; omega
      have q : binV .quo (.int .i64 (bytes - 1)) (.int .i64 baud) = some (.int .i64 ((bytes - 1) / baud)) := by
        show (if baud = 0 then none else some (AV.int .i64 (IntKind.i64.wrap ((bytes - 1).tdiv baud)))) = _
        rw [if_neg (by omega), Int.tdiv_eq_ediv_of_nonneg (by omega), w2]
      simp only [M36, d, d2, w1, q, w3, qES0, qES1, qES2, env0, List.length_cons, List.length_nil, Nat.reduceAdd, Nat.reduceSub, List.replicate, List.cons_append, List.nil_append, opd, Env.put, Env.at, List.set_cons_zero, List.set_cons_succ, List.getD_cons_zero, List.getD_cons_succ, freezeL, resVs, oneOr, Option.map_some, Option.map_none, List.map_cons, List.map_nil, if_true, if_false, Bool.not_true, Bool.not_false, Bool.false_eq_true, reduceIte, decide_true, decide_false, Int.reduceLT, Int.reduceLE, Int.reduceGT, Int.reduceGE, Int.reduceEq, Int.reduceBEq, Int.reduceBNe, load_ptr, ldV_some, cellAt_cells, List.getElem?_cons_zero, List.getElem?_cons_succ, store_ptr, stO_some, setAt_0, setAt_1, setAt_2, setAt_3, setAt_4, setAt_5, setAt_6, setAt_7, setAt_8, setAt_9, setAt_10, setAt_11, setAt_12, cells_int, cells_bool, cells_str, cells_nils, cells_nilp, cells_ptr, cells_sl, cells_u8, cells_u16, cells_agg, get_upd_is, Option.isSome_some, upd_upd, ev1_nchkV, ev1_faV, nchkV_ptr, faV_ptr, ev1_extV, extV_tup, eqptr_nil, eqptr_ptr, Nat.zero_add, Nat.add_zero, qPL0, qPL1, qPL2, qPL3, qPL4, qPL5, beq_self_eq_true]
theorem rticks_ev (k : Nat) (bytes baud : Int) (hb : IntKind.i64.has bytes) (s : St) : evT (k + 1) 37 [.int .i64 bytes, .int .i64 baud] s = some (.int .i64 (ticksZ bytes baud), s) := by
  rw [evT_in rfl tab37]
  unfold ticksZ
  by_cases h : bytes < 1
  · rw [if_pos (.inl h)]
    have d : decide (bytes < 1) = true := decide_eq_true h
    simp only [M37, d, qES0, qES1, qES2, env0, List.length_cons, List.length_nil, Nat.reduceAdd, Nat.reduceSub, List.replicate, List.cons_append, List.nil_append, opd, Env.put, Env.at, List.set_cons_zero, List.set_cons_succ, List.getD_cons_zero, List.getD_cons_succ, freezeL, resVs, oneOr, Option.map_some, Option.map_none, List.map_cons, List.map_nil, if_true, if_false, Bool.not_true, Bool.not_false, Bool.false_eq_true, reduceIte, decide_true, decide_false, Int.reduceLT, Int.reduceLE, Int.reduceGT, Int.reduceGE, Int.reduceEq, Int.reduceBEq, Int.reduceBNe, load_ptr, ldV_some, cellAt_cells, List.getElem?_cons_zero, List.getElem?_cons_succ, store_ptr, stO_some, setAt_0, setAt_1, setAt_2, setAt_3, setAt_4, setAt_5, setAt_6, setAt_7, setAt_8, setAt_9, setAt_10, setAt_11, setAt_12, cells_int, cells_bool, cells_str, cells_nils, cells_nilp, cells_ptr, cells_sl, cells_u8, cells_u16, cells_agg, get_upd_is, Option.isSome_some, upd_upd, ev1_nchkV, ev1_faV, nchkV_ptr, faV_ptr, ev1_extV, extV_tup, eqptr_nil, eqptr_ptr, Nat.zero_add, Nat.add_zero, qPL0, qPL1, qPL2, qPL3, qPL4, qPL5, beq_self_eq_true]
  · have d : decide (bytes < 1) = false := decide_eq_false h
    by_cases g : baud < 1
    · rw [if_pos (.inr g)]
      have d2 : decide (baud < 1) = true := decide_eq_true g
      simp only [M37, d, d2, qES0, qES1, qES2, env0, List.length_cons, List.length_nil, Nat.reduceAdd, Nat.reduceSub, List.replicate, List.cons_append, List.nil_append, opd, Env.put, Env.at, List.set_cons_zero, List.set_cons_succ, List.getD_cons_zero, List.getD_cons_succ, freezeL, resVs, oneOr, Option.map_some, Option.map_none, List.map_cons, List.map_nil, if_true, if_false, Bool.not_true, Bool.not_false, Bool.false_eq_true, reduceIte, decide_true, decide_false, Int.reduceLT, Int.reduceLE, Int.reduceGT, Int.reduceGE, Int.reduceEq, Int.reduceBEq, Int.reduceBNe, load_ptr, ldV_some, cellAt_cells, List.getElem?_cons_zero, List.getElem?_cons_succ, store_ptr, stO_some, setAt_0, setAt_1, setAt_2, setAt_3, setAt_4, setAt_5, setAt_6, setAt_7, setAt_8, setAt_9, setAt_10, setAt_11, setAt_12, cells_int, cells_bool, cells_str, cells_nils, cells_nilp, cells_ptr, cells_sl, cells_u8, cells_u16, cells_agg, get_upd_is, Option.isSome_some, upd_upd, ev1_nchkV, ev1_faV, nchkV_ptr, faV_ptr, ev1_extV, extV_tup, eqptr_nil, eqptr_ptr, Nat.zero_add, Nat.add_zero, qPL0, qPL1, qPL2, qPL3, qPL4, qPL5, beq_self_eq_true]
    · rw [if_neg (by omega)]
      have d2 : decide (baud < 1) = false := decide_eq_false g
      have hb' : bytes ≤ 9223372036854775807 := hb.2
      have q0 : 0 ≤ (bytes - 1) / baud := Int.ediv_nonneg (by omega) (by omega)
      have q1 : (bytes - 1) / baud ≤ bytes - 1 := Int.ediv_le_self _ (by omega)
      have p0 : 0 ≤ bytes / baud := Int.ediv_nonneg (by omega) (by omega)
      have p1 : bytes / baud ≤ bytes := Int.ediv_le_self _ (by omega)
      have w2 : IntKind.i64.wrap (bytes / baud) = bytes / baud := by rw [IntKind.wrap_i64]; omega
      have q : binV .quo (.int .i64 bytes) (.int .i64 baud) = some (.int .i64 (bytes / baud)) := by
        show (if baud = 0 then none else some (AV.int .i64 (IntKind.i64.wrap (bytes.tdiv baud)))) = _
        rw [if_neg (by omega), Int.tdiv_eq_ediv_of_nonneg (by omega), w2]
      have r : binV .rem (.int .i64 bytes) (.int .i64 baud) = some (.int .i64 (bytes % baud)) := by
        show (if baud = 0 then none else some (AV.int .i64 (bytes.tmod baud))) = _
        rw [if_neg (by omega), Int.tmod_eq_emod_of_nonneg (by omega)]
      have e1 := Int.mul_ediv_add_emod bytes baud
      have e2 := Int.emod_nonneg bytes (show baud ≠ 0 by omega)
      have e3 := Int.emod_lt_of_pos bytes (show 0 < baud by omega)
      by_cases z : bytes % baud = 0
      · have nz : (bytes % baud != 0) = false := by simp [z]
        have e : (bytes - 1) / baud + 1 = bytes / baud := by
          have : (bytes - 1) / baud = bytes / baud - 1 := by
            refine (Int.ediv_emod_unique (r := baud - 1) (show 0 < baud by omega)).2 ⟨?_, by omega, by omega⟩ |>.1
            rw [Int.mul_sub]; omega
          omega
        rw [e]
        simp only [M37, d, d2, q, r, nz, qES0, qES1, qES2, env0, List.length_cons, List.length_nil, Nat.reduceAdd, Nat.reduceSub, List.replicate, List.cons_append, List.nil_append, opd, Env.put, Env.at, List.set_cons_zero, List.set_cons_succ, List.getD_cons_zero, List.getD_cons_succ, freezeL, resVs, oneOr, Option.map_some, Option.map_none, List.map_cons, List.map_nil, if_true, if_false, Bool.not_true, Bool.not_false, Bool.false_eq_true, reduceIte, decide_true, decide_false, Int.reduceLT, Int.reduceLE, Int.reduceGT, Int.reduceGE, Int.reduceEq, Int.reduceBEq, Int.reduceBNe, load_ptr, ldV_some, cellAt_cells, List.getElem?_cons_zero, List.getElem?_cons_succ, store_ptr, stO_some, setAt_0, setAt_1, setAt_2, setAt_3, setAt_4, setAt_5, setAt_6, setAt_7, setAt_8, setAt_9, setAt_10, setAt_11, setAt_12, cells_int, cells_bool, cells_str, cells_nils, cells_nilp, cells_ptr, cells_sl, cells_u8, cells_u16, cells_agg, get_upd_is, Option.isSome_some, upd_upd, ev1_nchkV, ev1_faV, nchkV_ptr, faV_ptr, ev1_extV, extV_tup, eqptr_nil, eqptr_ptr, Nat.zero_add, Nat.add_zero, qPL0, qPL1, qPL2, qPL3, qPL4, qPL5, beq_self_eq_true]
      · have nz : (bytes % baud != 0) = true := by simp [z]
        have e : (bytes - 1) / baud = bytes / baud := by
          refine (Int.ediv_emod_unique (r := bytes % baud - 1) (show 0 < baud by omega)).2 ⟨by omega, by omega, by omega⟩ |>.1
        rw [e] at q0 q1 ⊢
        have w3 : IntKind.i64.wrap (bytes / baud + 1) = bytes / baud + 1 := by rw [IntKind.wrap_i64]; omega
        simp only [M37, d, d2, q, r, nz, w3, qES0, qES1, qES2, env0, List.length_cons, List.length_nil, Nat.reduceAdd, Nat.reduceSub, List.replicate, List.cons_append, List.nil_append, opd, Env.put, Env.at, List.set_cons_zero, List.set_cons_succ, List.getD_cons_zero, List.getD_cons_succ, freezeL, resVs, oneOr, Option.map_some, Option.map_none, List.map_cons, List.map_nil, if_true, if_false, Bool.not_true, Bool.not_false, Bool.false_eq_true, reduceIte, decide_true, decide_false, Int.reduceLT, Int.reduceLE, Int.reduceGT, Int.reduceGE, Int.reduceEq, Int.reduceBEq, Int.reduceBNe, load_ptr, ldV_some, cellAt_cells, List.getElem?_cons_zero, List.getElem?_cons_succ, store_ptr, stO_some, setAt_0, setAt_1, setAt_2, setAt_3, setAt_4, setAt_5, setAt_6, setAt_7, setAt_8, setAt_9, setAt_10, setAt_11, setAt_12, cells_int, cells_bool, cells_str, cells_nils, cells_nilp, cells_ptr, cells_sl, cells_u8, cells_u16, cells_agg, get_upd_is, Option.isSome_some, upd_upd, ev1_nchkV, ev1_faV, nchkV_ptr, faV_ptr, ev1_extV, extV_tup, eqptr_nil, eqptr_ptr, Nat.zero_add, Nat.add_zero, qPL0, qPL1, qPL2, qPL3, qPL4, qPL5, beq_self_eq_true]
end Go.Proofs.YtbeimfhodgmjhaaDoor
