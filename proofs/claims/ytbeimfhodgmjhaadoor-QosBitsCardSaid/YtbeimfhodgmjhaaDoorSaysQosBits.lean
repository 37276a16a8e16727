/- What the evaluator says of the law QosBits: true. No conditions. -/
import Derived.Test.YtbeimfhodgmjhaaDoorQ7
import Derived.Test.YtbeimfhodgmjhaaDoorP8b
import Derived.Test.YtbeimfhodgmjhaaDoorM8_11
import Derived.Test.YtbeimfhodgmjhaaDoorPlainT8
namespace Go.Proofs.YtbeimfhodgmjhaaDoor.qosBits
open Go Go.Ab
set_option linter.unusedVariables false
set_option linter.unusedSimpArgs false
set_option maxRecDepth 100000 in
set_option maxHeartbeats 8000000 in
theorem says (n0 : Int) (hn0 : IntKind.has .i64 n0) : Ab.saysTrue (evB 1000 11 [.int .i64 n0] Ab.St.nil) = true := by
  have hb := b21 998
  rw [show (1000 : Nat) = 999 + 1 from rfl, evB_in rfl tab11]
  have a1 := and_65535 n0
  obtain ⟨m, hm⟩ : ∃ m : Nat, n0 % 65536 = (m : Int) := ⟨(n0 % 65536).toNat, by omega⟩
  have hm2 : m < 65536 := by omega
  rw [hm] at a1
  have h26 := b26 998 (m : Int)
  have h28 := b28 998 (m : Int)
  have hmm : ((m : Int) % 65536).toNat = m := by omega
  by_cases h0 : m = 0
  · subst h0
    have e1 : highZ ((0 : Nat) : Int) = -1 := rfl
    have e2 : lowZ ((0 : Nat) : Int) = -1 := rfl
    rw [e1] at h26
    rw [e2] at h28
    simp only [Int.natCast_zero] at a1 h26 h28
    simp only [M11, hb, a1, h26, h28, qES0, qES1, qES2, env0, List.length_cons, List.length_nil, Nat.reduceAdd, Nat.reduceSub, List.replicate, List.cons_append, List.nil_append, opd, Env.put, Env.at, List.set_cons_zero, List.set_cons_succ, List.getD_cons_zero, List.getD_cons_succ, freezeL, resVs, oneOr, Option.map_some, Option.map_none, List.map_cons, List.map_nil, if_true, if_false, Bool.not_true, Bool.not_false, Bool.false_eq_true, reduceIte, decide_true, decide_false, Int.reduceLT, Int.reduceLE, Int.reduceGT, Int.reduceGE, Int.reduceEq, Int.reduceBEq, Int.reduceBNe, load_ptr, ldV_some, cellAt_cells, List.getElem?_cons_zero, List.getElem?_cons_succ, store_ptr, stO_some, setAt_0, setAt_1, setAt_2, setAt_3, setAt_4, setAt_5, setAt_6, setAt_7, setAt_8, setAt_9, setAt_10, setAt_11, setAt_12, cells_int, cells_bool, cells_str, cells_nils, cells_nilp, cells_ptr, cells_sl, cells_u8, cells_u16, cells_agg, get_upd_is, Option.isSome_some, upd_upd, ev1_nchkV, ev1_faV, nchkV_ptr, faV_ptr, ev1_extV, extV_tup, eqptr_nil, eqptr_ptr, Nat.zero_add, Nat.add_zero, qPL0, qPL1, qPL2, qPL3, qPL4, qPL5, beq_self_eq_true]
    rfl
  · obtain ⟨h, l, g1, g2, g3, g4, g5, g6, g7⟩ := bits_law m hm2 (by omega)
    have e1 : highZ (m : Int) = (h : Int) := by unfold highZ; rw [hmm, g3]
    have e2 : lowZ (m : Int) = (l : Int) := by unfold lowZ; rw [hmm, g4]
    rw [e1] at h26
    rw [e2] at h28
    have q0 : ((m : Int) == 0) = false := by simp; omega
    have d1 : decide ((h : Int) ≥ (l : Int)) = true := decide_eq_true (by omega)
    have d2 : decide ((l : Int) ≥ 0) = true := decide_eq_true (by omega)
    have d3 : decide ((h : Int) ≤ 15) = true := decide_eq_true (by omega)
    have s1 := shr_i64 (m : Int) h (by omega)
    rw [← Int.natCast_ediv, g5] at s1
    have s2 := shr_i64 (m : Int) l (by omega)
    rw [← Int.natCast_ediv] at s2
    have n2 := and_1 ((m / 2 ^ l : Nat) : Int)
    rw [show (((m / 2 ^ l : Nat) : Int)) % 2 = 1 by omega] at n2
    have pl : 2 ^ l ≤ 2 ^ 15 := Nat.pow_le_pow_right (by omega) (by omega)
    have pl0 : 0 < 2 ^ l := Nat.pow_pos (by omega)
    have s3 : binV .shl (.int .i64 1) (.int .i64 (l : Int)) = some (.int .i64 ((2 ^ l : Nat) : Int)) := by
      show (if (l : Int) < 0 then none else some (AV.int .i64 (IntKind.i64.wrap (1 * 2 ^ (min (Int.toNat (l : Int)) 64))))) = _
      rw [if_neg (by omega), Int.toNat_natCast, Nat.min_eq_left (by omega), Int.one_mul, show ((2 : Int) ^ l) = ((2 ^ l : Nat) : Int) by norm_cast, wrapI _ (by omega) (by omega)]
    have w3 : IntKind.i64.wrap (((2 ^ l : Nat) : Int) - 1) = ((2 ^ l - 1 : Nat) : Int) := (wrapI _ (by omega) (by omega)).trans (by omega)
    have n3 := and_max (m : Int) l (by omega)
    rw [show (m : Int) % ((2 ^ l : Nat) : Int) = 0 by rw [← Int.natCast_emod, g7]; rfl] at n3
    simp only [M11, hb, a1, h26, h28, q0, d1, d2, d3, s1, s2, n2, s3, w3, n3, Int.natCast_one, qES0, qES1, qES2, env0, List.length_cons, List.length_nil, Nat.reduceAdd, Nat.reduceSub, List.replicate, List.cons_append, List.nil_append, opd, Env.put, Env.at, List.set_cons_zero, List.set_cons_succ, List.getD_cons_zero, List.getD_cons_succ, freezeL, resVs, oneOr, Option.map_some, Option.map_none, List.map_cons, List.map_nil, if_true, if_false, Bool.not_true, Bool.not_false, Bool.false_eq_true, reduceIte, decide_true, decide_false, Int.reduceLT, Int.reduceLE, Int.reduceGT, Int.reduceGE, Int.reduceEq, Int.reduceBEq, Int.reduceBNe, load_ptr, ldV_some, cellAt_cells, List.getElem?_cons_zero, List.getElem?_cons_succ, store_ptr, stO_some, setAt_0, setAt_1, setAt_2, setAt_3, setAt_4, setAt_5, setAt_6, setAt_7, setAt_8, setAt_9, setAt_10, setAt_11, setAt_12, cells_int, cells_bool, cells_str, cells_nils, cells_nilp, cells_ptr, cells_sl, cells_u8, cells_u16, cells_agg, get_upd_is, Option.isSome_some, upd_upd, ev1_nchkV, ev1_faV, nchkV_ptr, faV_ptr, ev1_extV, extV_tup, eqptr_nil, eqptr_ptr, Nat.zero_add, Nat.add_zero, qPL0, qPL1, qPL2, qPL3, qPL4, qPL5, beq_self_eq_true]
    rfl
end Go.Proofs.YtbeimfhodgmjhaaDoor.qosBits
