/- What the evaluator says of the law TupleAll: true. No conditions. -/
import Derived.Test.YthcblggiojpmcaaDoorTpD
import Derived.Test.YthcblggiojpmcaaDoorPlainT
import Derived.Test.YthcblggiojpmcaaDoorArgS
namespace Go.Proofs.YthcblggiojpmcaaDoor.tupleAll
open Go Go.Ab
set_option linter.unusedVariables false
set_option linter.unusedSimpArgs false
set_option maxRecDepth 100000 in
set_option maxHeartbeats 8000000 in
theorem says (x0 : Ab.AV) (z0 : List (Int × List UInt8)) (hx0 : Ab.IsTups x0 z0 ∧ ∀ u ∈ z0, u.2.length ≤ maxLen ∧ IntKind.i64.has u.1) (b1 : List UInt8) (hb1 : (b1.length : Int) ≤ IntKind.i64.max) (n2 : Int) (hn2 : IntKind.has .i64 n2) : Ab.saysTrue (evB 1000 8 [x0, .str b1, .int .i64 n2] Ab.St.nil) = true := by
  have hb := b20 998
  have i0 := isTp_of hx0.1
  have h50 := b50 998 i0
  have f0 := i0.freeze
  have hT : ∀ s, evB (998 + 1) 21 [.str b1, .int .i64 70] s = some (.str (b1.take 70), s) := b21 998 b1 70
  have hA : (cutT 45 (z0.take 8)).length ≤ 8 := by rw [cutT_len, List.length_take]; omega
  generalize cutT 45 (z0.take 8) = A at *
  generalize b1.take 70 = t at *
  have j0 := tpV_is A
  have g0 := j0.freeze
  have l0 := j0.len
  have h51 := b51 998 j0 (by omega)
  have h52 := b52 998 j0 (by omega)
  have h54 := b54 998 j0 j0 (by omega)
  have h55 := b55 998 j0 (by omega) n2
  have h56 := b56 998 t
  have hfv : ∃ v o, findV (findT n2 A) = .tup [.str v, .bool o] := by
    cases findT n2 A with
    | none => exact ⟨[], false, rfl⟩
    | some v => exact ⟨v, true, rfl⟩
  rw [show (1000 : Nat) = 999 + 1 from rfl, evB_in rfl tab8]
  refine says_of ?_
  rw [show St.nil = St.nil.pl [] from rfl]
  by_cases pa : putOk A
  · rw [if_pos pa, decide_eq_true pa] at h51 h52
    have h53 := b53 998 (encL A)
    rw [getL_encL A pa (by omega)] at h53
    simp only [getV] at h53
    have key := find_loop j0 hA t n2
    obtain ⟨v, o, hv⟩ := hfv
    rw [hv] at h55
    have key := key v o hv
    generalize tpV A = va at *
    have q0 : binV .neq (.str (encL A)) (.str (encL A)) = some (.bool false) := by
      show some (AV.bool (encL A != encL A)) = _
      simp
    have q1 := eqB true
    simp only [M8, hb, hT, f0, h50, g0, l0, h51, h52, h53, h54, h55, q0, q1, evC_loop, ev1_eqv, ev1_slsV, ev1_lensV', ev1_extV, qES0, qES1, qES2, env0, List.length_cons, List.length_nil, Nat.reduceAdd, Nat.reduceSub, List.replicate, List.cons_append, List.nil_append, opd, Env.put, Env.at, List.set_cons_zero, List.set_cons_succ, List.getD_cons_zero, List.getD_cons_succ, freezeL, resVs, oneOr, Option.map_some, Option.map_none, List.map_cons, List.map_nil, if_true, if_false, Bool.not_true, Bool.not_false, Bool.false_eq_true, reduceIte, decide_true, decide_false, Int.reduceLT, Int.reduceLE, Int.reduceGT, Int.reduceGE, Int.reduceEq, Int.reduceBEq, Int.reduceBNe, load_ptr, ldV_some, cellAt_cells, List.getElem?_cons_zero, List.getElem?_cons_succ, store_ptr, stO_some, setAt_0, setAt_1, setAt_2, setAt_3, setAt_4, setAt_5, setAt_6, setAt_7, setAt_8, setAt_9, setAt_10, setAt_11, setAt_12, cells_int, cells_bool, cells_str, cells_nils, cells_nilp, cells_ptr, cells_sl, cells_u8, cells_u16, cells_agg, get_upd_is, Option.isSome_some, upd_upd, ev1_nchkV, ev1_faV, nchkV_ptr, faV_ptr, ev1_extV, extV_tup, eqptr_nil, eqptr_ptr, Nat.zero_add, Nat.add_zero, qPL0, qPL1, qPL2, qPL3, qPL4, qPL5, beq_self_eq_true]
    exact key _ _ rfl
  · rw [if_neg pa, decide_eq_false pa] at h51 h52
    have q0 : binV .neq (.str []) (.str []) = some (.bool false) := rfl
    have q1 := eqB false
    simp only [M8, hb, hT, f0, h50, g0, l0, h51, h52, h56, q0, q1, evC_loop, ev1_eqv, ev1_slsV, ev1_lensV', ev1_extV, qES0, qES1, qES2, env0, List.length_cons, List.length_nil, Nat.reduceAdd, Nat.reduceSub, List.replicate, List.cons_append, List.nil_append, opd, Env.put, Env.at, List.set_cons_zero, List.set_cons_succ, List.getD_cons_zero, List.getD_cons_succ, freezeL, resVs, oneOr, Option.map_some, Option.map_none, List.map_cons, List.map_nil, if_true, if_false, Bool.not_true, Bool.not_false, Bool.false_eq_true, reduceIte, decide_true, decide_false, Int.reduceLT, Int.reduceLE, Int.reduceGT, Int.reduceGE, Int.reduceEq, Int.reduceBEq, Int.reduceBNe, load_ptr, ldV_some, cellAt_cells, List.getElem?_cons_zero, List.getElem?_cons_succ, store_ptr, stO_some, setAt_0, setAt_1, setAt_2, setAt_3, setAt_4, setAt_5, setAt_6, setAt_7, setAt_8, setAt_9, setAt_10, setAt_11, setAt_12, cells_int, cells_bool, cells_str, cells_nils, cells_nilp, cells_ptr, cells_sl, cells_u8, cells_u16, cells_agg, get_upd_is, Option.isSome_some, upd_upd, ev1_nchkV, ev1_faV, nchkV_ptr, faV_ptr, ev1_extV, extV_tup, eqptr_nil, eqptr_ptr, Nat.zero_add, Nat.add_zero, qPL0, qPL1, qPL2, qPL3, qPL4, qPL5, beq_self_eq_true]
end Go.Proofs.YthcblggiojpmcaaDoor.tupleAll
