/- What the evaluator says of the law XidFresh: true. No conditions. -/
import Derived.Test.YtbeimfhodgmjhaaDoorFre2
import Derived.Test.YtbeimfhodgmjhaaDoorPlainT8
namespace Go.Proofs.YtbeimfhodgmjhaaDoor.xidFresh
open Go Go.Ab
set_option linter.unusedVariables false
set_option linter.unusedSimpArgs false
set_option maxRecDepth 100000 in
set_option maxHeartbeats 8000000 in
theorem says (x0 : Ab.AV) (z0 : List Int) (hx0 : Ab.IsNums .u32 x0 z0 ∧ ∀ n ∈ z0, (Lit.int .u32 n).wf = true) (x1 : Ab.AV) (z1 : List Int) (hx1 : Ab.IsNums .u32 x1 z1 ∧ ∀ n ∈ z1, (Lit.int .u32 n).wf = true) : Ab.saysTrue (evK 1000 16 [x0, x1] Ab.St.nil) = true := by
  have hb := k21 998
  obtain ⟨v, sv, hv⟩ := nums_slo hx0.1 (min z0.length 10) (by omega)
  obtain ⟨w, sw, hw⟩ := nums_slo hx1.1 (min z1.length 10) (by omega)
  have l0 := nums_len hx0.1
  have l1 := nums_len hx1.1
  have m0 : mn2V (.int .i64 (z0.length : Nat)) (.int .i64 10) = some (.int .i64 ((min z0.length 10 : Nat) : Int)) := by
    rw [mn2_i64]; refine congrArg (fun i => some (AV.int .i64 i)) ?_; split <;> omega
  have m1 : mn2V (.int .i64 (z1.length : Nat)) (.int .i64 10) = some (.int .i64 ((min z1.length 10 : Nat) : Int)) := by
    rw [mn2_i64]; refine congrArg (fun i => some (AV.int .i64 i)) ?_; split <;> omega
  have m0' : (if (10 : Int) < (z0.length : Nat) then (10 : Int) else (z0.length : Nat)) = ((min z0.length 10 : Nat) : Int) := by split <;> omega
  have m1' : (if (10 : Int) < (z1.length : Nat) then (10 : Int) else (z1.length : Nat)) = ((min z1.length 10 : Nat) : Int) := by split <;> omega
  have hd : (z0.take (min z0.length 10)).length ≤ 100 := by rw [List.length_take]; omega
  have hn : (z1.take (min z1.length 10)).length ≤ 100 := by rw [List.length_take]; omega
  obtain ⟨s', h52⟩ := fresh_ev hv hw hd hn
  obtain ⟨p1, p2, p3, p4⟩ := freshZ_spec (z0.take (min z0.length 10)) (z1.take (min z1.length 10)) hn
  generalize z0.take (min z0.length 10) = ds at *
  generalize z1.take (min z1.length 10) = no at *
  generalize freshZ ds no = F at *
  obtain ⟨n, k⟩ := F
  dsimp only at h52 p1 p2 p3 p4
  obtain ⟨q1, q2⟩ := (okD_iff _ _).1 p1
  have h59 := own_ev 998 n
  rw [q1] at h59
  have lv := nums_len hv
  have lw := nums_len hw
  have fv := nums_freeze hv
  have fw := nums_freeze hw
  have d0 : decide ((k : Int) < 0) = false := decide_eq_false (by omega)
  have d1 : decide ((k : Int) > (ds.length : Nat)) = false := decide_eq_false (by omega)
  have key := not_loop hv hw hd hn n k p2 p3 p4 q2 s'
  rw [show (1000 : Nat) = 999 + 1 from rfl, evK_in rfl tab16]
  refine says_of ?_
  rw [show St.nil = St.nil.pl [] from rfl] at h52 ⊢
  simp only [M16, hb, l0, l1, m0, m1, m0', m1', sv, sw, h52, h59, lv, lw, fv, fw, d0, d1, evC_loop, evP_mn2, ev1_mn, ev1_extV, qES0, qES1, qES2, env0, List.length_cons, List.length_nil, Nat.reduceAdd, Nat.reduceSub, List.replicate, List.cons_append, List.nil_append, opd, Env.put, Env.at, List.set_cons_zero, List.set_cons_succ, List.getD_cons_zero, List.getD_cons_succ, freezeL, resVs, oneOr, Option.map_some, Option.map_none, List.map_cons, List.map_nil, if_true, if_false, Bool.not_true, Bool.not_false, Bool.false_eq_true, reduceIte, decide_true, decide_false, Int.reduceLT, Int.reduceLE, Int.reduceGT, Int.reduceGE, Int.reduceEq, Int.reduceBEq, Int.reduceBNe, load_ptr, ldV_some, cellAt_cells, List.getElem?_cons_zero, List.getElem?_cons_succ, store_ptr, stO_some, setAt_0, setAt_1, setAt_2, setAt_3, setAt_4, setAt_5, setAt_6, setAt_7, setAt_8, setAt_9, setAt_10, setAt_11, setAt_12, cells_int, cells_bool, cells_str, cells_nils, cells_nilp, cells_ptr, cells_sl, cells_u8, cells_u16, cells_agg, get_upd_is, Option.isSome_some, upd_upd, ev1_nchkV, ev1_faV, nchkV_ptr, faV_ptr, ev1_extV, extV_tup, eqptr_nil, eqptr_ptr, Nat.zero_add, Nat.add_zero, qPL0, qPL1, qPL2, qPL3, qPL4, qPL5, beq_self_eq_true, qED0, qED1, placeR]
  rw [drawR_ok]; case h => simp (config := { decide := true }) [calm, calmPair, calmTwo, List.range, List.range.loop, sameO_refl]
  simp only [M16, hb, l0, l1, m0, m1, m0', m1', sv, sw, h52, h59, lv, lw, fv, fw, d0, d1, evC_loop, evP_mn2, ev1_mn, ev1_extV, qES0, qES1, qES2, env0, List.length_cons, List.length_nil, Nat.reduceAdd, Nat.reduceSub, List.replicate, List.cons_append, List.nil_append, opd, Env.put, Env.at, List.set_cons_zero, List.set_cons_succ, List.getD_cons_zero, List.getD_cons_succ, freezeL, resVs, oneOr, Option.map_some, Option.map_none, List.map_cons, List.map_nil, if_true, if_false, Bool.not_true, Bool.not_false, Bool.false_eq_true, reduceIte, decide_true, decide_false, Int.reduceLT, Int.reduceLE, Int.reduceGT, Int.reduceGE, Int.reduceEq, Int.reduceBEq, Int.reduceBNe, load_ptr, ldV_some, cellAt_cells, List.getElem?_cons_zero, List.getElem?_cons_succ, store_ptr, stO_some, setAt_0, setAt_1, setAt_2, setAt_3, setAt_4, setAt_5, setAt_6, setAt_7, setAt_8, setAt_9, setAt_10, setAt_11, setAt_12, cells_int, cells_bool, cells_str, cells_nils, cells_nilp, cells_ptr, cells_sl, cells_u8, cells_u16, cells_agg, get_upd_is, Option.isSome_some, upd_upd, ev1_nchkV, ev1_faV, nchkV_ptr, faV_ptr, ev1_extV, extV_tup, eqptr_nil, eqptr_ptr, Nat.zero_add, Nat.add_zero, qPL0, qPL1, qPL2, qPL3, qPL4, qPL5, beq_self_eq_true, qED0, qED1, placeR]
  exact key _ rfl
end Go.Proofs.YtbeimfhodgmjhaaDoor.xidFresh
