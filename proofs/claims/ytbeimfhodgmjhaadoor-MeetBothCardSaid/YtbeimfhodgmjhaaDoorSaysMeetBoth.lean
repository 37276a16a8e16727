/- What the evaluator says of the law MeetBoth: true. No conditions. -/
import Derived.Test.YtbeimfhodgmjhaaDoorMBo
import Derived.Test.YtbeimfhodgmjhaaDoorPlainT8
namespace Go.Proofs.YtbeimfhodgmjhaaDoor.meetBoth
open Go Go.Ab
set_option linter.unusedVariables false
set_option linter.unusedSimpArgs false
set_option maxRecDepth 100000 in
set_option maxHeartbeats 8000000 in
theorem says (as0 : List Ab.AV) (hs0 : Ab.ScL Tryd.prog offerTypes as0) (as1 : List Ab.AV) (hs1 : Ab.ScL Tryd.prog offerTypes as1) (x2 : Ab.AV) (b2 : List UInt8) (hx2 : Ab.IsBytes x2 b2) : Ab.saysTrue (evK 1000 6 [.agg as0, .agg as1, x2] Ab.St.nil) = true := by
  obtain ⟨ab, a_s, aw, az, a_t, rfl⟩ := offer_of hs0
  obtain ⟨ob, os, ow, oz, ot, rfl⟩ := offer_of hs1
  have hx := IsBytes_bys hx2
  have hb := k21 998
  have e1 := k42 998 ⟨ab, a_s, aw, az, a_t⟩ ⟨ob, os, ow, oz, ot⟩
  have f1 := k42 998 ⟨ob, os, ow, oz, ot⟩ ⟨ab, a_s, aw, az, a_t⟩
  rw [show (1000 : Nat) = 999 + 1 from rfl, evK_in rfl tab6]
  refine says_of ?_
  rw [show St.nil = St.nil.pl [] from rfl]
  by_cases g : Of5.may ⟨ab, a_s, aw, az, a_t⟩ ∧ Of5.may ⟨ob, os, ow, oz, ot⟩
  · rw [if_pos g] at e1
    rw [if_pos ⟨g.2, g.1⟩] at f1
    obtain ⟨q1, q2, q3, q4, q5, q6, q7, q8, q9, q10, q11, q12, q13, q14, q15, q16, q17⟩ := deal_known ⟨ab, a_s, aw, az, a_t⟩ ⟨ob, os, ow, oz, ot⟩ g.1 g.2
    have q18 : (dealO ⟨ab, a_s, aw, az, a_t⟩ ⟨ob, os, ow, oz, ot⟩).t = lowZ ot := rfl
    generalize dealO ⟨ab, a_s, aw, az, a_t⟩ ⟨ob, os, ow, oz, ot⟩ = D at *
    generalize dealO ⟨ob, os, ow, oz, ot⟩ ⟨ab, a_s, aw, az, a_t⟩ = E at *
    obtain ⟨db, ds, dw, dz, dt⟩ := D
    obtain ⟨eb, es, ew, ez, et⟩ := E
    simp only at q1 q2 q3 q4 q5 q6 q7 q8 q9 q10 q11 q12 q13 q14 q15 q16 q17 q18
    subst q1 q2 q18
    simp only [Of5.cells, ofC] at e1 f1
    have h27o := k27 998 ow
    have h27a := k27 998 aw
    have h29 := k29 998 ot
    have h44 := k44 998 dz db ⟨by omega, by omega⟩
    generalize highZ ow = hw at *
    generalize highZ aw = hv at *
    generalize lowZ ot = lt at *
    generalize frameZ dz db = fr at *
    have i1 : (db != db) = false := by simp
    have i2 : (ds != ds) = false := by simp
    have i3 : (lt != lt) = false := by simp
    have d1 : decide (dw < 1) = false := decide_eq_false (by omega)
    have w1 : IntKind.i64.wrap (hw + 1) = hw + 1 := wrapI _ (by omega) (by omega)
    have w2 : IntKind.i64.wrap (hv + 1) = hv + 1 := wrapI _ (by omega) (by omega)
    have d2 : decide (dw > hw + 1) = false := decide_eq_false (by omega)
    have d3 : decide (ew > hv + 1) = false := decide_eq_false (by omega)
    have hp : 0 ≤ dw * fr := Int.mul_nonneg (by omega) (by omega)
    have w3 : IntKind.i64.wrap (dw * fr) = dw * fr := wrapI _ (by omega) (by omega)
    have d4 : decide (dw * fr > 30) = false := decide_eq_false (by omega)
    obtain ⟨n, hn⟩ : ∃ n : Nat, (n : Int) = 3 + dz := ⟨(3 + dz).toNat, by omega⟩
    have w4 : IntKind.i64.wrap (3 + dz) = (n : Int) := (wrapI _ (by omega) (by omega)).trans hn.symm
    obtain ⟨w, hw'⟩ : ∃ w : Nat, dw = (w : Nat) := ⟨dw.toNat, by omega⟩
    have mk := mks_n (St.nil.pl [.cells 0 [.int .i64 ab, .int .i64 a_s, .int .i64 aw, .int .i64 az, .int .i64 a_t], .cells 0 [.int .i64 ob, .int .i64 os, .int .i64 ow, .int .i64 oz, .int .i64 ot], .cells 0 [.int .i64 db, .int .i64 ds, .int .i64 dw, .int .i64 dz, .int .i64 lt], .cells 0 [.int .i64 db, .int .i64 ds, .int .i64 ew, .int .i64 ez, .int .i64 et]]) n (by omega)
    have cpy := Has.cpy (s := St.nil.pl [.cells 0 [.int .i64 ab, .int .i64 a_s, .int .i64 aw, .int .i64 az, .int .i64 a_t], .cells 0 [.int .i64 ob, .int .i64 os, .int .i64 ow, .int .i64 oz, .int .i64 ot], .cells 0 [.int .i64 db, .int .i64 ds, .int .i64 dw, .int .i64 dz, .int .i64 lt], .cells 0 [.int .i64 db, .int .i64 ds, .int .i64 ew, .int .i64 ez, .int .i64 et], .cells 1 (bytesAV (List.replicate n 0))]) (b := St.nil.next + 4) (plg4 _ _ _ _ _ _ _) 0 n x2 b2 (hx.news _) (by simp; omega)
    have hcl : (List.take 0 (List.replicate n (0 : UInt8)) ++ List.take (min b2.length n) b2 ++ List.drop (0 + min b2.length n) (List.replicate n 0)).length = n := by simp; omega
    generalize (List.take 0 (List.replicate n (0 : UInt8)) ++ List.take (min b2.length n) b2 ++ List.drop (0 + min b2.length n) (List.replicate n 0)) = cs0 at *
    have lh : lenV (.hs 1 (St.nil.next + 4) 0 n) = some (.int .i64 (n : Nat)) := rfl
    have hl := meet_fill [.int .i64 ab, .int .i64 a_s, .int .i64 aw, .int .i64 az, .int .i64 a_t] [.int .i64 ob, .int .i64 os, .int .i64 ow, .int .i64 oz, .int .i64 ot] [.int .i64 db, .int .i64 ds, .int .i64 ew, .int .i64 ez, .int .i64 et] db ds dw dz lt w hw' (by omega) q10 q11 q8 q9 n hn hx cs0 hcl
    simp only [qPL0, qPL1, qPL2, qPL3, qPL4, qPL5, beq_self_eq_true, List.length_cons, List.length_nil] at mk cpy
    simp only [M6, hb, e1, f1, evC_loop, ev1_boxV, ev1_eqv, ev1_extV, qES0, qES1, qES2, env0, List.length_cons, List.length_nil, Nat.reduceAdd, Nat.reduceSub, List.replicate, List.cons_append, List.nil_append, opd, Env.put, Env.at, List.set_cons_zero, List.set_cons_succ, List.getD_cons_zero, List.getD_cons_succ, freezeL, resVs, oneOr, Option.map_some, Option.map_none, List.map_cons, List.map_nil, if_true, if_false, Bool.not_true, Bool.not_false, Bool.false_eq_true, reduceIte, decide_true, decide_false, Int.reduceLT, Int.reduceLE, Int.reduceGT, Int.reduceGE, Int.reduceEq, Int.reduceBEq, Int.reduceBNe, load_ptr, ldV_some, cellAt_cells, List.getElem?_cons_zero, List.getElem?_cons_succ, store_ptr, stO_some, setAt_0, setAt_1, setAt_2, setAt_3, setAt_4, setAt_5, setAt_6, setAt_7, setAt_8, setAt_9, setAt_10, setAt_11, setAt_12, cells_int, cells_bool, cells_str, cells_nils, cells_nilp, cells_ptr, cells_sl, cells_u8, cells_u16, cells_agg, get_upd_is, Option.isSome_some, upd_upd, ev1_nchkV, ev1_faV, nchkV_ptr, faV_ptr, ev1_extV, extV_tup, eqptr_nil, eqptr_ptr, Nat.zero_add, Nat.add_zero, qPL0, qPL1, qPL2, qPL3, qPL4, qPL5, beq_self_eq_true]
    simp only [M6, hb, e1, f1, i1, i2, i3, d1, w1, w2, d2, d3, w3, d4, w4, h27o, h27a, h29, h44, evC_loop, ev1_boxV, ev1_eqv, ev1_extV, qES0, qES1, qES2, env0, List.length_cons, List.length_nil, Nat.reduceAdd, Nat.reduceSub, List.replicate, List.cons_append, List.nil_append, opd, Env.put, Env.at, List.set_cons_zero, List.set_cons_succ, List.getD_cons_zero, List.getD_cons_succ, freezeL, resVs, oneOr, Option.map_some, Option.map_none, List.map_cons, List.map_nil, if_true, if_false, Bool.not_true, Bool.not_false, Bool.false_eq_true, reduceIte, decide_true, decide_false, Int.reduceLT, Int.reduceLE, Int.reduceGT, Int.reduceGE, Int.reduceEq, Int.reduceBEq, Int.reduceBNe, load_ptr, ldV_some, cellAt_cells, List.getElem?_cons_zero, List.getElem?_cons_succ, store_ptr, stO_some, setAt_0, setAt_1, setAt_2, setAt_3, setAt_4, setAt_5, setAt_6, setAt_7, setAt_8, setAt_9, setAt_10, setAt_11, setAt_12, cells_int, cells_bool, cells_str, cells_nils, cells_nilp, cells_ptr, cells_sl, cells_u8, cells_u16, cells_agg, get_upd_is, Option.isSome_some, upd_upd, ev1_nchkV, ev1_faV, nchkV_ptr, faV_ptr, ev1_extV, extV_tup, eqptr_nil, eqptr_ptr, Nat.zero_add, Nat.add_zero, qPL0, qPL1, qPL2, qPL3, qPL4, qPL5, beq_self_eq_true, qED0, qED1, placeR]
    rw [drawR_ok]; case h => simp (config := { decide := true }) [calm, calmPair, calmTwo, List.range, List.range.loop, sameO_refl, plg0, plg1, plg2, plg3]
    simp only [M6, lh, mk, cpy, w4, evC_loop, ev1_mksV, ev1_cpyV, ev1_boxV, ev1_eqv, ev1_extV, qES0, qES1, qES2, env0, List.length_cons, List.length_nil, Nat.reduceAdd, Nat.reduceSub, List.replicate, List.cons_append, List.nil_append, opd, Env.put, Env.at, List.set_cons_zero, List.set_cons_succ, List.getD_cons_zero, List.getD_cons_succ, freezeL, resVs, oneOr, Option.map_some, Option.map_none, List.map_cons, List.map_nil, if_true, if_false, Bool.not_true, Bool.not_false, Bool.false_eq_true, reduceIte, decide_true, decide_false, Int.reduceLT, Int.reduceLE, Int.reduceGT, Int.reduceGE, Int.reduceEq, Int.reduceBEq, Int.reduceBNe, load_ptr, ldV_some, cellAt_cells, List.getElem?_cons_zero, List.getElem?_cons_succ, store_ptr, stO_some, setAt_0, setAt_1, setAt_2, setAt_3, setAt_4, setAt_5, setAt_6, setAt_7, setAt_8, setAt_9, setAt_10, setAt_11, setAt_12, cells_int, cells_bool, cells_str, cells_nils, cells_nilp, cells_ptr, cells_sl, cells_u8, cells_u16, cells_agg, get_upd_is, Option.isSome_some, upd_upd, ev1_nchkV, ev1_faV, nchkV_ptr, faV_ptr, ev1_extV, extV_tup, eqptr_nil, eqptr_ptr, Nat.zero_add, Nat.add_zero, qPL0, qPL1, qPL2, qPL3, qPL4, qPL5, beq_self_eq_true]
    exact hl _ rfl
  · rw [if_neg g] at e1
    rw [if_neg (fun h => g ⟨h.2, h.1⟩)] at f1
    simp only [Of5.cells, ofC] at e1 f1
    have qb : eqAV (.flat (.one SK.b)) (.bool false) (.bool false) = some true := rfl
    simp only [M6, hb, e1, f1, qb, ev1_boxV, ev1_eqv, ev1_extV, qES0, qES1, qES2, env0, List.length_cons, List.length_nil, Nat.reduceAdd, Nat.reduceSub, List.replicate, List.cons_append, List.nil_append, opd, Env.put, Env.at, List.set_cons_zero, List.set_cons_succ, List.getD_cons_zero, List.getD_cons_succ, freezeL, resVs, oneOr, Option.map_some, Option.map_none, List.map_cons, List.map_nil, if_true, if_false, Bool.not_true, Bool.not_false, Bool.false_eq_true, reduceIte, decide_true, decide_false, Int.reduceLT, Int.reduceLE, Int.reduceGT, Int.reduceGE, Int.reduceEq, Int.reduceBEq, Int.reduceBNe, load_ptr, ldV_some, cellAt_cells, List.getElem?_cons_zero, List.getElem?_cons_succ, store_ptr, stO_some, setAt_0, setAt_1, setAt_2, setAt_3, setAt_4, setAt_5, setAt_6, setAt_7, setAt_8, setAt_9, setAt_10, setAt_11, setAt_12, cells_int, cells_bool, cells_str, cells_nils, cells_nilp, cells_ptr, cells_sl, cells_u8, cells_u16, cells_agg, get_upd_is, Option.isSome_some, upd_upd, ev1_nchkV, ev1_faV, nchkV_ptr, faV_ptr, ev1_extV, extV_tup, eqptr_nil, eqptr_ptr, Nat.zero_add, Nat.add_zero, qPL0, qPL1, qPL2, qPL3, qPL4, qPL5, beq_self_eq_true]
end Go.Proofs.YtbeimfhodgmjhaaDoor.meetBoth
