/- glowwormref4.Ctl and frame's same as what they answer. No conditions. -/
import Derived.Test.YthcblggiojpmcaaDoorL1
set_option linter.unusedSimpArgs false
set_option linter.unusedVariables false
set_option maxRecDepth 100000
namespace Go.Proofs.YthcblggiojpmcaaDoor
open Go Go.Ab
theorem codes67 (k : Nat) (s : St) : evT (k + 1) 67 [] s = some (.sl [.int .i64 0, .int .i64 47, .int .i64 131, .int .i64 99, .int .i64 15, .int .i64 67, .int .i64 139, .int .i64 143] 8 (some (s.next, 0, 1)), s.new (.tick 1 0)) := by
  rw [evT_in rfl tab67]
  rfl
theorem u8_wrap (n : Int) (h0 : 0 ≤ n) (h1 : n < 256) : IntKind.u8.wrap n = n := by
  simp only [IntKind.wrap, IntKind.bits, IntKind.signed]; simp; omega
def hRCtl : List AV → St → Option AV
  | [v], _ => (toPn v).map fun p => if p.okc = true then .tup [.int .u8 p.ctl.num, .bool true] else .tup [.int .u8 0, .bool false]
  | _, _ => none
theorem rctl_1 (seat count sort nr ns : Int) (cmd pf : Bool) (body : List UInt8) (s : St) :
    valR (evT 1000 34 [.agg (Pn.mk seat count cmd 1 sort nr ns pf body).cells] (s.pl [])) = some (if (Pn.mk seat count cmd 1 sort nr ns pf body).okc = true then .tup [.int .u8 (Pn.mk seat count cmd 1 sort nr ns pf body).ctl.num, .bool true] else .tup [.int .u8 0, .bool false]) := by
  have q1 : ((1 : Int) == 2) = false := rfl
  have q2 : ((1 : Int) == 3) = false := rfl
  rw [show (1000 : Nat) = 999 + 1 from rfl, evT_in rfl tab34]
  simp only [Pn.cells]
  by_cases h : 0 ≤ nr ∧ nr ≤ 7 ∧ 0 ≤ ns ∧ ns ≤ 7 ∧ sort = 0
  · obtain ⟨h1, h2, h3, h4, h5⟩ := h
    have a1 : (nr ≥ 0) = True := eq_true h1
    have a2 : (nr ≤ 7) = True := eq_true h2
    have a3 : (ns ≥ 0) = True := eq_true h3
    have a4 : (ns ≤ 7) = True := eq_true h4
    subst h5
    have hm : (Pn.mk seat count cmd 1 0 nr ns pf body).okc = true := by simp [Pn.okc, Pn.ctl, any1, Ct.may, few, Pn.exact]; omega
    rw [if_pos hm]
    have w1 : IntKind.i64.wrap (nr * 32) = nr * 32 := wrapI _ (by omega) (by omega)
    have w2 : IntKind.i64.wrap (ns * 2) = ns * 2 := wrapI _ (by omega) (by omega)
    cases pf
    · have w3 : IntKind.i64.wrap (0 + nr * 32) = nr * 32 := (wrapI _ (by omega) (by omega)).trans (by omega)
      have w4 : IntKind.i64.wrap (nr * 32 + ns * 2) = nr * 32 + ns * 2 := wrapI _ (by omega) (by omega)
      have w5 := u8_wrap (nr * 32 + ns * 2) (by omega) (by omega)
      simp only [M34, Pn.ctl, any1, Ct.num, a1, a2, a3, a4, w1, w2, w3, w4, w5, qES0, qES1, qES2, env0, List.length_cons, List.length_nil, Nat.reduceAdd, Nat.reduceSub, List.replicate, List.cons_append, List.nil_append, opd, Env.put, Env.at, List.set_cons_zero, List.set_cons_succ, List.getD_cons_zero, List.getD_cons_succ, freezeL, resVs, oneOr, Option.map_some, Option.map_none, List.map_cons, List.map_nil, if_true, if_false, Bool.not_true, Bool.not_false, Bool.false_eq_true, reduceIte, decide_true, decide_false, Int.reduceLT, Int.reduceLE, Int.reduceGT, Int.reduceGE, Int.reduceEq, Int.reduceBEq, Int.reduceBNe, load_ptr, ldV_some, cellAt_cells, List.getElem?_cons_zero, List.getElem?_cons_succ, store_ptr, stO_some, setAt_0, setAt_1, setAt_2, setAt_3, setAt_4, setAt_5, setAt_6, setAt_7, setAt_8, setAt_9, setAt_10, setAt_11, setAt_12, cells_int, cells_bool, cells_str, cells_nils, cells_nilp, cells_ptr, cells_sl, cells_u8, cells_u16, cells_agg, get_upd_is, Option.isSome_some, upd_upd, ev1_nchkV, ev1_faV, nchkV_ptr, faV_ptr, ev1_extV, extV_tup, eqptr_nil, eqptr_ptr, Nat.zero_add, Nat.add_zero, qPL0, qPL1, qPL2, qPL3, qPL4, qPL5, beq_self_eq_true, Int.add_zero]
    · have w3 : IntKind.i64.wrap (16 + nr * 32) = 16 + nr * 32 := wrapI _ (by omega) (by omega)
      have w4 : IntKind.i64.wrap (16 + nr * 32 + ns * 2) = nr * 32 + ns * 2 + 16 := (wrapI _ (by omega) (by omega)).trans (by omega)
      have w5 := u8_wrap (nr * 32 + ns * 2 + 16) (by omega) (by omega)
      simp only [M34, Pn.ctl, any1, Ct.num, a1, a2, a3, a4, w1, w2, w3, w4, w5, qES0, qES1, qES2, env0, List.length_cons, List.length_nil, Nat.reduceAdd, Nat.reduceSub, List.replicate, List.cons_append, List.nil_append, opd, Env.put, Env.at, List.set_cons_zero, List.set_cons_succ, List.getD_cons_zero, List.getD_cons_succ, freezeL, resVs, oneOr, Option.map_some, Option.map_none, List.map_cons, List.map_nil, if_true, if_false, Bool.not_true, Bool.not_false, Bool.false_eq_true, reduceIte, decide_true, decide_false, Int.reduceLT, Int.reduceLE, Int.reduceGT, Int.reduceGE, Int.reduceEq, Int.reduceBEq, Int.reduceBNe, load_ptr, ldV_some, cellAt_cells, List.getElem?_cons_zero, List.getElem?_cons_succ, store_ptr, stO_some, setAt_0, setAt_1, setAt_2, setAt_3, setAt_4, setAt_5, setAt_6, setAt_7, setAt_8, setAt_9, setAt_10, setAt_11, setAt_12, cells_int, cells_bool, cells_str, cells_nils, cells_nilp, cells_ptr, cells_sl, cells_u8, cells_u16, cells_agg, get_upd_is, Option.isSome_some, upd_upd, ev1_nchkV, ev1_faV, nchkV_ptr, faV_ptr, ev1_extV, extV_tup, eqptr_nil, eqptr_ptr, Nat.zero_add, Nat.add_zero, qPL0, qPL1, qPL2, qPL3, qPL4, qPL5, beq_self_eq_true]
  · have hm : (Pn.mk seat count cmd 1 sort nr ns pf body).okc = false := by
      rw [Bool.eq_false_iff]; intro hq; apply h
      simp [Pn.okc, Pn.ctl, any1, Ct.may, few, Pn.exact] at hq
      omega
    rw [if_neg (by simp [hm])]
    cases pf <;>
    · simp only [M34, q1, q2, qES0, qES1, qES2, env0, List.length_cons, List.length_nil, Nat.reduceAdd, Nat.reduceSub, List.replicate, List.cons_append, List.nil_append, opd, Env.put, Env.at, List.set_cons_zero, List.set_cons_succ, List.getD_cons_zero, List.getD_cons_succ, freezeL, resVs, oneOr, Option.map_some, Option.map_none, List.map_cons, List.map_nil, if_true, if_false, Bool.not_true, Bool.not_false, Bool.false_eq_true, reduceIte, decide_true, decide_false, Int.reduceLT, Int.reduceLE, Int.reduceGT, Int.reduceGE, Int.reduceEq, Int.reduceBEq, Int.reduceBNe, load_ptr, ldV_some, cellAt_cells, List.getElem?_cons_zero, List.getElem?_cons_succ, store_ptr, stO_some, setAt_0, setAt_1, setAt_2, setAt_3, setAt_4, setAt_5, setAt_6, setAt_7, setAt_8, setAt_9, setAt_10, setAt_11, setAt_12, cells_int, cells_bool, cells_str, cells_nils, cells_nilp, cells_ptr, cells_sl, cells_u8, cells_u16, cells_agg, get_upd_is, Option.isSome_some, upd_upd, ev1_nchkV, ev1_faV, nchkV_ptr, faV_ptr, ev1_extV, extV_tup, eqptr_nil, eqptr_ptr, Nat.zero_add, Nat.add_zero, qPL0, qPL1, qPL2, qPL3, qPL4, qPL5, beq_self_eq_true]
      repeat' split
      all_goals first | rfl | (exfalso; omega)
theorem rctl_2 (seat count sort nr ns : Int) (cmd pf : Bool) (body : List UInt8) (s : St) :
    valR (evT 1000 34 [.agg (Pn.mk seat count cmd 2 sort nr ns pf body).cells] (s.pl [])) = some (if (Pn.mk seat count cmd 2 sort nr ns pf body).okc = true then .tup [.int .u8 (Pn.mk seat count cmd 2 sort nr ns pf body).ctl.num, .bool true] else .tup [.int .u8 0, .bool false]) := by
  have q1 : ((2 : Int) == 1) = false := rfl
  have q2 : ((2 : Int) == 3) = false := rfl
  rw [show (1000 : Nat) = 999 + 1 from rfl, evT_in rfl tab34]
  simp only [Pn.cells]
  by_cases h : 0 ≤ nr ∧ nr ≤ 7 ∧ 0 ≤ sort ∧ sort ≤ 2 ∧ ns = 0
  · obtain ⟨h1, h2, h3, h4, h5⟩ := h
    have a1 : (nr ≥ 0) = True := eq_true h1
    have a2 : (nr ≤ 7) = True := eq_true h2
    have a3 : (sort ≥ 0) = True := eq_true h3
    have a4 : (sort ≤ 2) = True := eq_true h4
    subst h5
    have hm : (Pn.mk seat count cmd 2 sort nr 0 pf body).okc = true := by simp [Pn.okc, Pn.ctl, any1, Ct.may, few, Pn.exact]; omega
    rw [if_pos hm]
    have w1 : IntKind.i64.wrap (nr * 32) = nr * 32 := wrapI _ (by omega) (by omega)
    have w2 : IntKind.i64.wrap (sort * 4) = sort * 4 := wrapI _ (by omega) (by omega)
    cases pf
    · have w3 : IntKind.i64.wrap (0 + nr * 32) = nr * 32 := (wrapI _ (by omega) (by omega)).trans (by omega)
      have w4 : IntKind.i64.wrap (nr * 32 + sort * 4) = nr * 32 + sort * 4 := wrapI _ (by omega) (by omega)
      have w4' : IntKind.i64.wrap (nr * 32 + sort * 4 + 1) = nr * 32 + sort * 4 + 1 := wrapI _ (by omega) (by omega)
      have w5 := u8_wrap (nr * 32 + sort * 4 + 1) (by omega) (by omega)
      simp only [M34, Pn.ctl, any1, Ct.num, a1, a2, a3, a4, w1, w2, w3, w4, w4', w5, q1, q2, qES0, qES1, qES2, env0, List.length_cons, List.length_nil, Nat.reduceAdd, Nat.reduceSub, List.replicate, List.cons_append, List.nil_append, opd, Env.put, Env.at, List.set_cons_zero, List.set_cons_succ, List.getD_cons_zero, List.getD_cons_succ, freezeL, resVs, oneOr, Option.map_some, Option.map_none, List.map_cons, List.map_nil, if_true, if_false, Bool.not_true, Bool.not_false, Bool.false_eq_true, reduceIte, decide_true, decide_false, Int.reduceLT, Int.reduceLE, Int.reduceGT, Int.reduceGE, Int.reduceEq, Int.reduceBEq, Int.reduceBNe, load_ptr, ldV_some, cellAt_cells, List.getElem?_cons_zero, List.getElem?_cons_succ, store_ptr, stO_some, setAt_0, setAt_1, setAt_2, setAt_3, setAt_4, setAt_5, setAt_6, setAt_7, setAt_8, setAt_9, setAt_10, setAt_11, setAt_12, cells_int, cells_bool, cells_str, cells_nils, cells_nilp, cells_ptr, cells_sl, cells_u8, cells_u16, cells_agg, get_upd_is, Option.isSome_some, upd_upd, ev1_nchkV, ev1_faV, nchkV_ptr, faV_ptr, ev1_extV, extV_tup, eqptr_nil, eqptr_ptr, Nat.zero_add, Nat.add_zero, qPL0, qPL1, qPL2, qPL3, qPL4, qPL5, beq_self_eq_true, Int.add_zero]
    · have w3 : IntKind.i64.wrap (16 + nr * 32) = 16 + nr * 32 := wrapI _ (by omega) (by omega)
      have w4 : IntKind.i64.wrap (16 + nr * 32 + sort * 4) = 16 + nr * 32 + sort * 4 := wrapI _ (by omega) (by omega)
      have w4' : IntKind.i64.wrap (16 + nr * 32 + sort * 4 + 1) = nr * 32 + sort * 4 + 1 + 16 := (wrapI _ (by omega) (by omega)).trans (by omega)
      have w5 := u8_wrap (nr * 32 + sort * 4 + 1 + 16) (by omega) (by omega)
      simp only [M34, Pn.ctl, any1, Ct.num, a1, a2, a3, a4, w1, w2, w3, w4, w4', w5, q1, q2, qES0, qES1, qES2, env0, List.length_cons, List.length_nil, Nat.reduceAdd, Nat.reduceSub, List.replicate, List.cons_append, List.nil_append, opd, Env.put, Env.at, List.set_cons_zero, List.set_cons_succ, List.getD_cons_zero, List.getD_cons_succ, freezeL, resVs, oneOr, Option.map_some, Option.map_none, List.map_cons, List.map_nil, if_true, if_false, Bool.not_true, Bool.not_false, Bool.false_eq_true, reduceIte, decide_true, decide_false, Int.reduceLT, Int.reduceLE, Int.reduceGT, Int.reduceGE, Int.reduceEq, Int.reduceBEq, Int.reduceBNe, load_ptr, ldV_some, cellAt_cells, List.getElem?_cons_zero, List.getElem?_cons_succ, store_ptr, stO_some, setAt_0, setAt_1, setAt_2, setAt_3, setAt_4, setAt_5, setAt_6, setAt_7, setAt_8, setAt_9, setAt_10, setAt_11, setAt_12, cells_int, cells_bool, cells_str, cells_nils, cells_nilp, cells_ptr, cells_sl, cells_u8, cells_u16, cells_agg, get_upd_is, Option.isSome_some, upd_upd, ev1_nchkV, ev1_faV, nchkV_ptr, faV_ptr, ev1_extV, extV_tup, eqptr_nil, eqptr_ptr, Nat.zero_add, Nat.add_zero, qPL0, qPL1, qPL2, qPL3, qPL4, qPL5, beq_self_eq_true]
  · have hm : (Pn.mk seat count cmd 2 sort nr ns pf body).okc = false := by
      rw [Bool.eq_false_iff]; intro hq; apply h
      simp [Pn.okc, Pn.ctl, any1, Ct.may, few, Pn.exact] at hq
      omega
    rw [if_neg (by simp [hm])]
    cases pf <;>
    · simp only [M34, q1, q2, qES0, qES1, qES2, env0, List.length_cons, List.length_nil, Nat.reduceAdd, Nat.reduceSub, List.replicate, List.cons_append, List.nil_append, opd, Env.put, Env.at, List.set_cons_zero, List.set_cons_succ, List.getD_cons_zero, List.getD_cons_succ, freezeL, resVs, oneOr, Option.map_some, Option.map_none, List.map_cons, List.map_nil, if_true, if_false, Bool.not_true, Bool.not_false, Bool.false_eq_true, reduceIte, decide_true, decide_false, Int.reduceLT, Int.reduceLE, Int.reduceGT, Int.reduceGE, Int.reduceEq, Int.reduceBEq, Int.reduceBNe, load_ptr, ldV_some, cellAt_cells, List.getElem?_cons_zero, List.getElem?_cons_succ, store_ptr, stO_some, setAt_0, setAt_1, setAt_2, setAt_3, setAt_4, setAt_5, setAt_6, setAt_7, setAt_8, setAt_9, setAt_10, setAt_11, setAt_12, cells_int, cells_bool, cells_str, cells_nils, cells_nilp, cells_ptr, cells_sl, cells_u8, cells_u16, cells_agg, get_upd_is, Option.isSome_some, upd_upd, ev1_nchkV, ev1_faV, nchkV_ptr, faV_ptr, ev1_extV, extV_tup, eqptr_nil, eqptr_ptr, Nat.zero_add, Nat.add_zero, qPL0, qPL1, qPL2, qPL3, qPL4, qPL5, beq_self_eq_true]
      repeat' split
      all_goals first | rfl | (exfalso; omega)
theorem rctl_3 (seat count sort nr ns : Int) (cmd pf : Bool) (body : List UInt8) (s : St) :
    valR (evT 1000 34 [.agg (Pn.mk seat count cmd 3 sort nr ns pf body).cells] (s.pl [])) = some (if (Pn.mk seat count cmd 3 sort nr ns pf body).okc = true then .tup [.int .u8 (Pn.mk seat count cmd 3 sort nr ns pf body).ctl.num, .bool true] else .tup [.int .u8 0, .bool false]) := by
  have q1 : ((3 : Int) == 1) = false := rfl
  have q2 : ((3 : Int) == 2) = false := rfl
  rw [show (1000 : Nat) = 999 + 1 from rfl, evT_in rfl tab34]
  simp only [Pn.cells]
  have hcd := codes67 998
  by_cases h : 1 ≤ sort ∧ sort ≤ 7 ∧ nr = 0 ∧ ns = 0
  · obtain ⟨h1, h2, h3, h4⟩ := h
    have a3 : (sort ≥ 1) = True := eq_true h1
    have a4 : (sort ≤ 7) = True := eq_true h2
    subst h3 h4
    have hm : (Pn.mk seat count cmd 3 sort 0 0 pf body).okc = true := by simp [Pn.okc, Pn.ctl, any1, Ct.may, few, Pn.exact]; omega
    rw [if_pos hm]
    obtain ⟨j, hj, hj1, hj2⟩ : ∃ j : Nat, sort = (j : Int) ∧ 1 ≤ j ∧ j ≤ 7 := ⟨sort.toNat, by omega, by omega, by omega⟩
    subst hj
    obtain ⟨rp, hc1, hc2⟩ : ∃ rp, (∀ tk, ixaV 1 (.sl [.int .i64 0, .int .i64 47, .int .i64 131, .int .i64 99, .int .i64 15, .int .i64 67, .int .i64 139, .int .i64 143] 8 tk) (.int .i64 (j : Int)) = some (.rp rp)) ∧ Ab.cut rp 0 none = some (.int .i64 (code j)) := by
      rcases j with _ | _ | _ | _ | _ | _ | _ | _ | j
      all_goals first | omega | exact ⟨_, fun _ => rfl, rfl⟩
    have hcode : 0 ≤ code j ∧ code j ≤ 143 := by
      unfold code
      repeat' split
      all_goals omega
    obtain ⟨cd, hcd1⟩ : ∃ cd, code (j : Int) = cd := ⟨_, rfl⟩
    rw [hcd1] at hc2 hcode
    cases pf
    · have w3 : IntKind.i64.wrap (0 + cd) = cd := (wrapI _ (by omega) (by omega)).trans (by omega)
      have w5 := u8_wrap cd (by omega) (by omega)
      simp only [M34, Pn.ctl, any1, Ct.num, a3, a4, hcd, hcd1, hc1, hc2, w3, w5, q1, q2, qES0, qES1, qES2, env0, List.length_cons, List.length_nil, Nat.reduceAdd, Nat.reduceSub, List.replicate, List.cons_append, List.nil_append, opd, Env.put, Env.at, List.set_cons_zero, List.set_cons_succ, List.getD_cons_zero, List.getD_cons_succ, freezeL, resVs, oneOr, Option.map_some, Option.map_none, List.map_cons, List.map_nil, if_true, if_false, Bool.not_true, Bool.not_false, Bool.false_eq_true, reduceIte, decide_true, decide_false, Int.reduceLT, Int.reduceLE, Int.reduceGT, Int.reduceGE, Int.reduceEq, Int.reduceBEq, Int.reduceBNe, load_ptr, ldV_some, cellAt_cells, List.getElem?_cons_zero, List.getElem?_cons_succ, store_ptr, stO_some, setAt_0, setAt_1, setAt_2, setAt_3, setAt_4, setAt_5, setAt_6, setAt_7, setAt_8, setAt_9, setAt_10, setAt_11, setAt_12, cells_int, cells_bool, cells_str, cells_nils, cells_nilp, cells_ptr, cells_sl, cells_u8, cells_u16, cells_agg, get_upd_is, Option.isSome_some, upd_upd, ev1_nchkV, ev1_faV, nchkV_ptr, faV_ptr, ev1_extV, extV_tup, eqptr_nil, eqptr_ptr, Nat.zero_add, Nat.add_zero, qPL0, qPL1, qPL2, qPL3, qPL4, qPL5, beq_self_eq_true, qED0, qED1, placeR, Int.add_zero]
      rw [drawR_ok]; case h => simp (config := { decide := true }) [calm, calmPair, calmTwo, List.range, List.range.loop, sameO_refl, plg0, plg1, plg2, plg3, plg4, plg5, plg6, plg7, plg8, plg9, plg10, plg11, plg12, plg13]
      simp only [w3, w5, qES0, qES1, qES2, env0, List.length_cons, List.length_nil, Nat.reduceAdd, Nat.reduceSub, List.replicate, List.cons_append, List.nil_append, opd, Env.put, Env.at, List.set_cons_zero, List.set_cons_succ, List.getD_cons_zero, List.getD_cons_succ, freezeL, resVs, oneOr, Option.map_some, Option.map_none, List.map_cons, List.map_nil, if_true, if_false, Bool.not_true, Bool.not_false, Bool.false_eq_true, reduceIte, decide_true, decide_false, Int.reduceLT, Int.reduceLE, Int.reduceGT, Int.reduceGE, Int.reduceEq, Int.reduceBEq, Int.reduceBNe, load_ptr, ldV_some, cellAt_cells, List.getElem?_cons_zero, List.getElem?_cons_succ, store_ptr, stO_some, setAt_0, setAt_1, setAt_2, setAt_3, setAt_4, setAt_5, setAt_6, setAt_7, setAt_8, setAt_9, setAt_10, setAt_11, setAt_12, cells_int, cells_bool, cells_str, cells_nils, cells_nilp, cells_ptr, cells_sl, cells_u8, cells_u16, cells_agg, get_upd_is, Option.isSome_some, upd_upd, ev1_nchkV, ev1_faV, nchkV_ptr, faV_ptr, ev1_extV, extV_tup, eqptr_nil, eqptr_ptr, Nat.zero_add, Nat.add_zero, qPL0, qPL1, qPL2, qPL3, qPL4, qPL5, beq_self_eq_true]
    · have w3 : IntKind.i64.wrap (16 + cd) = cd + 16 := (wrapI _ (by omega) (by omega)).trans (by omega)
      have w5 := u8_wrap (cd + 16) (by omega) (by omega)
      simp only [M34, Pn.ctl, any1, Ct.num, a3, a4, hcd, hcd1, hc1, hc2, w3, w5, q1, q2, qES0, qES1, qES2, env0, List.length_cons, List.length_nil, Nat.reduceAdd, Nat.reduceSub, List.replicate, List.cons_append, List.nil_append, opd, Env.put, Env.at, List.set_cons_zero, List.set_cons_succ, List.getD_cons_zero, List.getD_cons_succ, freezeL, resVs, oneOr, Option.map_some, Option.map_none, List.map_cons, List.map_nil, if_true, if_false, Bool.not_true, Bool.not_false, Bool.false_eq_true, reduceIte, decide_true, decide_false, Int.reduceLT, Int.reduceLE, Int.reduceGT, Int.reduceGE, Int.reduceEq, Int.reduceBEq, Int.reduceBNe, load_ptr, ldV_some, cellAt_cells, List.getElem?_cons_zero, List.getElem?_cons_succ, store_ptr, stO_some, setAt_0, setAt_1, setAt_2, setAt_3, setAt_4, setAt_5, setAt_6, setAt_7, setAt_8, setAt_9, setAt_10, setAt_11, setAt_12, cells_int, cells_bool, cells_str, cells_nils, cells_nilp, cells_ptr, cells_sl, cells_u8, cells_u16, cells_agg, get_upd_is, Option.isSome_some, upd_upd, ev1_nchkV, ev1_faV, nchkV_ptr, faV_ptr, ev1_extV, extV_tup, eqptr_nil, eqptr_ptr, Nat.zero_add, Nat.add_zero, qPL0, qPL1, qPL2, qPL3, qPL4, qPL5, beq_self_eq_true, qED0, qED1, placeR]
      rw [drawR_ok]; case h => simp (config := { decide := true }) [calm, calmPair, calmTwo, List.range, List.range.loop, sameO_refl, plg0, plg1, plg2, plg3, plg4, plg5, plg6, plg7, plg8, plg9, plg10, plg11, plg12, plg13]
      simp only [w3, w5, qES0, qES1, qES2, env0, List.length_cons, List.length_nil, Nat.reduceAdd, Nat.reduceSub, List.replicate, List.cons_append, List.nil_append, opd, Env.put, Env.at, List.set_cons_zero, List.set_cons_succ, List.getD_cons_zero, List.getD_cons_succ, freezeL, resVs, oneOr, Option.map_some, Option.map_none, List.map_cons, List.map_nil, if_true, if_false, Bool.not_true, Bool.not_false, Bool.false_eq_true, reduceIte, decide_true, decide_false, Int.reduceLT, Int.reduceLE, Int.reduceGT, Int.reduceGE, Int.reduceEq, Int.reduceBEq, Int.reduceBNe, load_ptr, ldV_some, cellAt_cells, List.getElem?_cons_zero, List.getElem?_cons_succ, store_ptr, stO_some, setAt_0, setAt_1, setAt_2, setAt_3, setAt_4, setAt_5, setAt_6, setAt_7, setAt_8, setAt_9, setAt_10, setAt_11, setAt_12, cells_int, cells_bool, cells_str, cells_nils, cells_nilp, cells_ptr, cells_sl, cells_u8, cells_u16, cells_agg, get_upd_is, Option.isSome_some, upd_upd, ev1_nchkV, ev1_faV, nchkV_ptr, faV_ptr, ev1_extV, extV_tup, eqptr_nil, eqptr_ptr, Nat.zero_add, Nat.add_zero, qPL0, qPL1, qPL2, qPL3, qPL4, qPL5, beq_self_eq_true]
  · have hm : (Pn.mk seat count cmd 3 sort nr ns pf body).okc = false := by
      rw [Bool.eq_false_iff]; intro hq; apply h
      simp [Pn.okc, Pn.ctl, any1, Ct.may, few, Pn.exact] at hq
      omega
    rw [if_neg (by simp [hm])]
    cases pf <;>
    · simp only [M34, q1, q2, hcd, qES0, qES1, qES2, env0, List.length_cons, List.length_nil, Nat.reduceAdd, Nat.reduceSub, List.replicate, List.cons_append, List.nil_append, opd, Env.put, Env.at, List.set_cons_zero, List.set_cons_succ, List.getD_cons_zero, List.getD_cons_succ, freezeL, resVs, oneOr, Option.map_some, Option.map_none, List.map_cons, List.map_nil, if_true, if_false, Bool.not_true, Bool.not_false, Bool.false_eq_true, reduceIte, decide_true, decide_false, Int.reduceLT, Int.reduceLE, Int.reduceGT, Int.reduceGE, Int.reduceEq, Int.reduceBEq, Int.reduceBNe, load_ptr, ldV_some, cellAt_cells, List.getElem?_cons_zero, List.getElem?_cons_succ, store_ptr, stO_some, setAt_0, setAt_1, setAt_2, setAt_3, setAt_4, setAt_5, setAt_6, setAt_7, setAt_8, setAt_9, setAt_10, setAt_11, setAt_12, cells_int, cells_bool, cells_str, cells_nils, cells_nilp, cells_ptr, cells_sl, cells_u8, cells_u16, cells_agg, get_upd_is, Option.isSome_some, upd_upd, ev1_nchkV, ev1_faV, nchkV_ptr, faV_ptr, ev1_extV, extV_tup, eqptr_nil, eqptr_ptr, Nat.zero_add, Nat.add_zero, qPL0, qPL1, qPL2, qPL3, qPL4, qPL5, beq_self_eq_true, qED0, qED1, placeR]
      repeat' split
      all_goals first | rfl | (exfalso; omega)
theorem rctl_0 (seat count kind sort nr ns : Int) (cmd pf : Bool) (body : List UInt8) (s : St) (h1 : kind ≠ 1) (h2 : kind ≠ 2) (h3 : kind ≠ 3) :
    valR (evT 1000 34 [.agg (Pn.mk seat count cmd kind sort nr ns pf body).cells] (s.pl [])) = some (if (Pn.mk seat count cmd kind sort nr ns pf body).okc = true then .tup [.int .u8 (Pn.mk seat count cmd kind sort nr ns pf body).ctl.num, .bool true] else .tup [.int .u8 0, .bool false]) := by
  have q1 : (kind == 1) = false := beq_eq_false_iff_ne.2 h1
  have q2 : (kind == 2) = false := beq_eq_false_iff_ne.2 h2
  have q3 : (kind == 3) = false := beq_eq_false_iff_ne.2 h3
  have hm : (Pn.mk seat count cmd kind sort nr ns pf body).okc = false := by simp [Pn.okc, Pn.ctl, any1, Ct.may, h1, h2, h3]
  rw [show (1000 : Nat) = 999 + 1 from rfl, evT_in rfl tab34, if_neg (by simp [hm])]
  simp only [Pn.cells]
  cases pf <;>
  simp only [M34, q1, q2, q3, qES0, qES1, qES2, env0, List.length_cons, List.length_nil, Nat.reduceAdd, Nat.reduceSub, List.replicate, List.cons_append, List.nil_append, opd, Env.put, Env.at, List.set_cons_zero, List.set_cons_succ, List.getD_cons_zero, List.getD_cons_succ, freezeL, resVs, oneOr, Option.map_some, Option.map_none, List.map_cons, List.map_nil, if_true, if_false, Bool.not_true, Bool.not_false, Bool.false_eq_true, reduceIte, decide_true, decide_false, Int.reduceLT, Int.reduceLE, Int.reduceGT, Int.reduceGE, Int.reduceEq, Int.reduceBEq, Int.reduceBNe, load_ptr, ldV_some, cellAt_cells, List.getElem?_cons_zero, List.getElem?_cons_succ, store_ptr, stO_some, setAt_0, setAt_1, setAt_2, setAt_3, setAt_4, setAt_5, setAt_6, setAt_7, setAt_8, setAt_9, setAt_10, setAt_11, setAt_12, cells_int, cells_bool, cells_str, cells_nils, cells_nilp, cells_ptr, cells_sl, cells_u8, cells_u16, cells_agg, get_upd_is, Option.isSome_some, upd_upd, ev1_nchkV, ev1_faV, nchkV_ptr, faV_ptr, ev1_extV, extV_tup, eqptr_nil, eqptr_ptr, Nat.zero_add, Nat.add_zero, qPL0, qPL1, qPL2, qPL3, qPL4, qPL5, beq_self_eq_true]
theorem rctl_pure : PureOk (evT 1000) 34 hRCtl := pureOk_of (by
  intro args s v h
  unfold hRCtl at h
  split at h
  · obtain ⟨p, hp, rfl⟩ := one_of h
    rw [toPn_of hp]
    refine ⟨by split <;> rfl, by simp [flatL, p.flat], ?_⟩
    obtain ⟨seat, count, cmd, kind, sort, nr, ns, pf, body⟩ := p
    by_cases h1 : kind = 1
    · subst h1; exact rctl_1 seat count sort nr ns cmd pf body St.nil
    by_cases h2 : kind = 2
    · subst h2; exact rctl_2 seat count sort nr ns cmd pf body St.nil
    by_cases h3 : kind = 3
    · subst h3; exact rctl_3 seat count sort nr ns cmd pf body St.nil
    exact rctl_0 seat count kind sort nr ns cmd pf body St.nil h1 h2 h3
  · cases h)
def hSame : List AV → St → Option AV
  | [v, u], _ => match toCt v, toCt u with
    | some c, some d => some (.bool (decide (c = d) && c.is))
    | _, _ => if (foreign v && Ab.flat v && Ab.flat u) = true then some (.bool false) else none
  | _, _ => none
theorem same_foreign (t : Nat) (w u : AV) (h : foreign (.iface t w) = true) (s : St) : valR (evT 1000 71 [.iface t w, u] (s.pl [])) = some (.bool false) := by
  obtain ⟨_, _, hv, t1, t2, t3⟩ := foreign_of h
  rw [show (1000 : Nat) = 999 + 1 from rfl, evT_in rfl tab71]
  simp only [M71, t1, t2, t3, qES0, qES1, qES2, env0, List.length_cons, List.length_nil, Nat.reduceAdd, Nat.reduceSub, List.replicate, List.cons_append, List.nil_append, opd, Env.put, Env.at, List.set_cons_zero, List.set_cons_succ, List.getD_cons_zero, List.getD_cons_succ, freezeL, resVs, oneOr, Option.map_some, Option.map_none, List.map_cons, List.map_nil, if_true, if_false, Bool.not_true, Bool.not_false, Bool.false_eq_true, reduceIte, decide_true, decide_false, Int.reduceLT, Int.reduceLE, Int.reduceGT, Int.reduceGE, Int.reduceEq, Int.reduceBEq, Int.reduceBNe, load_ptr, ldV_some, cellAt_cells, List.getElem?_cons_zero, List.getElem?_cons_succ, store_ptr, stO_some, setAt_0, setAt_1, setAt_2, setAt_3, setAt_4, setAt_5, setAt_6, setAt_7, setAt_8, setAt_9, setAt_10, setAt_11, setAt_12, cells_int, cells_bool, cells_str, cells_nils, cells_nilp, cells_ptr, cells_sl, cells_u8, cells_u16, cells_agg, get_upd_is, Option.isSome_some, upd_upd, ev1_nchkV, ev1_faV, nchkV_ptr, faV_ptr, ev1_extV, extV_tup, eqptr_nil, eqptr_ptr, Nat.zero_add, Nat.add_zero, qPL0, qPL1, qPL2, qPL3, qPL4, qPL5, beq_self_eq_true]
theorem eqI (a b a' b' : Int) (p p' : Bool) : eqAV (.flat (.many [.i, .i, .b])) (.agg [.int .i64 a, .int .i64 b, .bool p]) (.agg [.int .i64 a', .int .i64 b', .bool p']) = some (decide (a = a' ∧ b = b' ∧ p = p')) := by
  simp only [eqAV, eqFl, eqScL_i, eqScL_b]
  by_cases h1 : a = a' <;> by_cases h2 : b = b' <;> cases p <;> cases p' <;> simp [h1, h2]
theorem eqU (a a' : Int) (p p' : Bool) : eqAV (.flat (.many [.i, .b])) (.agg [.int .i64 a, .bool p]) (.agg [.int .i64 a', .bool p']) = some (decide (a = a' ∧ p = p')) := by
  simp only [eqAV, eqFl, eqScL_i, eqScL_b]
  by_cases h1 : a = a' <;> cases p <;> cases p' <;> simp [h1]
theorem same_val (c d : Ct) (s : St) : valR (evT 1000 71 [c.av, d.av] (s.pl [])) = some (.bool (decide (c = d) && c.is)) := by
  rw [show (1000 : Nat) = 999 + 1 from rfl, evT_in rfl tab71]
  cases c with
  | n => simp only [M71, Ct.av, Ct.is, Bool.and_false, qES0, qES1, qES2, env0, List.length_cons, List.length_nil, Nat.reduceAdd, Nat.reduceSub, List.replicate, List.cons_append, List.nil_append, opd, Env.put, Env.at, List.set_cons_zero, List.set_cons_succ, List.getD_cons_zero, List.getD_cons_succ, freezeL, resVs, oneOr, Option.map_some, Option.map_none, List.map_cons, List.map_nil, if_true, if_false, Bool.not_true, Bool.not_false, Bool.false_eq_true, reduceIte, decide_true, decide_false, Int.reduceLT, Int.reduceLE, Int.reduceGT, Int.reduceGE, Int.reduceEq, Int.reduceBEq, Int.reduceBNe, load_ptr, ldV_some, cellAt_cells, List.getElem?_cons_zero, List.getElem?_cons_succ, store_ptr, stO_some, setAt_0, setAt_1, setAt_2, setAt_3, setAt_4, setAt_5, setAt_6, setAt_7, setAt_8, setAt_9, setAt_10, setAt_11, setAt_12, cells_int, cells_bool, cells_str, cells_nils, cells_nilp, cells_ptr, cells_sl, cells_u8, cells_u16, cells_agg, get_upd_is, Option.isSome_some, upd_upd, ev1_nchkV, ev1_faV, nchkV_ptr, faV_ptr, ev1_extV, extV_tup, eqptr_nil, eqptr_ptr, Nat.zero_add, Nat.add_zero, qPL0, qPL1, qPL2, qPL3, qPL4, qPL5, beq_self_eq_true]
  | i a b p =>
    cases d with
    | i a' b' p' => simp only [M71, Ct.av, Ct.is, Ct.i.injEq, Bool.and_true, eqI, qES0, qES1, qES2, env0, List.length_cons, List.length_nil, Nat.reduceAdd, Nat.reduceSub, List.replicate, List.cons_append, List.nil_append, opd, Env.put, Env.at, List.set_cons_zero, List.set_cons_succ, List.getD_cons_zero, List.getD_cons_succ, freezeL, resVs, oneOr, Option.map_some, Option.map_none, List.map_cons, List.map_nil, if_true, if_false, Bool.not_true, Bool.not_false, Bool.false_eq_true, reduceIte, decide_true, decide_false, Int.reduceLT, Int.reduceLE, Int.reduceGT, Int.reduceGE, Int.reduceEq, Int.reduceBEq, Int.reduceBNe, load_ptr, ldV_some, cellAt_cells, List.getElem?_cons_zero, List.getElem?_cons_succ, store_ptr, stO_some, setAt_0, setAt_1, setAt_2, setAt_3, setAt_4, setAt_5, setAt_6, setAt_7, setAt_8, setAt_9, setAt_10, setAt_11, setAt_12, cells_int, cells_bool, cells_str, cells_nils, cells_nilp, cells_ptr, cells_sl, cells_u8, cells_u16, cells_agg, get_upd_is, Option.isSome_some, upd_upd, ev1_nchkV, ev1_faV, nchkV_ptr, faV_ptr, ev1_extV, extV_tup, eqptr_nil, eqptr_ptr, Nat.zero_add, Nat.add_zero, qPL0, qPL1, qPL2, qPL3, qPL4, qPL5, beq_self_eq_true, qED0, qED1, placeR]
    | s a' b' p' => simp only [M71, Ct.av, Ct.is, reduceCtorEq, Bool.and_true, tas_6484, tas_6486, tas_8464, tas_8486, tas_8664, tas_8684, qES0, qES1, qES2, env0, List.length_cons, List.length_nil, Nat.reduceAdd, Nat.reduceSub, List.replicate, List.cons_append, List.nil_append, opd, Env.put, Env.at, List.set_cons_zero, List.set_cons_succ, List.getD_cons_zero, List.getD_cons_succ, freezeL, resVs, oneOr, Option.map_some, Option.map_none, List.map_cons, List.map_nil, if_true, if_false, Bool.not_true, Bool.not_false, Bool.false_eq_true, reduceIte, decide_true, decide_false, Int.reduceLT, Int.reduceLE, Int.reduceGT, Int.reduceGE, Int.reduceEq, Int.reduceBEq, Int.reduceBNe, load_ptr, ldV_some, cellAt_cells, List.getElem?_cons_zero, List.getElem?_cons_succ, store_ptr, stO_some, setAt_0, setAt_1, setAt_2, setAt_3, setAt_4, setAt_5, setAt_6, setAt_7, setAt_8, setAt_9, setAt_10, setAt_11, setAt_12, cells_int, cells_bool, cells_str, cells_nils, cells_nilp, cells_ptr, cells_sl, cells_u8, cells_u16, cells_agg, get_upd_is, Option.isSome_some, upd_upd, ev1_nchkV, ev1_faV, nchkV_ptr, faV_ptr, ev1_extV, extV_tup, eqptr_nil, eqptr_ptr, Nat.zero_add, Nat.add_zero, qPL0, qPL1, qPL2, qPL3, qPL4, qPL5, beq_self_eq_true]
    | u a' p' => simp only [M71, Ct.av, Ct.is, reduceCtorEq, Bool.and_true, tas_6484, tas_6486, tas_8464, tas_8486, tas_8664, tas_8684, qES0, qES1, qES2, env0, List.length_cons, List.length_nil, Nat.reduceAdd, Nat.reduceSub, List.replicate, List.cons_append, List.nil_append, opd, Env.put, Env.at, List.set_cons_zero, List.set_cons_succ, List.getD_cons_zero, List.getD_cons_succ, freezeL, resVs, oneOr, Option.map_some, Option.map_none, List.map_cons, List.map_nil, if_true, if_false, Bool.not_true, Bool.not_false, Bool.false_eq_true, reduceIte, decide_true, decide_false, Int.reduceLT, Int.reduceLE, Int.reduceGT, Int.reduceGE, Int.reduceEq, Int.reduceBEq, Int.reduceBNe, load_ptr, ldV_some, cellAt_cells, List.getElem?_cons_zero, List.getElem?_cons_succ, store_ptr, stO_some, setAt_0, setAt_1, setAt_2, setAt_3, setAt_4, setAt_5, setAt_6, setAt_7, setAt_8, setAt_9, setAt_10, setAt_11, setAt_12, cells_int, cells_bool, cells_str, cells_nils, cells_nilp, cells_ptr, cells_sl, cells_u8, cells_u16, cells_agg, get_upd_is, Option.isSome_some, upd_upd, ev1_nchkV, ev1_faV, nchkV_ptr, faV_ptr, ev1_extV, extV_tup, eqptr_nil, eqptr_ptr, Nat.zero_add, Nat.add_zero, qPL0, qPL1, qPL2, qPL3, qPL4, qPL5, beq_self_eq_true]
    | n => simp only [M71, Ct.av, Ct.is, reduceCtorEq, Bool.and_true, tas_6484, tas_6486, tas_8464, tas_8486, tas_8664, tas_8684, qES0, qES1, qES2, env0, List.length_cons, List.length_nil, Nat.reduceAdd, Nat.reduceSub, List.replicate, List.cons_append, List.nil_append, opd, Env.put, Env.at, List.set_cons_zero, List.set_cons_succ, List.getD_cons_zero, List.getD_cons_succ, freezeL, resVs, oneOr, Option.map_some, Option.map_none, List.map_cons, List.map_nil, if_true, if_false, Bool.not_true, Bool.not_false, Bool.false_eq_true, reduceIte, decide_true, decide_false, Int.reduceLT, Int.reduceLE, Int.reduceGT, Int.reduceGE, Int.reduceEq, Int.reduceBEq, Int.reduceBNe, load_ptr, ldV_some, cellAt_cells, List.getElem?_cons_zero, List.getElem?_cons_succ, store_ptr, stO_some, setAt_0, setAt_1, setAt_2, setAt_3, setAt_4, setAt_5, setAt_6, setAt_7, setAt_8, setAt_9, setAt_10, setAt_11, setAt_12, cells_int, cells_bool, cells_str, cells_nils, cells_nilp, cells_ptr, cells_sl, cells_u8, cells_u16, cells_agg, get_upd_is, Option.isSome_some, upd_upd, ev1_nchkV, ev1_faV, nchkV_ptr, faV_ptr, ev1_extV, extV_tup, eqptr_nil, eqptr_ptr, Nat.zero_add, Nat.add_zero, qPL0, qPL1, qPL2, qPL3, qPL4, qPL5, beq_self_eq_true]
  | s a b p =>
    cases d with
    | s a' b' p' => simp only [M71, Ct.av, Ct.is, Ct.s.injEq, Bool.and_true, eqI, tas_6484, tas_6486, tas_8464, tas_8486, tas_8664, tas_8684, qES0, qES1, qES2, env0, List.length_cons, List.length_nil, Nat.reduceAdd, Nat.reduceSub, List.replicate, List.cons_append, List.nil_append, opd, Env.put, Env.at, List.set_cons_zero, List.set_cons_succ, List.getD_cons_zero, List.getD_cons_succ, freezeL, resVs, oneOr, Option.map_some, Option.map_none, List.map_cons, List.map_nil, if_true, if_false, Bool.not_true, Bool.not_false, Bool.false_eq_true, reduceIte, decide_true, decide_false, Int.reduceLT, Int.reduceLE, Int.reduceGT, Int.reduceGE, Int.reduceEq, Int.reduceBEq, Int.reduceBNe, load_ptr, ldV_some, cellAt_cells, List.getElem?_cons_zero, List.getElem?_cons_succ, store_ptr, stO_some, setAt_0, setAt_1, setAt_2, setAt_3, setAt_4, setAt_5, setAt_6, setAt_7, setAt_8, setAt_9, setAt_10, setAt_11, setAt_12, cells_int, cells_bool, cells_str, cells_nils, cells_nilp, cells_ptr, cells_sl, cells_u8, cells_u16, cells_agg, get_upd_is, Option.isSome_some, upd_upd, ev1_nchkV, ev1_faV, nchkV_ptr, faV_ptr, ev1_extV, extV_tup, eqptr_nil, eqptr_ptr, Nat.zero_add, Nat.add_zero, qPL0, qPL1, qPL2, qPL3, qPL4, qPL5, beq_self_eq_true, qED0, qED1, placeR]
    | i a' b' p' => simp only [M71, Ct.av, Ct.is, reduceCtorEq, Bool.and_true, tas_6484, tas_6486, tas_8464, tas_8486, tas_8664, tas_8684, qES0, qES1, qES2, env0, List.length_cons, List.length_nil, Nat.reduceAdd, Nat.reduceSub, List.replicate, List.cons_append, List.nil_append, opd, Env.put, Env.at, List.set_cons_zero, List.set_cons_succ, List.getD_cons_zero, List.getD_cons_succ, freezeL, resVs, oneOr, Option.map_some, Option.map_none, List.map_cons, List.map_nil, if_true, if_false, Bool.not_true, Bool.not_false, Bool.false_eq_true, reduceIte, decide_true, decide_false, Int.reduceLT, Int.reduceLE, Int.reduceGT, Int.reduceGE, Int.reduceEq, Int.reduceBEq, Int.reduceBNe, load_ptr, ldV_some, cellAt_cells, List.getElem?_cons_zero, List.getElem?_cons_succ, store_ptr, stO_some, setAt_0, setAt_1, setAt_2, setAt_3, setAt_4, setAt_5, setAt_6, setAt_7, setAt_8, setAt_9, setAt_10, setAt_11, setAt_12, cells_int, cells_bool, cells_str, cells_nils, cells_nilp, cells_ptr, cells_sl, cells_u8, cells_u16, cells_agg, get_upd_is, Option.isSome_some, upd_upd, ev1_nchkV, ev1_faV, nchkV_ptr, faV_ptr, ev1_extV, extV_tup, eqptr_nil, eqptr_ptr, Nat.zero_add, Nat.add_zero, qPL0, qPL1, qPL2, qPL3, qPL4, qPL5, beq_self_eq_true]
    | u a' p' => simp only [M71, Ct.av, Ct.is, reduceCtorEq, Bool.and_true, tas_6484, tas_6486, tas_8464, tas_8486, tas_8664, tas_8684, qES0, qES1, qES2, env0, List.length_cons, List.length_nil, Nat.reduceAdd, Nat.reduceSub, List.replicate, List.cons_append, List.nil_append, opd, Env.put, Env.at, List.set_cons_zero, List.set_cons_succ, List.getD_cons_zero, List.getD_cons_succ, freezeL, resVs, oneOr, Option.map_some, Option.map_none, List.map_cons, List.map_nil, if_true, if_false, Bool.not_true, Bool.not_false, Bool.false_eq_true, reduceIte, decide_true, decide_false, Int.reduceLT, Int.reduceLE, Int.reduceGT, Int.reduceGE, Int.reduceEq, Int.reduceBEq, Int.reduceBNe, load_ptr, ldV_some, cellAt_cells, List.getElem?_cons_zero, List.getElem?_cons_succ, store_ptr, stO_some, setAt_0, setAt_1, setAt_2, setAt_3, setAt_4, setAt_5, setAt_6, setAt_7, setAt_8, setAt_9, setAt_10, setAt_11, setAt_12, cells_int, cells_bool, cells_str, cells_nils, cells_nilp, cells_ptr, cells_sl, cells_u8, cells_u16, cells_agg, get_upd_is, Option.isSome_some, upd_upd, ev1_nchkV, ev1_faV, nchkV_ptr, faV_ptr, ev1_extV, extV_tup, eqptr_nil, eqptr_ptr, Nat.zero_add, Nat.add_zero, qPL0, qPL1, qPL2, qPL3, qPL4, qPL5, beq_self_eq_true]
    | n => simp only [M71, Ct.av, Ct.is, reduceCtorEq, Bool.and_true, tas_6484, tas_6486, tas_8464, tas_8486, tas_8664, tas_8684, qES0, qES1, qES2, env0, List.length_cons, List.length_nil, Nat.reduceAdd, Nat.reduceSub, List.replicate, List.cons_append, List.nil_append, opd, Env.put, Env.at, List.set_cons_zero, List.set_cons_succ, List.getD_cons_zero, List.getD_cons_succ, freezeL, resVs, oneOr, Option.map_some, Option.map_none, List.map_cons, List.map_nil, if_true, if_false, Bool.not_true, Bool.not_false, Bool.false_eq_true, reduceIte, decide_true, decide_false, Int.reduceLT, Int.reduceLE, Int.reduceGT, Int.reduceGE, Int.reduceEq, Int.reduceBEq, Int.reduceBNe, load_ptr, ldV_some, cellAt_cells, List.getElem?_cons_zero, List.getElem?_cons_succ, store_ptr, stO_some, setAt_0, setAt_1, setAt_2, setAt_3, setAt_4, setAt_5, setAt_6, setAt_7, setAt_8, setAt_9, setAt_10, setAt_11, setAt_12, cells_int, cells_bool, cells_str, cells_nils, cells_nilp, cells_ptr, cells_sl, cells_u8, cells_u16, cells_agg, get_upd_is, Option.isSome_some, upd_upd, ev1_nchkV, ev1_faV, nchkV_ptr, faV_ptr, ev1_extV, extV_tup, eqptr_nil, eqptr_ptr, Nat.zero_add, Nat.add_zero, qPL0, qPL1, qPL2, qPL3, qPL4, qPL5, beq_self_eq_true]
  | u a p =>
    cases d with
    | u a' p' => simp only [M71, Ct.av, Ct.is, Ct.u.injEq, Bool.and_true, eqU, tas_6484, tas_6486, tas_8464, tas_8486, tas_8664, tas_8684, qES0, qES1, qES2, env0, List.length_cons, List.length_nil, Nat.reduceAdd, Nat.reduceSub, List.replicate, List.cons_append, List.nil_append, opd, Env.put, Env.at, List.set_cons_zero, List.set_cons_succ, List.getD_cons_zero, List.getD_cons_succ, freezeL, resVs, oneOr, Option.map_some, Option.map_none, List.map_cons, List.map_nil, if_true, if_false, Bool.not_true, Bool.not_false, Bool.false_eq_true, reduceIte, decide_true, decide_false, Int.reduceLT, Int.reduceLE, Int.reduceGT, Int.reduceGE, Int.reduceEq, Int.reduceBEq, Int.reduceBNe, load_ptr, ldV_some, cellAt_cells, List.getElem?_cons_zero, List.getElem?_cons_succ, store_ptr, stO_some, setAt_0, setAt_1, setAt_2, setAt_3, setAt_4, setAt_5, setAt_6, setAt_7, setAt_8, setAt_9, setAt_10, setAt_11, setAt_12, cells_int, cells_bool, cells_str, cells_nils, cells_nilp, cells_ptr, cells_sl, cells_u8, cells_u16, cells_agg, get_upd_is, Option.isSome_some, upd_upd, ev1_nchkV, ev1_faV, nchkV_ptr, faV_ptr, ev1_extV, extV_tup, eqptr_nil, eqptr_ptr, Nat.zero_add, Nat.add_zero, qPL0, qPL1, qPL2, qPL3, qPL4, qPL5, beq_self_eq_true, qED0, qED1, placeR]
    | i a' b' p' => simp only [M71, Ct.av, Ct.is, reduceCtorEq, Bool.and_true, tas_6484, tas_6486, tas_8464, tas_8486, tas_8664, tas_8684, qES0, qES1, qES2, env0, List.length_cons, List.length_nil, Nat.reduceAdd, Nat.reduceSub, List.replicate, List.cons_append, List.nil_append, opd, Env.put, Env.at, List.set_cons_zero, List.set_cons_succ, List.getD_cons_zero, List.getD_cons_succ, freezeL, resVs, oneOr, Option.map_some, Option.map_none, List.map_cons, List.map_nil, if_true, if_false, Bool.not_true, Bool.not_false, Bool.false_eq_true, reduceIte, decide_true, decide_false, Int.reduceLT, Int.reduceLE, Int.reduceGT, Int.reduceGE, Int.reduceEq, Int.reduceBEq, Int.reduceBNe, load_ptr, ldV_some, cellAt_cells, List.getElem?_cons_zero, List.getElem?_cons_succ, store_ptr, stO_some, setAt_0, setAt_1, setAt_2, setAt_3, setAt_4, setAt_5, setAt_6, setAt_7, setAt_8, setAt_9, setAt_10, setAt_11, setAt_12, cells_int, cells_bool, cells_str, cells_nils, cells_nilp, cells_ptr, cells_sl, cells_u8, cells_u16, cells_agg, get_upd_is, Option.isSome_some, upd_upd, ev1_nchkV, ev1_faV, nchkV_ptr, faV_ptr, ev1_extV, extV_tup, eqptr_nil, eqptr_ptr, Nat.zero_add, Nat.add_zero, qPL0, qPL1, qPL2, qPL3, qPL4, qPL5, beq_self_eq_true]
    | s a' b' p' => simp only [M71, Ct.av, Ct.is, reduceCtorEq, Bool.and_true, tas_6484, tas_6486, tas_8464, tas_8486, tas_8664, tas_8684, qES0, qES1, qES2, env0, List.length_cons, List.length_nil, Nat.reduceAdd, Nat.reduceSub, List.replicate, List.cons_append, List.nil_append, opd, Env.put, Env.at, List.set_cons_zero, List.set_cons_succ, List.getD_cons_zero, List.getD_cons_succ, freezeL, resVs, oneOr, Option.map_some, Option.map_none, List.map_cons, List.map_nil, if_true, if_false, Bool.not_true, Bool.not_false, Bool.false_eq_true, reduceIte, decide_true, decide_false, Int.reduceLT, Int.reduceLE, Int.reduceGT, Int.reduceGE, Int.reduceEq, Int.reduceBEq, Int.reduceBNe, load_ptr, ldV_some, cellAt_cells, List.getElem?_cons_zero, List.getElem?_cons_succ, store_ptr, stO_some, setAt_0, setAt_1, setAt_2, setAt_3, setAt_4, setAt_5, setAt_6, setAt_7, setAt_8, setAt_9, setAt_10, setAt_11, setAt_12, cells_int, cells_bool, cells_str, cells_nils, cells_nilp, cells_ptr, cells_sl, cells_u8, cells_u16, cells_agg, get_upd_is, Option.isSome_some, upd_upd, ev1_nchkV, ev1_faV, nchkV_ptr, faV_ptr, ev1_extV, extV_tup, eqptr_nil, eqptr_ptr, Nat.zero_add, Nat.add_zero, qPL0, qPL1, qPL2, qPL3, qPL4, qPL5, beq_self_eq_true]
    | n => simp only [M71, Ct.av, Ct.is, reduceCtorEq, Bool.and_true, tas_6484, tas_6486, tas_8464, tas_8486, tas_8664, tas_8684, qES0, qES1, qES2, env0, List.length_cons, List.length_nil, Nat.reduceAdd, Nat.reduceSub, List.replicate, List.cons_append, List.nil_append, opd, Env.put, Env.at, List.set_cons_zero, List.set_cons_succ, List.getD_cons_zero, List.getD_cons_succ, freezeL, resVs, oneOr, Option.map_some, Option.map_none, List.map_cons, List.map_nil, if_true, if_false, Bool.not_true, Bool.not_false, Bool.false_eq_true, reduceIte, decide_true, decide_false, Int.reduceLT, Int.reduceLE, Int.reduceGT, Int.reduceGE, Int.reduceEq, Int.reduceBEq, Int.reduceBNe, load_ptr, ldV_some, cellAt_cells, List.getElem?_cons_zero, List.getElem?_cons_succ, store_ptr, stO_some, setAt_0, setAt_1, setAt_2, setAt_3, setAt_4, setAt_5, setAt_6, setAt_7, setAt_8, setAt_9, setAt_10, setAt_11, setAt_12, cells_int, cells_bool, cells_str, cells_nils, cells_nilp, cells_ptr, cells_sl, cells_u8, cells_u16, cells_agg, get_upd_is, Option.isSome_some, upd_upd, ev1_nchkV, ev1_faV, nchkV_ptr, faV_ptr, ev1_extV, extV_tup, eqptr_nil, eqptr_ptr, Nat.zero_add, Nat.add_zero, qPL0, qPL1, qPL2, qPL3, qPL4, qPL5, beq_self_eq_true]
theorem same_pure : PureOk (evT 1000) 71 hSame := pureOk_of (by
  intro args s v h
  unfold hSame at h
  split at h
  · split at h
    · rename_i c d hc hd
      cases h
      rw [toCt_of hc, toCt_of hd]
      exact ⟨rfl, by simp [flatL, Ct.flat], same_val c d St.nil⟩
    · split at h
      · rename_i hf
        cases h
        simp only [Bool.and_eq_true] at hf
        obtain ⟨⟨f1, f2⟩, f3⟩ := hf
        obtain ⟨t, w, rfl, _⟩ := foreign_of f1
        exact ⟨rfl, by simp [flatL, f2, f3], same_foreign t w _ f1 St.nil⟩
      · cases h
  · cases h)
end Go.Proofs.YthcblggiojpmcaaDoor
