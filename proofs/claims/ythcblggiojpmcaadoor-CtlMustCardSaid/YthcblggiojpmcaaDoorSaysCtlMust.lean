/- What the evaluator says of the law CtlMust: true. No conditions. -/
import Derived.Test.YthcblggiojpmcaaDoorMus
import Derived.Test.YthcblggiojpmcaaDoorPlainT
namespace Go.Proofs.YthcblggiojpmcaaDoor.ctlMust
open Go Go.Ab
set_option linter.unusedVariables false
set_option linter.unusedSimpArgs false
set_option maxRecDepth 100000 in
set_option maxHeartbeats 8000000 in
theorem says (as0 : List Ab.AV) (hs0 : Ab.ScL Tryd.prog plainTypes as0) : Ab.saysTrue (evV 1000 19 [.agg as0] Ab.St.nil) = true := by
  obtain ⟨p, rfl⟩ : ∃ p : Pn, as0 = p.cells := by
    obtain ⟨seat, count, cmd, kind, sort, nr, ns, pf, body, rfl⟩ := plain_of hs0
    exact ⟨⟨seat, count, cmd, kind, sort, nr, ns, pf, body⟩, rfl⟩
  have h20 := v20 998
  rw [show (1000 : Nat) = 999 + 1 from rfl, evV_in rfl tab19]
  suffices hv : valR (outR M19.res (evC tabGl (evV 999) 999 M19.body (env0 M19.ntmps [.agg p.cells]) (St.nil.pl []))) = some (.bool true) by
    obtain ⟨v0, s', h1, h2⟩ := valR_of hv
    have : v0 = .bool true := by
      cases v0 with
      | bool b => exact h2
      | tup l => cases h2
      | _ => cases h2
    rw [this] at h1
    exact (congrArg Ab.saysTrue h1)
  generalize St.nil = s
  have w0 : ∀ (a : Bool), eqAV (.flat (.one .b)) (.bool a) (.bool a) = some true := fun a => by cases a <;> rfl
  have n11 : ((1 : Int) != 1) = false := rfl
  have n12 : ((1 : Int) != 2) = true := rfl
  have n13 : ((1 : Int) != 3) = true := rfl
  have n21 : ((2 : Int) != 1) = true := rfl
  have n22 : ((2 : Int) != 2) = false := rfl
  have n23 : ((2 : Int) != 3) = true := rfl
  have n31 : ((3 : Int) != 1) = true := rfl
  have n32 : ((3 : Int) != 2) = true := rfl
  have n33 : ((3 : Int) != 3) = false := rfl
  have q21 : ((2 : Int) == 1) = false := rfl
  have q31 : ((3 : Int) == 1) = false := rfl
  have q32 : ((3 : Int) == 2) = false := rfl
  have bb : ∀ a : Bool, (a == a) = true := fun a => by cases a <;> rfl
  have eI : ∀ (a b : Int) (c : Bool), eqAV (.flat (.many [.i, .i, .b])) (.agg [.int .i64 a, .int .i64 b, .bool c]) (.agg [.int .i64 a, .int .i64 b, .bool c]) = some true := fun a b c => by
    show eqScL _ _ _ = _
    simp [eqScL, eqSc]
  have eU : ∀ (a : Int) (c : Bool), eqAV (.flat (.many [.i, .b])) (.agg [.int .i64 a, .bool c]) (.agg [.int .i64 a, .bool c]) = some true := fun a c => by
    show eqScL _ _ _ = _
    simp [eqScL, eqSc]
  obtain ⟨seat, count, cmd, kind, sort, nr, ns, pf, body⟩ := p
  by_cases k1 : kind = 1
  · subst k1
    have h33 : ∀ s, evV 999 33 [.agg (Pn.cells ⟨seat, count, cmd, 1, sort, nr, ns, pf, body⟩)] s = some (Ct.av (Ct.i nr ns pf), s) := fun s => v33 998 ⟨seat, count, cmd, 1, sort, nr, ns, pf, body⟩ s
    have f1 : ∀ s, evV 999 58 [Ct.av (Ct.i nr ns pf), .int .i64 1] s = some (.bool false, s) := fun s => v58 998 (Ct.i nr ns pf) 1 (.inl rfl) s
    have f2 : ∀ s, evV 999 58 [Ct.av (Ct.i nr ns pf), .int .i64 2] s = some (.bool true, s) := fun s => v58 998 (Ct.i nr ns pf) 2 (.inr (.inl rfl)) s
    have f3 : ∀ s, evV 999 58 [Ct.av (Ct.i nr ns pf), .int .i64 3] s = some (.bool true, s) := fun s => v58 998 (Ct.i nr ns pf) 3 (.inr (.inr rfl)) s
    have h59 := v59 998 (Ct.i nr ns pf)
    have hm := v60 998 nr ns pf
    have fz := fun s => (Ct.i nr ns pf).freeze 0 s
    simp only [Ct.av, Ct.nrA, Pn.cells] at h33 f1 f2 f3 h59 fz ⊢
    simp only [M19, hm, h20, h33, f1, f2, f3, h59, fz, w0, n11, n12, n13, n21, n22, n23, n31, n32, n33, q21, q31, q32, eI, eU, ev1_eqv, beq_self_eq_true, qES0, qES1, qES2, env0, List.length_cons, List.length_nil, Nat.reduceAdd, Nat.reduceSub, List.replicate, List.cons_append, List.nil_append, opd, Env.put, Env.at, List.set_cons_zero, List.set_cons_succ, List.getD_cons_zero, List.getD_cons_succ, freezeL, resVs, oneOr, Option.map_some, Option.map_none, List.map_cons, List.map_nil, if_true, if_false, Bool.not_true, Bool.not_false, Bool.false_eq_true, reduceIte, decide_true, decide_false, Int.reduceLT, Int.reduceLE, Int.reduceGT, Int.reduceGE, Int.reduceEq, Int.reduceBEq, Int.reduceBNe, load_ptr, ldV_some, cellAt_cells, List.getElem?_cons_zero, List.getElem?_cons_succ, store_ptr, stO_some, setAt_0, setAt_1, setAt_2, setAt_3, setAt_4, setAt_5, setAt_6, setAt_7, setAt_8, setAt_9, setAt_10, setAt_11, setAt_12, cells_int, cells_bool, cells_str, cells_nils, cells_nilp, cells_ptr, cells_sl, cells_u8, cells_u16, cells_agg, get_upd_is, Option.isSome_some, upd_upd, ev1_nchkV, ev1_faV, nchkV_ptr, faV_ptr, ev1_extV, extV_tup, eqptr_nil, eqptr_ptr, Nat.zero_add, Nat.add_zero, qPL0, qPL1, qPL2, qPL3, qPL4, qPL5, beq_self_eq_true, qED0, qED1, placeR]
    rw [drawR_ok]; case h => simp (config := { decide := true }) [calm, calmPair, calmTwo, List.range, List.range.loop, sameO_refl, plg0, plg1, plg2, plg3, plg4, plg5, plg6, plg7, plg8, plg9, plg10, plg11, plg12, plg13]
    simp only [hm, h20, h33, f1, f2, f3, h59, fz, w0, n11, n12, n13, n21, n22, n23, n31, n32, n33, q21, q31, q32, eI, eU, ev1_eqv, beq_self_eq_true, qES0, qES1, qES2, env0, List.length_cons, List.length_nil, Nat.reduceAdd, Nat.reduceSub, List.replicate, List.cons_append, List.nil_append, opd, Env.put, Env.at, List.set_cons_zero, List.set_cons_succ, List.getD_cons_zero, List.getD_cons_succ, freezeL, resVs, oneOr, Option.map_some, Option.map_none, List.map_cons, List.map_nil, if_true, if_false, Bool.not_true, Bool.not_false, Bool.false_eq_true, reduceIte, decide_true, decide_false, Int.reduceLT, Int.reduceLE, Int.reduceGT, Int.reduceGE, Int.reduceEq, Int.reduceBEq, Int.reduceBNe, load_ptr, ldV_some, cellAt_cells, List.getElem?_cons_zero, List.getElem?_cons_succ, store_ptr, stO_some, setAt_0, setAt_1, setAt_2, setAt_3, setAt_4, setAt_5, setAt_6, setAt_7, setAt_8, setAt_9, setAt_10, setAt_11, setAt_12, cells_int, cells_bool, cells_str, cells_nils, cells_nilp, cells_ptr, cells_sl, cells_u8, cells_u16, cells_agg, get_upd_is, Option.isSome_some, upd_upd, ev1_nchkV, ev1_faV, nchkV_ptr, faV_ptr, ev1_extV, extV_tup, eqptr_nil, eqptr_ptr, Nat.zero_add, Nat.add_zero, qPL0, qPL1, qPL2, qPL3, qPL4, qPL5, beq_self_eq_true, qED0, qED1, placeR]
  by_cases k2 : kind = 2
  · subst k2
    have h33 : ∀ s, evV 999 33 [.agg (Pn.cells ⟨seat, count, cmd, 2, sort, nr, ns, pf, body⟩)] s = some (Ct.av (Ct.s sort nr pf), s) := fun s => v33 998 ⟨seat, count, cmd, 2, sort, nr, ns, pf, body⟩ s
    have f1 : ∀ s, evV 999 58 [Ct.av (Ct.s sort nr pf), .int .i64 1] s = some (.bool true, s) := fun s => v58 998 (Ct.s sort nr pf) 1 (.inl rfl) s
    have f2 : ∀ s, evV 999 58 [Ct.av (Ct.s sort nr pf), .int .i64 2] s = some (.bool false, s) := fun s => v58 998 (Ct.s sort nr pf) 2 (.inr (.inl rfl)) s
    have f3 : ∀ s, evV 999 58 [Ct.av (Ct.s sort nr pf), .int .i64 3] s = some (.bool true, s) := fun s => v58 998 (Ct.s sort nr pf) 3 (.inr (.inr rfl)) s
    have h59 := v59 998 (Ct.s sort nr pf)
    have hm := v61 998 sort nr pf
    have fz := fun s => (Ct.s sort nr pf).freeze 0 s
    simp only [Ct.av, Ct.nrA, Pn.cells] at h33 f1 f2 f3 h59 fz ⊢
    simp only [M19, hm, h20, h33, f1, f2, f3, h59, fz, w0, n11, n12, n13, n21, n22, n23, n31, n32, n33, q21, q31, q32, eI, eU, ev1_eqv, beq_self_eq_true, qES0, qES1, qES2, env0, List.length_cons, List.length_nil, Nat.reduceAdd, Nat.reduceSub, List.replicate, List.cons_append, List.nil_append, opd, Env.put, Env.at, List.set_cons_zero, List.set_cons_succ, List.getD_cons_zero, List.getD_cons_succ, freezeL, resVs, oneOr, Option.map_some, Option.map_none, List.map_cons, List.map_nil, if_true, if_false, Bool.not_true, Bool.not_false, Bool.false_eq_true, reduceIte, decide_true, decide_false, Int.reduceLT, Int.reduceLE, Int.reduceGT, Int.reduceGE, Int.reduceEq, Int.reduceBEq, Int.reduceBNe, load_ptr, ldV_some, cellAt_cells, List.getElem?_cons_zero, List.getElem?_cons_succ, store_ptr, stO_some, setAt_0, setAt_1, setAt_2, setAt_3, setAt_4, setAt_5, setAt_6, setAt_7, setAt_8, setAt_9, setAt_10, setAt_11, setAt_12, cells_int, cells_bool, cells_str, cells_nils, cells_nilp, cells_ptr, cells_sl, cells_u8, cells_u16, cells_agg, get_upd_is, Option.isSome_some, upd_upd, ev1_nchkV, ev1_faV, nchkV_ptr, faV_ptr, ev1_extV, extV_tup, eqptr_nil, eqptr_ptr, Nat.zero_add, Nat.add_zero, qPL0, qPL1, qPL2, qPL3, qPL4, qPL5, beq_self_eq_true, qED0, qED1, placeR]
    rw [drawR_ok]; case h => simp (config := { decide := true }) [calm, calmPair, calmTwo, List.range, List.range.loop, sameO_refl, plg0, plg1, plg2, plg3, plg4, plg5, plg6, plg7, plg8, plg9, plg10, plg11, plg12, plg13]
    simp only [hm, h20, h33, f1, f2, f3, h59, fz, w0, n11, n12, n13, n21, n22, n23, n31, n32, n33, q21, q31, q32, eI, eU, ev1_eqv, beq_self_eq_true, qES0, qES1, qES2, env0, List.length_cons, List.length_nil, Nat.reduceAdd, Nat.reduceSub, List.replicate, List.cons_append, List.nil_append, opd, Env.put, Env.at, List.set_cons_zero, List.set_cons_succ, List.getD_cons_zero, List.getD_cons_succ, freezeL, resVs, oneOr, Option.map_some, Option.map_none, List.map_cons, List.map_nil, if_true, if_false, Bool.not_true, Bool.not_false, Bool.false_eq_true, reduceIte, decide_true, decide_false, Int.reduceLT, Int.reduceLE, Int.reduceGT, Int.reduceGE, Int.reduceEq, Int.reduceBEq, Int.reduceBNe, load_ptr, ldV_some, cellAt_cells, List.getElem?_cons_zero, List.getElem?_cons_succ, store_ptr, stO_some, setAt_0, setAt_1, setAt_2, setAt_3, setAt_4, setAt_5, setAt_6, setAt_7, setAt_8, setAt_9, setAt_10, setAt_11, setAt_12, cells_int, cells_bool, cells_str, cells_nils, cells_nilp, cells_ptr, cells_sl, cells_u8, cells_u16, cells_agg, get_upd_is, Option.isSome_some, upd_upd, ev1_nchkV, ev1_faV, nchkV_ptr, faV_ptr, ev1_extV, extV_tup, eqptr_nil, eqptr_ptr, Nat.zero_add, Nat.add_zero, qPL0, qPL1, qPL2, qPL3, qPL4, qPL5, beq_self_eq_true, qED0, qED1, placeR]
  by_cases k3 : kind = 3
  · subst k3
    have h33 : ∀ s, evV 999 33 [.agg (Pn.cells ⟨seat, count, cmd, 3, sort, nr, ns, pf, body⟩)] s = some (Ct.av (Ct.u sort pf), s) := fun s => v33 998 ⟨seat, count, cmd, 3, sort, nr, ns, pf, body⟩ s
    have f1 : ∀ s, evV 999 58 [Ct.av (Ct.u sort pf), .int .i64 1] s = some (.bool true, s) := fun s => v58 998 (Ct.u sort pf) 1 (.inl rfl) s
    have f2 : ∀ s, evV 999 58 [Ct.av (Ct.u sort pf), .int .i64 2] s = some (.bool true, s) := fun s => v58 998 (Ct.u sort pf) 2 (.inr (.inl rfl)) s
    have f3 : ∀ s, evV 999 58 [Ct.av (Ct.u sort pf), .int .i64 3] s = some (.bool false, s) := fun s => v58 998 (Ct.u sort pf) 3 (.inr (.inr rfl)) s
    have h59 := v59 998 (Ct.u sort pf)
    have hm := v62 998 sort pf
    have fz := fun s => (Ct.u sort pf).freeze 0 s
    simp only [Ct.av, Ct.nrA, Pn.cells] at h33 f1 f2 f3 h59 fz ⊢
    simp only [M19, hm, h20, h33, f1, f2, f3, h59, fz, w0, n11, n12, n13, n21, n22, n23, n31, n32, n33, q21, q31, q32, eI, eU, ev1_eqv, beq_self_eq_true, qES0, qES1, qES2, env0, List.length_cons, List.length_nil, Nat.reduceAdd, Nat.reduceSub, List.replicate, List.cons_append, List.nil_append, opd, Env.put, Env.at, List.set_cons_zero, List.set_cons_succ, List.getD_cons_zero, List.getD_cons_succ, freezeL, resVs, oneOr, Option.map_some, Option.map_none, List.map_cons, List.map_nil, if_true, if_false, Bool.not_true, Bool.not_false, Bool.false_eq_true, reduceIte, decide_true, decide_false, Int.reduceLT, Int.reduceLE, Int.reduceGT, Int.reduceGE, Int.reduceEq, Int.reduceBEq, Int.reduceBNe, load_ptr, ldV_some, cellAt_cells, List.getElem?_cons_zero, List.getElem?_cons_succ, store_ptr, stO_some, setAt_0, setAt_1, setAt_2, setAt_3, setAt_4, setAt_5, setAt_6, setAt_7, setAt_8, setAt_9, setAt_10, setAt_11, setAt_12, cells_int, cells_bool, cells_str, cells_nils, cells_nilp, cells_ptr, cells_sl, cells_u8, cells_u16, cells_agg, get_upd_is, Option.isSome_some, upd_upd, ev1_nchkV, ev1_faV, nchkV_ptr, faV_ptr, ev1_extV, extV_tup, eqptr_nil, eqptr_ptr, Nat.zero_add, Nat.add_zero, qPL0, qPL1, qPL2, qPL3, qPL4, qPL5, beq_self_eq_true, qED0, qED1, placeR]
    rw [drawR_ok]; case h => simp (config := { decide := true }) [calm, calmPair, calmTwo, List.range, List.range.loop, sameO_refl, plg0, plg1, plg2, plg3, plg4, plg5, plg6, plg7, plg8, plg9, plg10, plg11, plg12, plg13]
    simp only [hm, h20, h33, f1, f2, f3, h59, fz, w0, n11, n12, n13, n21, n22, n23, n31, n32, n33, q21, q31, q32, eI, eU, ev1_eqv, beq_self_eq_true, qES0, qES1, qES2, env0, List.length_cons, List.length_nil, Nat.reduceAdd, Nat.reduceSub, List.replicate, List.cons_append, List.nil_append, opd, Env.put, Env.at, List.set_cons_zero, List.set_cons_succ, List.getD_cons_zero, List.getD_cons_succ, freezeL, resVs, oneOr, Option.map_some, Option.map_none, List.map_cons, List.map_nil, if_true, if_false, Bool.not_true, Bool.not_false, Bool.false_eq_true, reduceIte, decide_true, decide_false, Int.reduceLT, Int.reduceLE, Int.reduceGT, Int.reduceGE, Int.reduceEq, Int.reduceBEq, Int.reduceBNe, load_ptr, ldV_some, cellAt_cells, List.getElem?_cons_zero, List.getElem?_cons_succ, store_ptr, stO_some, setAt_0, setAt_1, setAt_2, setAt_3, setAt_4, setAt_5, setAt_6, setAt_7, setAt_8, setAt_9, setAt_10, setAt_11, setAt_12, cells_int, cells_bool, cells_str, cells_nils, cells_nilp, cells_ptr, cells_sl, cells_u8, cells_u16, cells_agg, get_upd_is, Option.isSome_some, upd_upd, ev1_nchkV, ev1_faV, nchkV_ptr, faV_ptr, ev1_extV, extV_tup, eqptr_nil, eqptr_ptr, Nat.zero_add, Nat.add_zero, qPL0, qPL1, qPL2, qPL3, qPL4, qPL5, beq_self_eq_true, qED0, qED1, placeR]
  have hc : any1 kind sort nr ns pf = .n := by simp [any1, k1, k2, k3]
  have h33 : ∀ s, evV 999 33 [.agg (Pn.cells ⟨seat, count, cmd, kind, sort, nr, ns, pf, body⟩)] s = some (Ct.av .n, s) := fun s => by rw [← hc]; exact v33 998 ⟨seat, count, cmd, kind, sort, nr, ns, pf, body⟩ s
  have f1 : ∀ s, evV 999 58 [Ct.av .n, .int .i64 1] s = some (.bool true, s) := fun s => v58 998 .n 1 (.inl rfl) s
  have f2 : ∀ s, evV 999 58 [Ct.av .n, .int .i64 2] s = some (.bool true, s) := fun s => v58 998 .n 2 (.inr (.inl rfl)) s
  have f3 : ∀ s, evV 999 58 [Ct.av .n, .int .i64 3] s = some (.bool true, s) := fun s => v58 998 .n 3 (.inr (.inr rfl)) s
  have h59 := v59 998 .n
  have h36 := v36 998 .n
  have h38 := v38 998 .n
  have fz := fun s => Ct.freeze .n 0 s
  have g1 : (kind == 1) = false := beq_eq_false_iff_ne.2 k1
  have g2 : (kind == 2) = false := beq_eq_false_iff_ne.2 k2
  have g3 : (kind == 3) = false := beq_eq_false_iff_ne.2 k3
  have n1 : (kind != 1) = true := bne_iff_ne.2 k1
  have n2 : (kind != 2) = true := bne_iff_ne.2 k2
  have n3 : (kind != 3) = true := bne_iff_ne.2 k3
  simp only [Ct.av, Ct.nrA, Ct.may, Ct.pf, Pn.cells] at h33 f1 f2 f3 h59 h36 h38 fz ⊢
  simp only [M19, h36, h38, g1, g2, g3, n1, n2, n3, h20, h33, f1, f2, f3, h59, fz, w0, n11, n12, n13, n21, n22, n23, n31, n32, n33, q21, q31, q32, eI, eU, ev1_eqv, beq_self_eq_true, qES0, qES1, qES2, env0, List.length_cons, List.length_nil, Nat.reduceAdd, Nat.reduceSub, List.replicate, List.cons_append, List.nil_append, opd, Env.put, Env.at, List.set_cons_zero, List.set_cons_succ, List.getD_cons_zero, List.getD_cons_succ, freezeL, resVs, oneOr, Option.map_some, Option.map_none, List.map_cons, List.map_nil, if_true, if_false, Bool.not_true, Bool.not_false, Bool.false_eq_true, reduceIte, decide_true, decide_false, Int.reduceLT, Int.reduceLE, Int.reduceGT, Int.reduceGE, Int.reduceEq, Int.reduceBEq, Int.reduceBNe, load_ptr, ldV_some, cellAt_cells, List.getElem?_cons_zero, List.getElem?_cons_succ, store_ptr, stO_some, setAt_0, setAt_1, setAt_2, setAt_3, setAt_4, setAt_5, setAt_6, setAt_7, setAt_8, setAt_9, setAt_10, setAt_11, setAt_12, cells_int, cells_bool, cells_str, cells_nils, cells_nilp, cells_ptr, cells_sl, cells_u8, cells_u16, cells_agg, get_upd_is, Option.isSome_some, upd_upd, ev1_nchkV, ev1_faV, nchkV_ptr, faV_ptr, ev1_extV, extV_tup, eqptr_nil, eqptr_ptr, Nat.zero_add, Nat.add_zero, qPL0, qPL1, qPL2, qPL3, qPL4, qPL5, beq_self_eq_true, qED0, qED1, placeR]
end Go.Proofs.YthcblggiojpmcaaDoor.ctlMust
