/- What the evaluator says of the law MeetMine: true. No conditions. -/
import Derived.Test.YtbeimfhodgmjhaaDoorQ8
import Derived.Test.YtbeimfhodgmjhaaDoorM8_14
import Derived.Test.YtbeimfhodgmjhaaDoorPlainT8
namespace Go.Proofs.YtbeimfhodgmjhaaDoor.meetMine
open Go Go.Ab
set_option linter.unusedVariables false
set_option linter.unusedSimpArgs false
set_option maxRecDepth 100000 in
set_option maxHeartbeats 8000000 in
theorem says (as0 : List Ab.AV) (hs0 : Ab.ScL Tryd.prog offerTypes as0) (as1 : List Ab.AV) (hs1 : Ab.ScL Tryd.prog offerTypes as1) (as2 : List Ab.AV) (hs2 : Ab.ScL Tryd.prog offerTypes as2) : Ab.saysTrue (evB 1000 14 [.agg as0, .agg as1, .agg as2] Ab.St.nil) = true := by
  obtain ⟨ab, a_s, aw, az, a_t, rfl⟩ := offer_of hs0
  obtain ⟨ob, os, ow, oz, ot, rfl⟩ := offer_of hs1
  obtain ⟨cb, cs, cw, cz, ct, rfl⟩ := offer_of hs2
  have hb := b21 998
  obtain ⟨D, t, e1, _, k1, k2⟩ := deal_ev 998 ⟨ab, a_s, aw, az, a_t⟩ ⟨ob, os, ow, oz, ot⟩
  obtain ⟨E, u, f1, _, l1, l2⟩ := deal_ev 998 ⟨ab, cs, cw, cz, ct⟩ ⟨ob, os, ow, oz, ot⟩
  have key : t = true → u = true → D.b = E.b ∧ D.w = E.w ∧ D.z = E.z ∧ D.t = E.t := by
    intro ht hu
    obtain ⟨_, _, rfl⟩ := k1 ht
    obtain ⟨_, _, rfl⟩ := l1 hu
    exact ⟨rfl, rfl, rfl, rfl⟩
  obtain ⟨db, ds, dw, dz, dt⟩ := D
  obtain ⟨eb, es, ew, ez, et⟩ := E
  simp only [Of5.cells, ofC] at e1 f1 key
  rw [show (1000 : Nat) = 999 + 1 from rfl, evB_in rfl tab14]
  refine says_of ?_
  rw [show St.nil = St.nil.pl [] from rfl]
  cases t
  · simp only [M14, hb, e1, f1, ev1_boxV, ev1_eqv, ev1_extV, qES0, qES1, qES2, env0, List.length_cons, List.length_nil, Nat.reduceAdd, Nat.reduceSub, List.replicate, List.cons_append, List.nil_append, opd, Env.put, Env.at, List.set_cons_zero, List.set_cons_succ, List.getD_cons_zero, List.getD_cons_succ, freezeL, resVs, oneOr, Option.map_some, Option.map_none, List.map_cons, List.map_nil, if_true, if_false, Bool.not_true, Bool.not_false, Bool.false_eq_true, reduceIte, decide_true, decide_false, Int.reduceLT, Int.reduceLE, Int.reduceGT, Int.reduceGE, Int.reduceEq, Int.reduceBEq, Int.reduceBNe, load_ptr, ldV_some, cellAt_cells, List.getElem?_cons_zero, List.getElem?_cons_succ, store_ptr, stO_some, setAt_0, setAt_1, setAt_2, setAt_3, setAt_4, setAt_5, setAt_6, setAt_7, setAt_8, setAt_9, setAt_10, setAt_11, setAt_12, cells_int, cells_bool, cells_str, cells_nils, cells_nilp, cells_ptr, cells_sl, cells_u8, cells_u16, cells_agg, get_upd_is, Option.isSome_some, upd_upd, ev1_nchkV, ev1_faV, nchkV_ptr, faV_ptr, ev1_extV, extV_tup, eqptr_nil, eqptr_ptr, Nat.zero_add, Nat.add_zero, qPL0, qPL1, qPL2, qPL3, qPL4, qPL5, beq_self_eq_true]
  · cases u
    · simp only [M14, hb, e1, f1, ev1_boxV, ev1_eqv, ev1_extV, qES0, qES1, qES2, env0, List.length_cons, List.length_nil, Nat.reduceAdd, Nat.reduceSub, List.replicate, List.cons_append, List.nil_append, opd, Env.put, Env.at, List.set_cons_zero, List.set_cons_succ, List.getD_cons_zero, List.getD_cons_succ, freezeL, resVs, oneOr, Option.map_some, Option.map_none, List.map_cons, List.map_nil, if_true, if_false, Bool.not_true, Bool.not_false, Bool.false_eq_true, reduceIte, decide_true, decide_false, Int.reduceLT, Int.reduceLE, Int.reduceGT, Int.reduceGE, Int.reduceEq, Int.reduceBEq, Int.reduceBNe, load_ptr, ldV_some, cellAt_cells, List.getElem?_cons_zero, List.getElem?_cons_succ, store_ptr, stO_some, setAt_0, setAt_1, setAt_2, setAt_3, setAt_4, setAt_5, setAt_6, setAt_7, setAt_8, setAt_9, setAt_10, setAt_11, setAt_12, cells_int, cells_bool, cells_str, cells_nils, cells_nilp, cells_ptr, cells_sl, cells_u8, cells_u16, cells_agg, get_upd_is, Option.isSome_some, upd_upd, ev1_nchkV, ev1_faV, nchkV_ptr, faV_ptr, ev1_extV, extV_tup, eqptr_nil, eqptr_ptr, Nat.zero_add, Nat.add_zero, qPL0, qPL1, qPL2, qPL3, qPL4, qPL5, beq_self_eq_true]
    · obtain ⟨rfl, rfl, rfl, rfl⟩ := key rfl rfl
      have i1 := ieq db
      have i2 := ieq dw
      have i3 := ieq dz
      have i4 := ieq dt
      simp only [M14, hb, e1, f1, i1, i2, i3, i4, ev1_boxV, ev1_eqv, ev1_extV, qES0, qES1, qES2, env0, List.length_cons, List.length_nil, Nat.reduceAdd, Nat.reduceSub, List.replicate, List.cons_append, List.nil_append, opd, Env.put, Env.at, List.set_cons_zero, List.set_cons_succ, List.getD_cons_zero, List.getD_cons_succ, freezeL, resVs, oneOr, Option.map_some, Option.map_none, List.map_cons, List.map_nil, if_true, if_false, Bool.not_true, Bool.not_false, Bool.false_eq_true, reduceIte, decide_true, decide_false, Int.reduceLT, Int.reduceLE, Int.reduceGT, Int.reduceGE, Int.reduceEq, Int.reduceBEq, Int.reduceBNe, load_ptr, ldV_some, cellAt_cells, List.getElem?_cons_zero, List.getElem?_cons_succ, store_ptr, stO_some, setAt_0, setAt_1, setAt_2, setAt_3, setAt_4, setAt_5, setAt_6, setAt_7, setAt_8, setAt_9, setAt_10, setAt_11, setAt_12, cells_int, cells_bool, cells_str, cells_nils, cells_nilp, cells_ptr, cells_sl, cells_u8, cells_u16, cells_agg, get_upd_is, Option.isSome_some, upd_upd, ev1_nchkV, ev1_faV, nchkV_ptr, faV_ptr, ev1_extV, extV_tup, eqptr_nil, eqptr_ptr, Nat.zero_add, Nat.add_zero, qPL0, qPL1, qPL2, qPL3, qPL4, qPL5, beq_self_eq_true]
end Go.Proofs.YtbeimfhodgmjhaaDoor.meetMine
