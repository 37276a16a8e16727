/- What the evaluator says of the law MeetLeast: true. No conditions. -/
import Derived.Test.YtbeimfhodgmjhaaDoorQ8
import Derived.Test.YtbeimfhodgmjhaaDoorM8_19
import Derived.Test.YtbeimfhodgmjhaaDoorPlainT8
namespace Go.Proofs.YtbeimfhodgmjhaaDoor.meetLeast
open Go Go.Ab
set_option linter.unusedVariables false
set_option linter.unusedSimpArgs false
set_option maxRecDepth 100000 in
set_option maxHeartbeats 8000000 in
theorem says (as0 : List Ab.AV) (hs0 : Ab.ScL Tryd.prog offerTypes as0) : Ab.saysTrue (evB 1000 19 [.agg as0] Ab.St.nil) = true := by
  obtain ⟨ab, a_s, aw, az, a_t, rfl⟩ := offer_of hs0
  have hb := b21 998
  obtain ⟨D, t, e1, _, k1, k2⟩ := deal_ev 998 ⟨ab, a_s, aw, az, a_t⟩ ⟨1, 1, 1, 1, 1⟩
  obtain ⟨E, u, f1, _, l1, l2⟩ := deal_ev 998 ⟨1, 1, 1, 1, 1⟩ ⟨ab, a_s, aw, az, a_t⟩
  have hm := b58 998 ⟨ab, a_s, aw, az, a_t⟩
  have h26 := b26 998 az
  have h34 := b34 998 (highZ az)
  have lm : Of5.may ⟨1, 1, 1, 1, 1⟩ := by show mayP 1 1 1 1 1; decide
  rw [show (1000 : Nat) = 999 + 1 from rfl, evB_in rfl tab19]
  refine says_of ?_
  rw [show St.nil = St.nil.pl [] from rfl]
  by_cases gm : Of5.may ⟨ab, a_s, aw, az, a_t⟩
  · have ht : t = true := by
      cases t with
      | true => rfl
      | false => exact absurd ⟨gm, lm⟩ (k2 rfl)
    have hu : u = true := by
      cases u with
      | true => rfl
      | false => exact absurd ⟨lm, gm⟩ (l2 rfl)
    subst ht hu
    obtain ⟨_, _, rfl⟩ := k1 rfl
    obtain ⟨_, _, rfl⟩ := l1 rfl
    have gm' : mayP ab a_s aw az a_t := gm
    unfold mayP at gm'
    have x1 := and1_at ab (by omega) (by omega) (by omega)
    have x2 := and1_at a_s (by omega) (by omega) (by omega)
    have v1 : dealO ⟨ab, a_s, aw, az, a_t⟩ ⟨1, 1, 1, 1, 1⟩ = ⟨32, 200, 1, 8, 0⟩ := by
      simp only [dealO, x1.1, x2.1]; rfl
    obtain ⟨w, hw⟩ : ∃ w, winZ (frameZ (sizeZ (highZ az)) 32) (highZ aw + 1).toNat = w := ⟨_, rfl⟩
    have v2 : dealO ⟨1, 1, 1, 1, 1⟩ ⟨ab, a_s, aw, az, a_t⟩ = ⟨32, 200, w, sizeZ (highZ az), lowZ a_t⟩ := by
      simp only [dealO, x1.2, x2.2, ← hw]; rfl
    rw [v1] at e1
    rw [v2] at f1
    simp only [Of5.cells, ofC] at e1 f1
    have q5 := eq5 32 200 1 8 0
    have i3 := ieq (sizeZ (highZ az))
    simp only [M19, hb, e1, f1, q5, i3, h26, h34, ev1_buildV, ev1_build, ev1_boxV, ev1_eqv, ev1_extV, qES0, qES1, qES2, env0, List.length_cons, List.length_nil, Nat.reduceAdd, Nat.reduceSub, List.replicate, List.cons_append, List.nil_append, opd, Env.put, Env.at, List.set_cons_zero, List.set_cons_succ, List.getD_cons_zero, List.getD_cons_succ, freezeL, resVs, oneOr, Option.map_some, Option.map_none, List.map_cons, List.map_nil, if_true, if_false, Bool.not_true, Bool.not_false, Bool.false_eq_true, reduceIte, decide_true, decide_false, Int.reduceLT, Int.reduceLE, Int.reduceGT, Int.reduceGE, Int.reduceEq, Int.reduceBEq, Int.reduceBNe, load_ptr, ldV_some, cellAt_cells, List.getElem?_cons_zero, List.getElem?_cons_succ, store_ptr, stO_some, setAt_0, setAt_1, setAt_2, setAt_3, setAt_4, setAt_5, setAt_6, setAt_7, setAt_8, setAt_9, setAt_10, setAt_11, setAt_12, cells_int, cells_bool, cells_str, cells_nils, cells_nilp, cells_ptr, cells_sl, cells_u8, cells_u16, cells_agg, get_upd_is, Option.isSome_some, upd_upd, ev1_nchkV, ev1_faV, nchkV_ptr, faV_ptr, ev1_extV, extV_tup, eqptr_nil, eqptr_ptr, Nat.zero_add, Nat.add_zero, qPL0, qPL1, qPL2, qPL3, qPL4, qPL5, beq_self_eq_true, qED0, qED1, placeR]
    rw [drawR_ok]; case h => simp (config := { decide := true }) [calm, calmPair, calmTwo, List.range, List.range.loop, sameO_refl, plg0, plg1, plg2, plg3, plg4, plg5, plg6, plg7, plg8, plg9, plg10, plg11, plg12, plg13]
    simp only [M19, hb, e1, f1, q5, i3, h26, h34, ev1_buildV, ev1_build, ev1_boxV, ev1_eqv, ev1_extV, qES0, qES1, qES2, env0, List.length_cons, List.length_nil, Nat.reduceAdd, Nat.reduceSub, List.replicate, List.cons_append, List.nil_append, opd, Env.put, Env.at, List.set_cons_zero, List.set_cons_succ, List.getD_cons_zero, List.getD_cons_succ, freezeL, resVs, oneOr, Option.map_some, Option.map_none, List.map_cons, List.map_nil, if_true, if_false, Bool.not_true, Bool.not_false, Bool.false_eq_true, reduceIte, decide_true, decide_false, Int.reduceLT, Int.reduceLE, Int.reduceGT, Int.reduceGE, Int.reduceEq, Int.reduceBEq, Int.reduceBNe, load_ptr, ldV_some, cellAt_cells, List.getElem?_cons_zero, List.getElem?_cons_succ, store_ptr, stO_some, setAt_0, setAt_1, setAt_2, setAt_3, setAt_4, setAt_5, setAt_6, setAt_7, setAt_8, setAt_9, setAt_10, setAt_11, setAt_12, cells_int, cells_bool, cells_str, cells_nils, cells_nilp, cells_ptr, cells_sl, cells_u8, cells_u16, cells_agg, get_upd_is, Option.isSome_some, upd_upd, ev1_nchkV, ev1_faV, nchkV_ptr, faV_ptr, ev1_extV, extV_tup, eqptr_nil, eqptr_ptr, Nat.zero_add, Nat.add_zero, qPL0, qPL1, qPL2, qPL3, qPL4, qPL5, beq_self_eq_true, qED0, qED1, placeR]
  · rw [decide_eq_false gm] at hm
    have ht : t = false := by
      cases t with
      | false => rfl
      | true => exact absurd (k1 rfl).1 gm
    have hu : u = false := by
      cases u with
      | false => rfl
      | true => exact absurd (l1 rfl).2.1 gm
    subst ht hu
    obtain ⟨db, ds, dw, dz, dt⟩ := D
    obtain ⟨eb, es, ew, ez, et⟩ := E
    simp only [Of5.cells, ofC] at e1 f1 hm
    simp only [M19, hb, e1, f1, hm, ev1_build, ev1_boxV, ev1_eqv, ev1_extV, qES0, qES1, qES2, env0, List.length_cons, List.length_nil, Nat.reduceAdd, Nat.reduceSub, List.replicate, List.cons_append, List.nil_append, opd, Env.put, Env.at, List.set_cons_zero, List.set_cons_succ, List.getD_cons_zero, List.getD_cons_succ, freezeL, resVs, oneOr, Option.map_some, Option.map_none, List.map_cons, List.map_nil, if_true, if_false, Bool.not_true, Bool.not_false, Bool.false_eq_true, reduceIte, decide_true, decide_false, Int.reduceLT, Int.reduceLE, Int.reduceGT, Int.reduceGE, Int.reduceEq, Int.reduceBEq, Int.reduceBNe, load_ptr, ldV_some, cellAt_cells, List.getElem?_cons_zero, List.getElem?_cons_succ, store_ptr, stO_some, setAt_0, setAt_1, setAt_2, setAt_3, setAt_4, setAt_5, setAt_6, setAt_7, setAt_8, setAt_9, setAt_10, setAt_11, setAt_12, cells_int, cells_bool, cells_str, cells_nils, cells_nilp, cells_ptr, cells_sl, cells_u8, cells_u16, cells_agg, get_upd_is, Option.isSome_some, upd_upd, ev1_nchkV, ev1_faV, nchkV_ptr, faV_ptr, ev1_extV, extV_tup, eqptr_nil, eqptr_ptr, Nat.zero_add, Nat.add_zero, qPL0, qPL1, qPL2, qPL3, qPL4, qPL5, beq_self_eq_true]
end Go.Proofs.YtbeimfhodgmjhaaDoor.meetLeast
