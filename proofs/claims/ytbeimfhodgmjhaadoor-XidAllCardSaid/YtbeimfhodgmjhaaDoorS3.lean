/- setup.Put and the document's, as the evaluator answers them. No conditions. -/
import Derived.Test.YtbeimfhodgmjhaaDoorS2
set_option linter.unusedSimpArgs false
set_option linter.unusedVariables false
set_option maxRecDepth 100000
set_option maxHeartbeats 4000000
namespace Go.Ab
open Go
theorem fill_2u_0 (a0 a1 : AV) (x : UInt8) : fill1 [a0, a1] 0 1 (u8v x) = some [u8v x, a1] := fill1_c _ _ _ rfl (by simp)
theorem fill_2u_1 (a0 a1 : AV) (x : UInt8) : fill1 [a0, a1] 1 1 (u8v x) = some [a0, u8v x] := fill1_c _ _ _ rfl (by simp)
end Go.Ab
namespace Go.Proofs.YtbeimfhodgmjhaaDoor
open Go Go.Ab
theorem sput_val (x : Su) (hx : x.ok) : valR (evK 1000 54 [.agg x.cells] St.nil) = some (.tup [.str (if x.may then setB x else []), .bool (decide x.may)]) := by
  obtain ⟨f, t, a, c, b, s, w, z, ti⟩ := x
  rw [show (1000 : Nat) = 999 + 1 from rfl, evK_in rfl tab54, show St.nil = St.nil.pl [] from rfl]
  have f1 := k23 998 ⟨b, s, w, z, ti⟩
  simp only [Of5.cells, ofC] at f1
  by_cases g : Of5.may ⟨b, s, w, z, ti⟩
  · rw [if_pos g, decide_eq_true g] at f1
    obtain ⟨S1, m1, m2, m3⟩ := smay_val 997 ⟨f, t, a, c, b, s, w, z, ti⟩ (St.nil.pl [.cells 0 (suC f t a c b s w z ti)])
    by_cases g0 : Su.may0 ⟨f, t, a, c, b, s, w, z, ti⟩
    · have gg : Su.may ⟨f, t, a, c, b, s, w, z, ti⟩ := ⟨g0, g⟩
      rw [decide_eq_true g0] at m1
      rw [if_pos gg, decide_eq_true gg]
      have hf : 0 ≤ f := hx.1.1
      have ht : 0 ≤ t := hx.2.1
      have ha : 0 ≤ a ∧ a ≤ 255 := by have := g0.2.2; simp only at this; omega
      have hc : 0 ≤ c ∧ c ≤ 255 := by have := g0.2.2; simp only at this; omega
      have n0 : St.nil.next < (St.nil.pl [.cells 0 (suC f t a c b s w z ti)]).next := by rw [pl_next]; simp
      have q1 := m3.2 _ _ _ n0 (plg0 _ _ _)
      obtain ⟨z1, S2, p1, p2, p3, p4⟩ := put4_ev 998 (Own.nil St.nil S1) ((pl_ext St.nil _).trans m2) (by simp) f hf
      have n1 : St.nil.next < S1.next := Nat.lt_of_lt_of_le n0 m3.1
      have q2 := p4.2 _ _ _ n1 q1
      obtain ⟨z2, S3, p5, p6, p7, p8⟩ := put4_ev 998 p2 p3 (by simp [four]) t ht
      have n2 : St.nil.next < S2.next := Nat.lt_of_lt_of_le n1 p4.1
      have q3 := p8.2 _ _ _ n2 q2
      have n3 : St.nil.next < S3.next := Nat.lt_of_lt_of_le n2 p8.1
      have b1 := u8of a ha.1 ha.2
      have b2 := u8of c hc.1 hc.2
      obtain ⟨z3, S4, a1, a2, a3, a4⟩ := (p6.ext (pl_ext S3 [.tick 1 0])).appK (y := .sl [u8v (UInt8.ofNat a.toNat), u8v (UInt8.ofNat c.toNat)] 2 (some (S3.next, 0, 1))) (ys := [u8n a, u8n c]) rfl (p7.trans (pl_ext S3 _)) (by simp [four])
      have cs := a2.bys.str
      have fz1 := p2.bys.freeze
      have sa := str_add ([] ++ four f ++ four t ++ [u8n a, u8n c]) (offB ⟨b, s, w, z, ti⟩) (by simp [four, offB])
      have e : setB ⟨f, t, a, c, b, s, w, z, ti⟩ = [] ++ four f ++ four t ++ [u8n a, u8n c] ++ offB ⟨b, s, w, z, ti⟩ := by simp [setB]
      rw [e]
      simp only [Su.cells, suC] at m1 q1 q2 q3
      generalize [] ++ four f ++ four t ++ [u8n a, u8n c] = pre at *
      generalize offB ⟨b, s, w, z, ti⟩ = ob at *
      simp only [M54, Su.cells, suC, f1, m1, p1, p5, q1, q2, q3, fz1, ev1_boxV, ev1_extV, qES0, qES1, qES2, env0, List.length_cons, List.length_nil, Nat.reduceAdd, Nat.reduceSub, List.replicate, List.cons_append, List.nil_append, opd, Env.put, Env.at, List.set_cons_zero, List.set_cons_succ, List.getD_cons_zero, List.getD_cons_succ, freezeL, resVs, oneOr, Option.map_some, Option.map_none, List.map_cons, List.map_nil, if_true, if_false, Bool.not_true, Bool.not_false, Bool.false_eq_true, reduceIte, decide_true, decide_false, Int.reduceLT, Int.reduceLE, Int.reduceGT, Int.reduceGE, Int.reduceEq, Int.reduceBEq, Int.reduceBNe, load_ptr, ldV_some, cellAt_cells, List.getElem?_cons_zero, List.getElem?_cons_succ, store_ptr, stO_some, setAt_0, setAt_1, setAt_2, setAt_3, setAt_4, setAt_5, setAt_6, setAt_7, setAt_8, setAt_9, setAt_10, setAt_11, setAt_12, cells_int, cells_bool, cells_str, cells_nils, cells_nilp, cells_ptr, cells_sl, cells_u8, cells_u16, cells_agg, get_upd_is, Option.isSome_some, upd_upd, ev1_nchkV, ev1_faV, nchkV_ptr, faV_ptr, ev1_extV, extV_tup, eqptr_nil, eqptr_ptr, Nat.zero_add, Nat.add_zero, qPL0, qPL1, qPL2, qPL3, qPL4, qPL5, beq_self_eq_true, qED0, qED1, placeR]
      rw [drawR_ok]; case h => simp (config := { decide := true }) [calm, calmPair, calmTwo, List.range, List.range.loop, sameO_refl, q1, q2, q3]
      rw [show S3 = S3.pl [] from rfl] at q3 ⊢
      have q3' : (S3.pl []).get St.nil.next = _ := q3
      simp only [q3', b1, b2, a1, cs, sa, fill_2u_0, fill_2u_1, conv_int, qES0, qES1, qES2, env0, List.length_cons, List.length_nil, Nat.reduceAdd, Nat.reduceSub, List.replicate, List.cons_append, List.nil_append, opd, Env.put, Env.at, List.set_cons_zero, List.set_cons_succ, List.getD_cons_zero, List.getD_cons_succ, freezeL, resVs, oneOr, Option.map_some, Option.map_none, List.map_cons, List.map_nil, if_true, if_false, Bool.not_true, Bool.not_false, Bool.false_eq_true, reduceIte, decide_true, decide_false, Int.reduceLT, Int.reduceLE, Int.reduceGT, Int.reduceGE, Int.reduceEq, Int.reduceBEq, Int.reduceBNe, load_ptr, ldV_some, cellAt_cells, List.getElem?_cons_zero, List.getElem?_cons_succ, store_ptr, stO_some, setAt_0, setAt_1, setAt_2, setAt_3, setAt_4, setAt_5, setAt_6, setAt_7, setAt_8, setAt_9, setAt_10, setAt_11, setAt_12, cells_int, cells_bool, cells_str, cells_nils, cells_nilp, cells_ptr, cells_sl, cells_u8, cells_u16, cells_agg, get_upd_is, Option.isSome_some, upd_upd, ev1_nchkV, ev1_faV, nchkV_ptr, faV_ptr, ev1_extV, extV_tup, eqptr_nil, eqptr_ptr, Nat.zero_add, Nat.add_zero, qPL0, qPL1, qPL2, qPL3, qPL4, qPL5, beq_self_eq_true]
    · have gg : ¬ Su.may ⟨f, t, a, c, b, s, w, z, ti⟩ := fun h => g0 h.1
      rw [decide_eq_false g0] at m1
      rw [if_neg gg, decide_eq_false gg]
      simp only [Su.cells, suC] at m1
      simp only [M54, Su.cells, suC, f1, m1, ev1_boxV, ev1_extV, qES0, qES1, qES2, env0, List.length_cons, List.length_nil, Nat.reduceAdd, Nat.reduceSub, List.replicate, List.cons_append, List.nil_append, opd, Env.put, Env.at, List.set_cons_zero, List.set_cons_succ, List.getD_cons_zero, List.getD_cons_succ, freezeL, resVs, oneOr, Option.map_some, Option.map_none, List.map_cons, List.map_nil, if_true, if_false, Bool.not_true, Bool.not_false, Bool.false_eq_true, reduceIte, decide_true, decide_false, Int.reduceLT, Int.reduceLE, Int.reduceGT, Int.reduceGE, Int.reduceEq, Int.reduceBEq, Int.reduceBNe, load_ptr, ldV_some, cellAt_cells, List.getElem?_cons_zero, List.getElem?_cons_succ, store_ptr, stO_some, setAt_0, setAt_1, setAt_2, setAt_3, setAt_4, setAt_5, setAt_6, setAt_7, setAt_8, setAt_9, setAt_10, setAt_11, setAt_12, cells_int, cells_bool, cells_str, cells_nils, cells_nilp, cells_ptr, cells_sl, cells_u8, cells_u16, cells_agg, get_upd_is, Option.isSome_some, upd_upd, ev1_nchkV, ev1_faV, nchkV_ptr, faV_ptr, ev1_extV, extV_tup, eqptr_nil, eqptr_ptr, Nat.zero_add, Nat.add_zero, qPL0, qPL1, qPL2, qPL3, qPL4, qPL5, beq_self_eq_true]
  · rw [if_neg g, decide_eq_false g] at f1
    have gg : ¬ Su.may ⟨f, t, a, c, b, s, w, z, ti⟩ := fun h => g h.2
    rw [if_neg gg, decide_eq_false gg]
    simp only [M54, Su.cells, suC, f1, ev1_boxV, ev1_extV, qES0, qES1, qES2, env0, List.length_cons, List.length_nil, Nat.reduceAdd, Nat.reduceSub, List.replicate, List.cons_append, List.nil_append, opd, Env.put, Env.at, List.set_cons_zero, List.set_cons_succ, List.getD_cons_zero, List.getD_cons_succ, freezeL, resVs, oneOr, Option.map_some, Option.map_none, List.map_cons, List.map_nil, if_true, if_false, Bool.not_true, Bool.not_false, Bool.false_eq_true, reduceIte, decide_true, decide_false, Int.reduceLT, Int.reduceLE, Int.reduceGT, Int.reduceGE, Int.reduceEq, Int.reduceBEq, Int.reduceBNe, load_ptr, ldV_some, cellAt_cells, List.getElem?_cons_zero, List.getElem?_cons_succ, store_ptr, stO_some, setAt_0, setAt_1, setAt_2, setAt_3, setAt_4, setAt_5, setAt_6, setAt_7, setAt_8, setAt_9, setAt_10, setAt_11, setAt_12, cells_int, cells_bool, cells_str, cells_nils, cells_nilp, cells_ptr, cells_sl, cells_u8, cells_u16, cells_agg, get_upd_is, Option.isSome_some, upd_upd, ev1_nchkV, ev1_faV, nchkV_ptr, faV_ptr, ev1_extV, extV_tup, eqptr_nil, eqptr_ptr, Nat.zero_add, Nat.add_zero, qPL0, qPL1, qPL2, qPL3, qPL4, qPL5, beq_self_eq_true]
end Go.Proofs.YtbeimfhodgmjhaaDoor
