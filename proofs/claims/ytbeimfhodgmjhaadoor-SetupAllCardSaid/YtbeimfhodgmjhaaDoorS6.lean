/- The document's beginnings: PutSetup, as the evaluator answers it. No conditions. -/
import Derived.Test.YtbeimfhodgmjhaaDoorS5
import Derived.Test.YtbeimfhodgmjhaaDoorBsi
set_option linter.unusedSimpArgs false
set_option linter.unusedVariables false
set_option maxRecDepth 100000
set_option maxHeartbeats 4000000
namespace Go.Proofs.YtbeimfhodgmjhaaDoor
open Go Go.Ab
theorem rsput_val (x : Su) (hx : x.ok) : valR (evK 1000 55 [.agg x.cells] St.nil) = some (.tup [.str (if x.may then setB x else []), .bool (decide x.may)]) := by
  obtain ⟨f, t, a, c, b, s, w, z, ti⟩ := x
  rw [show (1000 : Nat) = 999 + 1 from rfl, evK_in rfl tab55, show St.nil = St.nil.pl [] from rfl]
  obtain ⟨S1, m1, m2, m3⟩ := rsmay_val 997 ⟨f, t, a, c, b, s, w, z, ti⟩ (St.nil.pl [.cells 0 (suC f t a c b s w z ti)])
  by_cases gg : Su.may ⟨f, t, a, c, b, s, w, z, ti⟩
  · rw [decide_eq_true gg] at m1
    rw [if_pos gg, decide_eq_true gg]
    have f1 := k24 998 ⟨b, s, w, z, ti⟩
    simp only [Of5.cells, ofC] at f1
    rw [if_pos gg.2, decide_eq_true gg.2] at f1
    have ha : 0 ≤ a ∧ a ≤ 255 := by have := gg.1.2.2; simp only at this; omega
    have hc : 0 ≤ c ∧ c ≤ 255 := by have := gg.1.2.2; simp only at this; omega
    have n0 : St.nil.next < (St.nil.pl [.cells 0 (suC f t a c b s w z ti)]).next := by rw [pl_next]; simp
    have q1 := m3.2 _ _ _ n0 (plg0 _ _ _)
    have n1 : St.nil.next < S1.next := Nat.lt_of_lt_of_le n0 m3.1
    obtain ⟨S2, p1, p2⟩ := four_ev 998 f hx.1 S1
    have q2 := p2.2 _ _ _ n1 q1
    have n2 : St.nil.next < S2.next := Nat.lt_of_lt_of_le n1 p2.1
    obtain ⟨S3, p3, p4⟩ := four_ev 998 t hx.2 S2
    have q3 := p4.2 _ _ _ n2 q2
    have n3 : St.nil.next < S3.next := Nat.lt_of_lt_of_le n2 p4.1
    have b1 := u8of a ha.1 ha.2
    have b2 := u8of c hc.1 hc.2
    have b3 := b2s_two (UInt8.ofNat a.toNat) (UInt8.ofNat c.toNat)
    have s1 := str_add (four f) (four t) (by simp [four])
    have s2 := str_add (four f ++ four t) [UInt8.ofNat a.toNat, UInt8.ofNat c.toNat] (by simp [four])
    have s3 := str_add (four f ++ four t ++ [UInt8.ofNat a.toNat, UInt8.ofNat c.toNat]) (offB ⟨b, s, w, z, ti⟩) (by simp [four, offB])
    have e : setB ⟨f, t, a, c, b, s, w, z, ti⟩ = four f ++ four t ++ [UInt8.ofNat a.toNat, UInt8.ofNat c.toNat] ++ offB ⟨b, s, w, z, ti⟩ := rfl
    rw [e]
    simp only [Su.cells, suC] at m1 q1 q2 q3
    generalize offB ⟨b, s, w, z, ti⟩ = ob at *
    have q3' : (S3.pl []).get St.nil.next = _ := q3
    have p3' : evK (998 + 1) 75 [.int .u32 t] S2 = some (.str (four t), S3.pl []) := p3
    simp only [M55, Su.cells, suC, f1, m1, p1, p3', q1, q2, q3', b1, b2, b3, s1, s2, s3, fill_2u_0, fill_2u_1, conv_int, az_bsi, bk_bsi, ev1_bsiR, bsiR_sl, ev1_boxV, ev1_extV, qES0, qES1, qES2, env0, List.length_cons, List.length_nil, Nat.reduceAdd, Nat.reduceSub, List.replicate, List.cons_append, List.nil_append, opd, Env.put, Env.at, List.set_cons_zero, List.set_cons_succ, List.getD_cons_zero, List.getD_cons_succ, freezeL, resVs, oneOr, Option.map_some, Option.map_none, List.map_cons, List.map_nil, if_true, if_false, Bool.not_true, Bool.not_false, Bool.false_eq_true, reduceIte, decide_true, decide_false, Int.reduceLT, Int.reduceLE, Int.reduceGT, Int.reduceGE, Int.reduceEq, Int.reduceBEq, Int.reduceBNe, load_ptr, ldV_some, cellAt_cells, List.getElem?_cons_zero, List.getElem?_cons_succ, store_ptr, stO_some, setAt_0, setAt_1, setAt_2, setAt_3, setAt_4, setAt_5, setAt_6, setAt_7, setAt_8, setAt_9, setAt_10, setAt_11, setAt_12, cells_int, cells_bool, cells_str, cells_nils, cells_nilp, cells_ptr, cells_sl, cells_u8, cells_u16, cells_agg, get_upd_is, Option.isSome_some, upd_upd, ev1_nchkV, ev1_faV, nchkV_ptr, faV_ptr, ev1_extV, extV_tup, eqptr_nil, eqptr_ptr, Nat.zero_add, Nat.add_zero, qPL0, qPL1, qPL2, qPL3, qPL4, qPL5, beq_self_eq_true, qED0, qED1, placeR]
    rw [drawR_ok]; case h => simp (config := { decide := true }) [calm, calmPair, calmTwo, List.range, List.range.loop, sameO_refl, q1, q2, q3, q3']
    simp only [qES0, qES1, qES2, env0, List.length_cons, List.length_nil, Nat.reduceAdd, Nat.reduceSub, List.replicate, List.cons_append, List.nil_append, opd, Env.put, Env.at, List.set_cons_zero, List.set_cons_succ, List.getD_cons_zero, List.getD_cons_succ, freezeL, resVs, oneOr, Option.map_some, Option.map_none, List.map_cons, List.map_nil, if_true, if_false, Bool.not_true, Bool.not_false, Bool.false_eq_true, reduceIte, decide_true, decide_false, Int.reduceLT, Int.reduceLE, Int.reduceGT, Int.reduceGE, Int.reduceEq, Int.reduceBEq, Int.reduceBNe, load_ptr, ldV_some, cellAt_cells, List.getElem?_cons_zero, List.getElem?_cons_succ, store_ptr, stO_some, setAt_0, setAt_1, setAt_2, setAt_3, setAt_4, setAt_5, setAt_6, setAt_7, setAt_8, setAt_9, setAt_10, setAt_11, setAt_12, cells_int, cells_bool, cells_str, cells_nils, cells_nilp, cells_ptr, cells_sl, cells_u8, cells_u16, cells_agg, get_upd_is, Option.isSome_some, upd_upd, ev1_nchkV, ev1_faV, nchkV_ptr, faV_ptr, ev1_extV, extV_tup, eqptr_nil, eqptr_ptr, Nat.zero_add, Nat.add_zero, qPL0, qPL1, qPL2, qPL3, qPL4, qPL5, beq_self_eq_true]
  · rw [decide_eq_false gg] at m1
    rw [if_neg gg, decide_eq_false gg]
    simp only [Su.cells, suC] at m1
    simp only [M55, Su.cells, suC, m1, ev1_boxV, ev1_extV, qES0, qES1, qES2, env0, List.length_cons, List.length_nil, Nat.reduceAdd, Nat.reduceSub, List.replicate, List.cons_append, List.nil_append, opd, Env.put, Env.at, List.set_cons_zero, List.set_cons_succ, List.getD_cons_zero, List.getD_cons_succ, freezeL, resVs, oneOr, Option.map_some, Option.map_none, List.map_cons, List.map_nil, if_true, if_false, Bool.not_true, Bool.not_false, Bool.false_eq_true, reduceIte, decide_true, decide_false, Int.reduceLT, Int.reduceLE, Int.reduceGT, Int.reduceGE, Int.reduceEq, Int.reduceBEq, Int.reduceBNe, load_ptr, ldV_some, cellAt_cells, List.getElem?_cons_zero, List.getElem?_cons_succ, store_ptr, stO_some, setAt_0, setAt_1, setAt_2, setAt_3, setAt_4, setAt_5, setAt_6, setAt_7, setAt_8, setAt_9, setAt_10, setAt_11, setAt_12, cells_int, cells_bool, cells_str, cells_nils, cells_nilp, cells_ptr, cells_sl, cells_u8, cells_u16, cells_agg, get_upd_is, Option.isSome_some, upd_upd, ev1_nchkV, ev1_faV, nchkV_ptr, faV_ptr, ev1_extV, extV_tup, eqptr_nil, eqptr_ptr, Nat.zero_add, Nat.add_zero, qPL0, qPL1, qPL2, qPL3, qPL4, qPL5, beq_self_eq_true]
end Go.Proofs.YtbeimfhodgmjhaaDoor
