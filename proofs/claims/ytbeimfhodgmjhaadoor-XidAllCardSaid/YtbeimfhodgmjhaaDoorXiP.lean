/- xid.Put, as the evaluator answers it. No conditions. -/
import Derived.Test.YtbeimfhodgmjhaaDoorXi
set_option linter.unusedSimpArgs false
set_option linter.unusedVariables false
set_option maxRecDepth 100000
set_option maxHeartbeats 4000000
namespace Go.Proofs.YtbeimfhodgmjhaaDoor
open Go Go.Ab
theorem x_cut6 (z : Nat) (a0 a1 a2 a3 a4 a5 : AV) : cutO 0 6 (some (.cells z [a0, a1, a2, a3, a4, a5])) = some (.agg [a0, a1, a2, a3, a4, a5]) := (id rfl)
theorem x_res6 (s : St) (z : Nat) (a0 a1 a2 a3 a4 a5 : AV) : resC s (some 6) (some (.cells z [a0, a1, a2, a3, a4, a5])) 0 = some (.agg [a0, a1, a2, a3, a4, a5], s) := (id rfl)
theorem x_st6 (s : St) (b z : Nat) (a0 a1 a2 a3 a4 a5 x0 x1 x2 x3 x4 x5 : AV) : stB s b 0 6 [x0, x1, x2, x3, x4, x5] (some (.cells z [a0, a1, a2, a3, a4, a5])) = some (.undef, s.upd b (.cells z [x0, x1, x2, x3, x4, x5])) := by simp [stB, storeL, fillL]
theorem fill_3u_0 (a0 a1 a2 : AV) (k : IntKind) (n : Int) : fill1 [a0, a1, a2] 0 1 (.int k n) = some [.int k n, a1, a2] := fill1_c _ _ _ rfl (by simp)
theorem fill_3u_1 (a0 a1 a2 : AV) (x : UInt8) : fill1 [a0, a1, a2] 1 1 (u8v x) = some [a0, u8v x, a2] := fill1_c _ _ _ rfl (by simp)
theorem fill_3u_2 (a0 a1 a2 : AV) (x : UInt8) : fill1 [a0, a1, a2] 2 1 (u8v x) = some [a0, a1, u8v x] := fill1_c _ _ _ rfl (by simp)
theorem xput_val (M : Nat) (x : Xi) (hx : x.ok) (hl : x.nk.length ≤ M - 2) (hM : 2 ≤ M) : valR (evK (M + 3) 47 [.agg x.cells] St.nil) = some (.tup [.str (if x.may then putX x else []), .bool (decide x.may)]) := by
  obtain ⟨S1, m1, m2, m3⟩ := xmay_val M x hl hM (St.nil.pl [.cells 0 x.cells])
  obtain ⟨f, t, sl, n, an, nk⟩ := x
  rw [show M + 3 = (M + 2) + 1 from rfl, evK_in rfl tab47, show St.nil = St.nil.pl [] from rfl]
  by_cases g : Xi.may ⟨f, t, sl, n, an, nk⟩
  · rw [decide_eq_true g] at m1
    rw [if_pos g, decide_eq_true g]
    have hf : 0 ≤ f := hx.1.1
    have ht : 0 ≤ t := hx.2.1
    have hnk : nk.length ≤ 20 := by have := g.2.2.2.2; simp only at this; unfold mayN at this; simp at this; omega
    have hn : 0 ≤ n ∧ n ≤ 255 ∧ -1 ≤ sl ∧ sl < 8 := by have := g.2; simp only at this; omega
    have n0 : St.nil.next < (St.nil.pl [.cells 0 (xiC f t sl n an nk)]).next := by rw [pl_next]; simp
    have q1 := m3.2 _ _ _ n0 (plg0 _ _ _)
    obtain ⟨z1, S2, p1, p2, p3, p4⟩ := xput4_ev (M + 1) (Own.nil St.nil S1) ((pl_ext St.nil _).trans m2) (by simp) f hf
    have n1 : St.nil.next < S1.next := Nat.lt_of_lt_of_le n0 m3.1
    have q2 := p4.2 _ _ _ n1 q1
    obtain ⟨z2, S3, p5, p6, p7, p8⟩ := xput4_ev (M + 1) p2 p3 (by simp [four]) t ht
    have n2 : St.nil.next < S2.next := Nat.lt_of_lt_of_le n1 p4.1
    have q3 := p8.2 _ _ _ n2 q2
    have n3 : St.nil.next < S3.next := Nat.lt_of_lt_of_le n2 p8.1
    have b1 := u8of n hn.1 hn.2.1
    have b2 := slB_v sl hn.2.2.1 hn.2.2.2
    have fz1 := p2.bys.freeze
    have q5 : (S3.pl [.tick 1 0]).get St.nil.next = _ := ((pl_ext S3 _).get _ n3).trans q3
    have n5 : St.nil.next < (S3.pl [.tick 1 0]).next := by rw [pl_next]; omega
    cases an with
    | false =>
      obtain ⟨z3, S4, a1, a2, a3, a4⟩ := (p6.ext (pl_ext S3 [.tick 1 0])).appK (y := .sl [.int .u8 0, u8v (UInt8.ofNat n.toNat), u8v (slB sl)] 3 (some (S3.next, 0, 1))) (ys := [0, UInt8.ofNat n.toNat, slB sl]) rfl (p7.trans (pl_ext S3 _)) (by simp [four])
      have q4 := a4.2 _ _ _ n5 q5
      have cs := a2.bys.str
      have sa := str_add ([] ++ four f ++ four t ++ [0, UInt8.ofNat n.toNat, slB sl]) nk (by simp [four]; omega)
      have e : putX ⟨f, t, sl, n, false, nk⟩ = [] ++ four f ++ four t ++ [0, UInt8.ofNat n.toNat, slB sl] ++ nk := by simp [putX]
      rw [e]
      simp only [Xi.cells, xiC] at m1 q1 q2 q3 q4 q5
      generalize [] ++ four f ++ four t ++ [0, UInt8.ofNat n.toNat, slB sl] = pre at *
      simp only [M47, Xi.cells, xiC, m1, p1, p5, q1, q2, q3, fz1, x_cut6, ev1_boxV, ev1_extV, qES0, qES1, qES2, env0, List.length_cons, List.length_nil, Nat.reduceAdd, Nat.reduceSub, List.replicate, List.cons_append, List.nil_append, opd, Env.put, Env.at, List.set_cons_zero, List.set_cons_succ, List.getD_cons_zero, List.getD_cons_succ, freezeL, resVs, oneOr, Option.map_some, Option.map_none, List.map_cons, List.map_nil, if_true, if_false, Bool.not_true, Bool.not_false, Bool.false_eq_true, reduceIte, decide_true, decide_false, Int.reduceLT, Int.reduceLE, Int.reduceGT, Int.reduceGE, Int.reduceEq, Int.reduceBEq, Int.reduceBNe, load_ptr, ldV_some, cellAt_cells, List.getElem?_cons_zero, List.getElem?_cons_succ, store_ptr, stO_some, setAt_0, setAt_1, setAt_2, setAt_3, setAt_4, setAt_5, setAt_6, setAt_7, setAt_8, setAt_9, setAt_10, setAt_11, setAt_12, cells_int, cells_bool, cells_str, cells_nils, cells_nilp, cells_ptr, cells_sl, cells_u8, cells_u16, cells_agg, get_upd_is, Option.isSome_some, upd_upd, ev1_nchkV, ev1_faV, nchkV_ptr, faV_ptr, ev1_extV, extV_tup, eqptr_nil, eqptr_ptr, Nat.zero_add, Nat.add_zero, qPL0, qPL1, qPL2, qPL3, qPL4, qPL5, beq_self_eq_true, qED0, qED1, placeR]
      rw [drawR_ok]; case h => simp (config := { decide := true }) [calm, calmPair, calmTwo, List.range, List.range.loop, sameO_refl, q1, q2, q3]
      rw [show S3 = S3.pl [] from rfl] at q3 ⊢
      have q3' : (S3.pl []).get St.nil.next = _ := q3
      simp only [q3', q4, q5, b1, b2, a1, cs, sa, fill_3u_0, fill_3u_1, fill_3u_2, conv_int, qES0, qES1, qES2, env0, List.length_cons, List.length_nil, Nat.reduceAdd, Nat.reduceSub, List.replicate, List.cons_append, List.nil_append, opd, Env.put, Env.at, List.set_cons_zero, List.set_cons_succ, List.getD_cons_zero, List.getD_cons_succ, freezeL, resVs, oneOr, Option.map_some, Option.map_none, List.map_cons, List.map_nil, if_true, if_false, Bool.not_true, Bool.not_false, Bool.false_eq_true, reduceIte, decide_true, decide_false, Int.reduceLT, Int.reduceLE, Int.reduceGT, Int.reduceGE, Int.reduceEq, Int.reduceBEq, Int.reduceBNe, load_ptr, ldV_some, cellAt_cells, List.getElem?_cons_zero, List.getElem?_cons_succ, store_ptr, stO_some, setAt_0, setAt_1, setAt_2, setAt_3, setAt_4, setAt_5, setAt_6, setAt_7, setAt_8, setAt_9, setAt_10, setAt_11, setAt_12, cells_int, cells_bool, cells_str, cells_nils, cells_nilp, cells_ptr, cells_sl, cells_u8, cells_u16, cells_agg, get_upd_is, Option.isSome_some, upd_upd, ev1_nchkV, ev1_faV, nchkV_ptr, faV_ptr, ev1_extV, extV_tup, eqptr_nil, eqptr_ptr, Nat.zero_add, Nat.add_zero, qPL0, qPL1, qPL2, qPL3, qPL4, qPL5, beq_self_eq_true, qED0, qED1, placeR]
      rw [drawR_ok]; case h => simp (config := { decide := true }) [calm, calmPair, calmTwo, List.range, List.range.loop, sameO_refl, q3', q4, q5]
      simp only [qES0, qES1, qES2, env0, List.length_cons, List.length_nil, Nat.reduceAdd, Nat.reduceSub, List.replicate, List.cons_append, List.nil_append, opd, Env.put, Env.at, List.set_cons_zero, List.set_cons_succ, List.getD_cons_zero, List.getD_cons_succ, freezeL, resVs, oneOr, Option.map_some, Option.map_none, List.map_cons, List.map_nil, if_true, if_false, Bool.not_true, Bool.not_false, Bool.false_eq_true, reduceIte, decide_true, decide_false, Int.reduceLT, Int.reduceLE, Int.reduceGT, Int.reduceGE, Int.reduceEq, Int.reduceBEq, Int.reduceBNe, load_ptr, ldV_some, cellAt_cells, List.getElem?_cons_zero, List.getElem?_cons_succ, store_ptr, stO_some, setAt_0, setAt_1, setAt_2, setAt_3, setAt_4, setAt_5, setAt_6, setAt_7, setAt_8, setAt_9, setAt_10, setAt_11, setAt_12, cells_int, cells_bool, cells_str, cells_nils, cells_nilp, cells_ptr, cells_sl, cells_u8, cells_u16, cells_agg, get_upd_is, Option.isSome_some, upd_upd, ev1_nchkV, ev1_faV, nchkV_ptr, faV_ptr, ev1_extV, extV_tup, eqptr_nil, eqptr_ptr, Nat.zero_add, Nat.add_zero, qPL0, qPL1, qPL2, qPL3, qPL4, qPL5, beq_self_eq_true]
    | true =>
      obtain ⟨z3, S4, a1, a2, a3, a4⟩ := (p6.ext (pl_ext S3 [.tick 1 0])).appK (y := .sl [.int .u8 1, u8v (UInt8.ofNat n.toNat), u8v (slB sl)] 3 (some (S3.next, 0, 1))) (ys := [1, UInt8.ofNat n.toNat, slB sl]) rfl (p7.trans (pl_ext S3 _)) (by simp [four])
      have q4 := a4.2 _ _ _ n5 q5
      have cs := a2.bys.str
      have sa := str_add ([] ++ four f ++ four t ++ [1, UInt8.ofNat n.toNat, slB sl]) nk (by simp [four]; omega)
      have e : putX ⟨f, t, sl, n, true, nk⟩ = [] ++ four f ++ four t ++ [1, UInt8.ofNat n.toNat, slB sl] ++ nk := by simp [putX]
      rw [e]
      simp only [Xi.cells, xiC] at m1 q1 q2 q3 q4 q5
      generalize [] ++ four f ++ four t ++ [1, UInt8.ofNat n.toNat, slB sl] = pre at *
      simp only [M47, Xi.cells, xiC, m1, p1, p5, q1, q2, q3, fz1, x_cut6, ev1_boxV, ev1_extV, qES0, qES1, qES2, env0, List.length_cons, List.length_nil, Nat.reduceAdd, Nat.reduceSub, List.replicate, List.cons_append, List.nil_append, opd, Env.put, Env.at, List.set_cons_zero, List.set_cons_succ, List.getD_cons_zero, List.getD_cons_succ, freezeL, resVs, oneOr, Option.map_some, Option.map_none, List.map_cons, List.map_nil, if_true, if_false, Bool.not_true, Bool.not_false, Bool.false_eq_true, reduceIte, decide_true, decide_false, Int.reduceLT, Int.reduceLE, Int.reduceGT, Int.reduceGE, Int.reduceEq, Int.reduceBEq, Int.reduceBNe, load_ptr, ldV_some, cellAt_cells, List.getElem?_cons_zero, List.getElem?_cons_succ, store_ptr, stO_some, setAt_0, setAt_1, setAt_2, setAt_3, setAt_4, setAt_5, setAt_6, setAt_7, setAt_8, setAt_9, setAt_10, setAt_11, setAt_12, cells_int, cells_bool, cells_str, cells_nils, cells_nilp, cells_ptr, cells_sl, cells_u8, cells_u16, cells_agg, get_upd_is, Option.isSome_some, upd_upd, ev1_nchkV, ev1_faV, nchkV_ptr, faV_ptr, ev1_extV, extV_tup, eqptr_nil, eqptr_ptr, Nat.zero_add, Nat.add_zero, qPL0, qPL1, qPL2, qPL3, qPL4, qPL5, beq_self_eq_true, qED0, qED1, placeR]
      rw [drawR_ok]; case h => simp (config := { decide := true }) [calm, calmPair, calmTwo, List.range, List.range.loop, sameO_refl, q1, q2, q3]
      rw [show S3 = S3.pl [] from rfl] at q3 ⊢
      have q3' : (S3.pl []).get St.nil.next = _ := q3
      simp only [q3', q4, q5, b1, b2, a1, cs, sa, fill_3u_0, fill_3u_1, fill_3u_2, conv_int, qES0, qES1, qES2, env0, List.length_cons, List.length_nil, Nat.reduceAdd, Nat.reduceSub, List.replicate, List.cons_append, List.nil_append, opd, Env.put, Env.at, List.set_cons_zero, List.set_cons_succ, List.getD_cons_zero, List.getD_cons_succ, freezeL, resVs, oneOr, Option.map_some, Option.map_none, List.map_cons, List.map_nil, if_true, if_false, Bool.not_true, Bool.not_false, Bool.false_eq_true, reduceIte, decide_true, decide_false, Int.reduceLT, Int.reduceLE, Int.reduceGT, Int.reduceGE, Int.reduceEq, Int.reduceBEq, Int.reduceBNe, load_ptr, ldV_some, cellAt_cells, List.getElem?_cons_zero, List.getElem?_cons_succ, store_ptr, stO_some, setAt_0, setAt_1, setAt_2, setAt_3, setAt_4, setAt_5, setAt_6, setAt_7, setAt_8, setAt_9, setAt_10, setAt_11, setAt_12, cells_int, cells_bool, cells_str, cells_nils, cells_nilp, cells_ptr, cells_sl, cells_u8, cells_u16, cells_agg, get_upd_is, Option.isSome_some, upd_upd, ev1_nchkV, ev1_faV, nchkV_ptr, faV_ptr, ev1_extV, extV_tup, eqptr_nil, eqptr_ptr, Nat.zero_add, Nat.add_zero, qPL0, qPL1, qPL2, qPL3, qPL4, qPL5, beq_self_eq_true, qED0, qED1, placeR]
      rw [drawR_ok]; case h => simp (config := { decide := true }) [calm, calmPair, calmTwo, List.range, List.range.loop, sameO_refl, q3', q4, q5]
      simp only [qES0, qES1, qES2, env0, List.length_cons, List.length_nil, Nat.reduceAdd, Nat.reduceSub, List.replicate, List.cons_append, List.nil_append, opd, Env.put, Env.at, List.set_cons_zero, List.set_cons_succ, List.getD_cons_zero, List.getD_cons_succ, freezeL, resVs, oneOr, Option.map_some, Option.map_none, List.map_cons, List.map_nil, if_true, if_false, Bool.not_true, Bool.not_false, Bool.false_eq_true, reduceIte, decide_true, decide_false, Int.reduceLT, Int.reduceLE, Int.reduceGT, Int.reduceGE, Int.reduceEq, Int.reduceBEq, Int.reduceBNe, load_ptr, ldV_some, cellAt_cells, List.getElem?_cons_zero, List.getElem?_cons_succ, store_ptr, stO_some, setAt_0, setAt_1, setAt_2, setAt_3, setAt_4, setAt_5, setAt_6, setAt_7, setAt_8, setAt_9, setAt_10, setAt_11, setAt_12, cells_int, cells_bool, cells_str, cells_nils, cells_nilp, cells_ptr, cells_sl, cells_u8, cells_u16, cells_agg, get_upd_is, Option.isSome_some, upd_upd, ev1_nchkV, ev1_faV, nchkV_ptr, faV_ptr, ev1_extV, extV_tup, eqptr_nil, eqptr_ptr, Nat.zero_add, Nat.add_zero, qPL0, qPL1, qPL2, qPL3, qPL4, qPL5, beq_self_eq_true]
  · rw [decide_eq_false g] at m1
    rw [if_neg g, decide_eq_false g]
    simp only [Xi.cells, xiC] at m1
    simp only [M47, Xi.cells, xiC, m1, x_cut6, ev1_boxV, ev1_extV, qES0, qES1, qES2, env0, List.length_cons, List.length_nil, Nat.reduceAdd, Nat.reduceSub, List.replicate, List.cons_append, List.nil_append, opd, Env.put, Env.at, List.set_cons_zero, List.set_cons_succ, List.getD_cons_zero, List.getD_cons_succ, freezeL, resVs, oneOr, Option.map_some, Option.map_none, List.map_cons, List.map_nil, if_true, if_false, Bool.not_true, Bool.not_false, Bool.false_eq_true, reduceIte, decide_true, decide_false, Int.reduceLT, Int.reduceLE, Int.reduceGT, Int.reduceGE, Int.reduceEq, Int.reduceBEq, Int.reduceBNe, load_ptr, ldV_some, cellAt_cells, List.getElem?_cons_zero, List.getElem?_cons_succ, store_ptr, stO_some, setAt_0, setAt_1, setAt_2, setAt_3, setAt_4, setAt_5, setAt_6, setAt_7, setAt_8, setAt_9, setAt_10, setAt_11, setAt_12, cells_int, cells_bool, cells_str, cells_nils, cells_nilp, cells_ptr, cells_sl, cells_u8, cells_u16, cells_agg, get_upd_is, Option.isSome_some, upd_upd, ev1_nchkV, ev1_faV, nchkV_ptr, faV_ptr, ev1_extV, extV_tup, eqptr_nil, eqptr_ptr, Nat.zero_add, Nat.add_zero, qPL0, qPL1, qPL2, qPL3, qPL4, qPL5, beq_self_eq_true]
end Go.Proofs.YtbeimfhodgmjhaaDoor
