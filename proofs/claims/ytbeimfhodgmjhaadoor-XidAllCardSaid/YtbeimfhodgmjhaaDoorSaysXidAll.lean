/- What the evaluator says of the law XidAll: true. No conditions. -/
import Derived.Test.YtbeimfhodgmjhaaDoorXAll
import Derived.Test.YtbeimfhodgmjhaaDoorPlainT8
namespace Go.Proofs.YtbeimfhodgmjhaaDoor.xidAll
open Go Go.Ab
set_option linter.unusedVariables false
set_option linter.unusedSimpArgs false
set_option maxRecDepth 100000 in
set_option maxHeartbeats 8000000 in
theorem says (as0 : List Ab.AV) (hs0 : Ab.ScL Tryd.prog xidTypes as0) (b1 : List UInt8) (hb1 : (b1.length : Int) ≤ IntKind.i64.max) (x2 : Ab.AV) (z2 : List Int) (hx2 : Ab.IsNums .u32 x2 z2 ∧ ∀ n ∈ z2, (Lit.int .u32 n).wf = true) (x3 : Ab.AV) (z3 : List Int) (hx3 : Ab.IsNums .u32 x3 z3 ∧ ∀ n ∈ z3, (Lit.int .u32 n).wf = true) : Ab.saysTrue (evU3 1000 7 [.agg as0, .str b1, x2, x3] Ab.St.nil) = true := by
  have ok_of : ∀ {n : Int}, IntKind.has .u32 n → is32 n := by
    intro n hf
    unfold IntKind.has at hf; simp only [IntKind.min, IntKind.max, IntKind.bits, IntKind.signed] at hf; unfold is32; simp at hf ⊢; omega
  obtain ⟨f, t, sl, n, an, nk, rfl, hf, ht⟩ := xid_of hs0
  have hb := w21 998
  have hT1 : ∀ s, evU3 (998 + 1) 22 [.str nk, .int .i64 25] s = some (.str (nk.take 25), s) := w22 998 nk 25
  have hT2 : ∀ s, evU3 (998 + 1) 22 [.str b1, .int .i64 40] s = some (.str (b1.take 40), s) := w22 998 b1 40
  have hnk : (nk.take 25).length ≤ 25 := by rw [List.length_take]; omega
  have hx : (Xi.mk f t sl n an (nk.take 25)).ok := ⟨ok_of hf, ok_of ht⟩
  have h47 := w47 998 ⟨f, t, sl, n, an, nk.take 25⟩ hx
  have h48 := w48 998 ⟨f, t, sl, n, an, nk.take 25⟩ hx (by show (nk.take 25).length ≤ 900; omega)
  have h49 := w49 998 ⟨f, t, sl, n, an, nk.take 25⟩ hx (by show (nk.take 25).length ≤ 900; omega)
  obtain ⟨v, sv, hv⟩ := nums_slo hx2.1 (min z2.length 8) (by omega)
  obtain ⟨w, sw, hw⟩ := nums_slo hx3.1 (min z3.length 8) (by omega)
  have l2 := nums_len hx2.1
  have l3 := nums_len hx3.1
  have m2 : mn2V (.int .i64 (z2.length : Nat)) (.int .i64 8) = some (.int .i64 ((min z2.length 8 : Nat) : Int)) := by
    rw [mn2_i64]; refine congrArg (fun i => some (AV.int .i64 i)) ?_; split <;> omega
  have m3 : mn2V (.int .i64 (z3.length : Nat)) (.int .i64 8) = some (.int .i64 ((min z3.length 8 : Nat) : Int)) := by
    rw [mn2_i64]; refine congrArg (fun i => some (AV.int .i64 i)) ?_; split <;> omega
  have m2' : (if (8 : Int) < (z2.length : Nat) then (8 : Int) else (z2.length : Nat)) = ((min z2.length 8 : Nat) : Int) := by split <;> omega
  have m3' : (if (8 : Int) < (z3.length : Nat) then (8 : Int) else (z3.length : Nat)) = ((min z3.length 8 : Nat) : Int) := by split <;> omega
  have hd : (z2.take (min z2.length 8)).length ≤ 100 := by rw [List.length_take]; omega
  have hn : (z3.take (min z3.length 8)).length ≤ 100 := by rw [List.length_take]; omega
  generalize z2.take (min z2.length 8) = ds at *
  generalize z3.take (min z3.length 8) = no at *
  have hA : (decide (Xi.may ⟨f, t, sl, n, an, nk.take 25⟩) = true ∧ getX (if Xi.may ⟨f, t, sl, n, an, nk.take 25⟩ then putX ⟨f, t, sl, n, an, nk.take 25⟩ else []) = some ⟨f, t, sl, n, an, nk.take 25⟩) ∨ (decide (Xi.may ⟨f, t, sl, n, an, nk.take 25⟩) = false ∧ getX (if Xi.may ⟨f, t, sl, n, an, nk.take 25⟩ then putX ⟨f, t, sl, n, an, nk.take 25⟩ else []) = none) := by
    by_cases g : Xi.may ⟨f, t, sl, n, an, nk.take 25⟩
    · refine .inl ⟨decide_eq_true g, ?_⟩
      rw [if_pos g]
      unfold getX
      rw [rdX_putX _ hx g]
      exact if_pos ⟨g, rfl⟩
    · exact .inr ⟨decide_eq_false g, by rw [if_neg g]; rfl⟩
  have hAl : (if Xi.may ⟨f, t, sl, n, an, nk.take 25⟩ then putX ⟨f, t, sl, n, an, nk.take 25⟩ else []).length ≤ 100 := by
    split
    · rw [putX_len]; show 11 + (nk.take 25).length ≤ 100; omega
    · simp
  generalize (if Xi.may ⟨f, t, sl, n, an, nk.take 25⟩ then putX ⟨f, t, sl, n, an, nk.take 25⟩ else []) = A at *
  generalize decide (Xi.may ⟨f, t, sl, n, an, nk.take 25⟩) = ok at *
  have hTl : (b1.take 40).length ≤ 40 := by rw [List.length_take]; omega
  generalize b1.take 40 = T at *
  generalize nk.take 25 = nk' at *
  have l3' : ∀ cs tk, lenV (.sl cs 3 tk) = some (.int .i64 3) := fun _ _ => rfl
  have sn : binV .neq (.str A) (.str A) = some (.bool false) := by
    show some (AV.bool (A != A)) = _
    simp
  have qb := eqB ok
  have lx : lensV' (.str A) = some (.int .i64 (A.length : Nat)) := rfl
  have m0 : mn2V (.int .i64 (A.length : Nat)) (.int .i64 10) = some (.int .i64 ((min A.length 10 : Nat) : Int)) := by
    rw [mn2_i64]; refine congrArg (fun i => some (AV.int .i64 i)) ?_; split <;> omega
  have m0' : (if (10 : Int) < (A.length : Nat) then (10 : Int) else (A.length : Nat)) = ((min A.length 10 : Nat) : Int) := by split <;> omega
  have ss := slcS_str A ((min A.length 10 : Nat) : Int) (by omega) (by omega)
  rw [Int.toNat_natCast] at ss
  have hl := fun (l : List Ab.Obj) (tk) => xid_loop ⟨f, t, sl, n, an, nk'⟩ A ok hA hAl hv hw hd hn [A, T, A.take (min A.length 10)] rfl (by
    intro u hu
    simp only [List.mem_cons, List.not_mem_nil, or_false] at hu
    rcases hu with rfl | rfl | rfl
    · omega
    · omega
    · rw [List.length_take]; omega) tk (St.nil.pl (.cells 0 (Xi.cells ⟨f, t, sl, n, an, nk'⟩) :: l)) (plg0 _ _ _) (by rw [pl_next]; simp)
  simp only [Xi.cells, xiC] at h47 h48 h49 hl
  rw [show (1000 : Nat) = 999 + 1 from rfl, evU3_in rfl tab7]
  refine says_of ?_
  rw [show St.nil = St.nil.pl [] from rfl]
  simp only [M7, l3', hb, hT1, hT2, h47, h48, h49, l2, l3, m2, m3, m2', m3', sv, sw, sn, qb, lx, m0, m0', ss, x_cut6, x_st6, evC_loop, evP_mn2, ev1_mn, ev1_eqv, ev1_boxV, ev1_extV, ev1_slsV, ev1_lensV', qES0, qES1, qES2, env0, List.length_cons, List.length_nil, Nat.reduceAdd, Nat.reduceSub, List.replicate, List.cons_append, List.nil_append, opd, Env.put, Env.at, List.set_cons_zero, List.set_cons_succ, List.getD_cons_zero, List.getD_cons_succ, freezeL, resVs, oneOr, Option.map_some, Option.map_none, List.map_cons, List.map_nil, if_true, if_false, Bool.not_true, Bool.not_false, Bool.false_eq_true, reduceIte, decide_true, decide_false, Int.reduceLT, Int.reduceLE, Int.reduceGT, Int.reduceGE, Int.reduceEq, Int.reduceBEq, Int.reduceBNe, load_ptr, ldV_some, cellAt_cells, List.getElem?_cons_zero, List.getElem?_cons_succ, store_ptr, stO_some, setAt_0, setAt_1, setAt_2, setAt_3, setAt_4, setAt_5, setAt_6, setAt_7, setAt_8, setAt_9, setAt_10, setAt_11, setAt_12, cells_int, cells_bool, cells_str, cells_nils, cells_nilp, cells_ptr, cells_sl, cells_u8, cells_u16, cells_agg, get_upd_is, Option.isSome_some, upd_upd, ev1_nchkV, ev1_faV, nchkV_ptr, faV_ptr, ev1_extV, extV_tup, eqptr_nil, eqptr_ptr, Nat.zero_add, Nat.add_zero, qPL0, qPL1, qPL2, qPL3, qPL4, qPL5, beq_self_eq_true, qED0, qED1, placeR]
  rw [drawR_ok]; case h => simp (config := { decide := true }) [calm, calmPair, calmTwo, List.range, List.range.loop, sameO_refl, plg0]
  simp only [M7, l3', hb, hT1, hT2, h47, h48, h49, l2, l3, m2, m3, m2', m3', sv, sw, sn, qb, lx, m0, m0', ss, x_cut6, x_st6, evC_loop, evP_mn2, ev1_mn, ev1_eqv, ev1_boxV, ev1_extV, ev1_slsV, ev1_lensV', qES0, qES1, qES2, env0, List.length_cons, List.length_nil, Nat.reduceAdd, Nat.reduceSub, List.replicate, List.cons_append, List.nil_append, opd, Env.put, Env.at, List.set_cons_zero, List.set_cons_succ, List.getD_cons_zero, List.getD_cons_succ, freezeL, resVs, oneOr, Option.map_some, Option.map_none, List.map_cons, List.map_nil, if_true, if_false, Bool.not_true, Bool.not_false, Bool.false_eq_true, reduceIte, decide_true, decide_false, Int.reduceLT, Int.reduceLE, Int.reduceGT, Int.reduceGE, Int.reduceEq, Int.reduceBEq, Int.reduceBNe, load_ptr, ldV_some, cellAt_cells, List.getElem?_cons_zero, List.getElem?_cons_succ, store_ptr, stO_some, setAt_0, setAt_1, setAt_2, setAt_3, setAt_4, setAt_5, setAt_6, setAt_7, setAt_8, setAt_9, setAt_10, setAt_11, setAt_12, cells_int, cells_bool, cells_str, cells_nils, cells_nilp, cells_ptr, cells_sl, cells_u8, cells_u16, cells_agg, get_upd_is, Option.isSome_some, upd_upd, ev1_nchkV, ev1_faV, nchkV_ptr, faV_ptr, ev1_extV, extV_tup, eqptr_nil, eqptr_ptr, Nat.zero_add, Nat.add_zero, qPL0, qPL1, qPL2, qPL3, qPL4, qPL5, beq_self_eq_true, qED0, qED1, placeR]
  exact hl [.tick 1 0] _ _ rfl
end Go.Proofs.YtbeimfhodgmjhaaDoor.xidAll
