/- What the evaluator says of the law NickLaws: true. No conditions. -/
import Derived.Test.YthcblggiojpmcaaDoorTpW
import Derived.Test.YthcblggiojpmcaaDoorM4_4
import Derived.Test.YthcblggiojpmcaaDoorPlainT
import Derived.Test.YthcblggiojpmcaaDoorArgS
namespace Go.Proofs.YthcblggiojpmcaaDoor.nickLaws
open Go Go.Ab
set_option linter.unusedVariables false
set_option linter.unusedSimpArgs false
set_option maxRecDepth 100000 in
set_option maxHeartbeats 8000000 in
theorem says (b0 : List UInt8) (hb0 : (b0.length : Int) ≤ IntKind.i64.max) (n1 : Int) (hn1 : IntKind.has .i64 n1) (n2 : Int) (hn2 : IntKind.has .i64 n2) : Ab.saysTrue (evP' 1000 4 [.str b0, .int .i64 n1, .int .i64 n2] Ab.St.nil) = true := by
  have hb := p20 998
  have hT : ∀ s, evP' (998 + 1) 21 [.str b0, .int .i64 30] s = some (.str (b0.take 30), s) := p21 998 b0 30
  have hl30 : (b0.take 30).length ≤ 30 := by rw [List.length_take]; omega
  generalize b0.take 30 = l at *
  have hl : l.length ≤ 900 := by omega
  have md : ∀ n : Int, -25 < n.tmod 25 ∧ n.tmod 25 < 25 := fun n => by
    have h1 := Int.tmod_lt_of_pos n (show (0 : Int) < 25 by omega)
    have h2 := Int.tmod_lt_of_pos (-n) (show (0 : Int) < 25 by omega)
    rw [Int.neg_tmod] at h2
    omega
  have rr : ∀ n : Int, binV .rem (.int .i64 n) (.int .i64 25) = some (.int .i64 (n.tmod 25)) := fun n => i64_rem n 25 (by omega)
  obtain ⟨a1, a2⟩ := md n1
  obtain ⟨c1, c2⟩ := md n2
  have w1 : IntKind.i64.wrap (n1.tmod 25 + 25) = n1.tmod 25 + 25 := wrapI _ (by omega) (by omega)
  have w2 : IntKind.i64.wrap (n2.tmod 25 + 25) = n2.tmod 25 + 25 := wrapI _ (by omega) (by omega)
  have d1 := Int.tmod_nonneg 25 (show 0 ≤ n1.tmod 25 + 25 by omega)
  have d2 := Int.tmod_nonneg 25 (show 0 ≤ n2.tmod 25 + 25 by omega)
  have r1 := rr n1
  have r2 := rr n2
  have r3 := rr (n1.tmod 25 + 25)
  have r4 := rr (n2.tmod 25 + 25)
  generalize (n1.tmod 25 + 25).tmod 25 = n at *
  generalize (n2.tmod 25 + 25).tmod 25 = m at *
  have hck : cutK n 0 (rns l) ≤ l.length := by have := cutK_len n _ l 0 (Nat.le_refl _); omega
  have hcm := cutK_most n (rns l) 0 (by omega)
  have hcl : (cutR l n).length = cutK n 0 (rns l) := by unfold cutR; rw [List.length_take]; omega
  have hct : l.take (cutR l n).length = cutR l n := by rw [hcl]; rfl
  have hcc := cut_cut l n m
  have hpp := plain_plain kind3 kind63 l
  have hpl := plain_len kindOf l
  have hmp := may_plain kind3 kind63 l
  have hmc := fun h => may_cut (K := kindOf) l n h
  have hpe : (plainR kindOf l).length ≤ 900 := by rw [hpl]; have := rns_len l; omega
  have h26 := p26 998 l n hl
  have h26b := p26 998 (cutR l n) m (by rw [hcl]; omega)
  have h26c := p26 998 l (min n m) hl
  have h28 := p28 998 l hl
  have h28b := p28 998 (plainR kindOf l) hpe
  have h24 := p24 998 l hl
  have h22 := p22 998 l hl
  have h22b := p22 998 (cutR l n) (by rw [hcl]; omega)
  have h22c := p22 998 (plainR kindOf l) hpe
  rw [hcc] at h26b
  rw [hpp] at h28b
  rw [hmp] at h22c
  have lx : ∀ t : List UInt8, lensV' (.str t) = some (.int .i64 (t.length : Nat)) := fun _ => rfl
  have ss := slcS_str l ((cutR l n).length : Nat) (by omega) (by omega)
  rw [Int.toNat_natCast, hct] at ss
  have g1 : decide ((((cutR l n).length : Nat) : Int) > n) = false := decide_eq_false (by omega)
  have mn : mn2V (.int .i64 n) (.int .i64 m) = some (.int .i64 (min n m)) := by
    rw [mn2_i64]; refine congrArg (fun i => some (AV.int .i64 i)) ?_; split <;> omega
  have mn' : (if m < n then m else n) = min n m := by split <;> omega
  have e4 : ((((plainR kindOf l).length : Nat) : Int) != (((rns l).length : Nat) : Int)) = false := by rw [hpl]; simp
  have hmc' : mayR kindOf l = true → mayR kindOf (cutR l n) = true := hmc
  generalize cutR l (min n m) = cm at *
  generalize cutR l n = c at *
  generalize plainR kindOf l = p at *
  have q1 : binV .neq (.str c) (.str c) = some (.bool false) := by
    show some (AV.bool (c != c)) = _
    simp
  have q2 : binV .neq (.str cm) (.str cm) = some (.bool false) := by
    show some (AV.bool (cm != cm)) = _
    simp
  have q3 : binV .neq (.str p) (.str p) = some (.bool false) := by
    show some (AV.bool (p != p)) = _
    simp
  generalize mayR kindOf l = ml at *
  generalize mayR kindOf c = mc at *
  have q5 := eqB (decide ((p.length : Int) ≤ 20))
  obtain ⟨dp, hdp⟩ : ∃ dp, decide ((p.length : Int) ≤ 20) = dp := ⟨_, rfl⟩
  rw [hdp] at h22c q5
  rw [show (1000 : Nat) = 999 + 1 from rfl, evP'_in rfl tab4]
  refine says_of ?_
  rw [show St.nil = St.nil.pl [] from rfl]
  cases ml with
  | false =>
    simp only [M4, hdp, hb, hT, r1, r2, r3, r4, w1, w2, h26, h26b, h26c, h28, h28b, h24, h22, h22c, lx, ss, g1, mn, mn', e4, q1, q2, q3, q5, evP_mn2, ev1_mn, ev1_eqv, ev1_slsV, ev1_lensV', ev1_extV, qES0, qES1, qES2, env0, List.length_cons, List.length_nil, Nat.reduceAdd, Nat.reduceSub, List.replicate, List.cons_append, List.nil_append, opd, Env.put, Env.at, List.set_cons_zero, List.set_cons_succ, List.getD_cons_zero, List.getD_cons_succ, freezeL, resVs, oneOr, Option.map_some, Option.map_none, List.map_cons, List.map_nil, if_true, if_false, Bool.not_true, Bool.not_false, Bool.false_eq_true, reduceIte, decide_true, decide_false, Int.reduceLT, Int.reduceLE, Int.reduceGT, Int.reduceGE, Int.reduceEq, Int.reduceBEq, Int.reduceBNe, load_ptr, ldV_some, cellAt_cells, List.getElem?_cons_zero, List.getElem?_cons_succ, store_ptr, stO_some, setAt_0, setAt_1, setAt_2, setAt_3, setAt_4, setAt_5, setAt_6, setAt_7, setAt_8, setAt_9, setAt_10, setAt_11, setAt_12, cells_int, cells_bool, cells_str, cells_nils, cells_nilp, cells_ptr, cells_sl, cells_u8, cells_u16, cells_agg, get_upd_is, Option.isSome_some, upd_upd, ev1_nchkV, ev1_faV, nchkV_ptr, faV_ptr, ev1_extV, extV_tup, eqptr_nil, eqptr_ptr, Nat.zero_add, Nat.add_zero, qPL0, qPL1, qPL2, qPL3, qPL4, qPL5, beq_self_eq_true]
  | true =>
    obtain rfl := hmc' rfl
    simp only [M4, hdp, hb, hT, r1, r2, r3, r4, w1, w2, h26, h26b, h26c, h28, h28b, h24, h22, h22b, h22c, lx, ss, g1, mn, mn', e4, q1, q2, q3, q5, evP_mn2, ev1_mn, ev1_eqv, ev1_slsV, ev1_lensV', ev1_extV, qES0, qES1, qES2, env0, List.length_cons, List.length_nil, Nat.reduceAdd, Nat.reduceSub, List.replicate, List.cons_append, List.nil_append, opd, Env.put, Env.at, List.set_cons_zero, List.set_cons_succ, List.getD_cons_zero, List.getD_cons_succ, freezeL, resVs, oneOr, Option.map_some, Option.map_none, List.map_cons, List.map_nil, if_true, if_false, Bool.not_true, Bool.not_false, Bool.false_eq_true, reduceIte, decide_true, decide_false, Int.reduceLT, Int.reduceLE, Int.reduceGT, Int.reduceGE, Int.reduceEq, Int.reduceBEq, Int.reduceBNe, load_ptr, ldV_some, cellAt_cells, List.getElem?_cons_zero, List.getElem?_cons_succ, store_ptr, stO_some, setAt_0, setAt_1, setAt_2, setAt_3, setAt_4, setAt_5, setAt_6, setAt_7, setAt_8, setAt_9, setAt_10, setAt_11, setAt_12, cells_int, cells_bool, cells_str, cells_nils, cells_nilp, cells_ptr, cells_sl, cells_u8, cells_u16, cells_agg, get_upd_is, Option.isSome_some, upd_upd, ev1_nchkV, ev1_faV, nchkV_ptr, faV_ptr, ev1_extV, extV_tup, eqptr_nil, eqptr_ptr, Nat.zero_add, Nat.add_zero, qPL0, qPL1, qPL2, qPL3, qPL4, qPL5, beq_self_eq_true]
end Go.Proofs.YthcblggiojpmcaaDoor.nickLaws
