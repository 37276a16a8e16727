/- What the evaluator says of the law NickJoin: true. No conditions. -/
import Derived.Test.YthcblggiojpmcaaDoorTpW
import Derived.Test.YthcblggiojpmcaaDoorM4_10
import Derived.Test.YthcblggiojpmcaaDoorPlainT
import Derived.Test.YthcblggiojpmcaaDoorArgS
namespace Go.Proofs.YthcblggiojpmcaaDoor.nickJoin
open Go Go.Ab
set_option linter.unusedVariables false
set_option linter.unusedSimpArgs false
set_option maxRecDepth 100000 in
set_option maxHeartbeats 8000000 in
theorem says (b0 : List UInt8) (hb0 : (b0.length : Int) ≤ IntKind.i64.max) (b1 : List UInt8) (hb1 : (b1.length : Int) ≤ IntKind.i64.max) : Ab.saysTrue (evP' 1000 10 [.str b0, .str b1] Ab.St.nil) = true := by
  have hb := p20 998
  have hT0 : ∀ s, evP' (998 + 1) 21 [.str b0, .int .i64 20] s = some (.str (b0.take 20), s) := p21 998 b0 20
  have hT1 : ∀ s, evP' (998 + 1) 21 [.str b1, .int .i64 20] s = some (.str (b1.take 20), s) := p21 998 b1 20
  have hl0 : (b0.take 20).length ≤ 20 := by rw [List.length_take]; omega
  have hl1 : (b1.take 20).length ≤ 20 := by rw [List.length_take]; omega
  generalize b0.take 20 = a at *
  generalize b1.take 20 = b at *
  have h22a := p22 998 a (by omega)
  have h22b := p22 998 b (by omega)
  have h22c := p22 998 (a ++ b) (by simp; omega)
  have h24a := p24 998 a (by omega)
  have h24b := p24 998 b (by omega)
  have h24c := p24 998 (a ++ b) (by simp; omega)
  have h28a := p28 998 a (by omega)
  have h28b := p28 998 b (by omega)
  have h28c := p28 998 (a ++ b) (by simp; omega)
  have sa := str_add a b (by omega)
  have pal : (plainR kindOf a).length ≤ 20 := by rw [plain_len]; have := rns_len a; omega
  have pbl : (plainR kindOf b).length ≤ 20 := by rw [plain_len]; have := rns_len b; omega
  have sp := str_add (plainR kindOf a) (plainR kindOf b) (by omega)
  rw [show (1000 : Nat) = 999 + 1 from rfl, evP'_in rfl tab10]
  refine says_of ?_
  rw [show St.nil = St.nil.pl [] from rfl]
  rcases Bool.eq_false_or_eq_true (mayR kindOf a) with ma | ma
  · rcases Bool.eq_false_or_eq_true (mayR kindOf b) with mb | mb
    · have oka : (rns a).all (kOk kindOf) = true := by unfold mayR at ma; rw [Bool.and_eq_true] at ma; exact ma.1
      have okb : (rns b).all (kOk kindOf) = true := by unfold mayR at mb; rw [Bool.and_eq_true] at mb; exact mb.1
      have hra := rns_app kind_bad b _ a (Nat.le_refl _) oka
      have mc : mayR kindOf (a ++ b) = decide ((a.length : Int) + (b.length : Int) ≤ 20) := by
        unfold mayR
        rw [hra, List.all_append, oka, okb, List.length_append]
        simp
      have lc : (((rns (a ++ b)).length : Nat) : Int) = ((rns a).length : Nat) + ((rns b).length : Nat) := by rw [hra, List.length_append]; omega
      have pc : plainR kindOf (a ++ b) = plainR kindOf a ++ plainR kindOf b := by unfold plainR; rw [hra, List.map_append]
      rw [ma] at h22a
      rw [mb] at h22b
      rw [mc] at h22c
      rw [lc] at h24c
      rw [pc] at h28c
      have r0 := rns_len a
      have r1 := rns_len b
      generalize plainR kindOf a = pa at *
      generalize plainR kindOf b = pb at *
      generalize (rns a).length = la at *
      generalize (rns b).length = lb at *
      have lx : ∀ t : List UInt8, lensV' (.str t) = some (.int .i64 (t.length : Nat)) := fun _ => rfl
      have w1 : IntKind.i64.wrap ((a.length : Int) + (b.length : Int)) = (a.length : Int) + (b.length : Int) := wrapI _ (by omega) (by omega)
      have w2 : IntKind.i64.wrap ((la : Int) + (lb : Int)) = (la : Int) + (lb : Int) := wrapI _ (by omega) (by omega)
      have e2 : ((la : Int) + (lb : Int) == (la : Int) + (lb : Int)) = true := beq_self_eq_true _
      have e3 : binV .eql (.str (pa ++ pb)) (.str (pa ++ pb)) = some (.bool true) := by
        show some (AV.bool (pa ++ pb == pa ++ pb)) = _
        rw [beq_self_eq_true]
      have q := eqB (decide ((a.length : Int) + (b.length : Int) ≤ 20))
      obtain ⟨dd, hdd⟩ : ∃ dd, decide ((a.length : Int) + (b.length : Int) ≤ 20) = dd := ⟨_, rfl⟩
      rw [hdd] at h22c q
      simp only [M10, hdd, hb, hT0, hT1, h22a, h22b, h22c, h24a, h24b, h24c, h28a, h28b, h28c, sa, sp, lx, w1, w2, e2, e3, q, ev1_eqv, ev1_slsV, ev1_lensV', ev1_extV, qES0, qES1, qES2, env0, List.length_cons, List.length_nil, Nat.reduceAdd, Nat.reduceSub, List.replicate, List.cons_append, List.nil_append, opd, Env.put, Env.at, List.set_cons_zero, List.set_cons_succ, List.getD_cons_zero, List.getD_cons_succ, freezeL, resVs, oneOr, Option.map_some, Option.map_none, List.map_cons, List.map_nil, if_true, if_false, Bool.not_true, Bool.not_false, Bool.false_eq_true, reduceIte, decide_true, decide_false, Int.reduceLT, Int.reduceLE, Int.reduceGT, Int.reduceGE, Int.reduceEq, Int.reduceBEq, Int.reduceBNe, load_ptr, ldV_some, cellAt_cells, List.getElem?_cons_zero, List.getElem?_cons_succ, store_ptr, stO_some, setAt_0, setAt_1, setAt_2, setAt_3, setAt_4, setAt_5, setAt_6, setAt_7, setAt_8, setAt_9, setAt_10, setAt_11, setAt_12, cells_int, cells_bool, cells_str, cells_nils, cells_nilp, cells_ptr, cells_sl, cells_u8, cells_u16, cells_agg, get_upd_is, Option.isSome_some, upd_upd, ev1_nchkV, ev1_faV, nchkV_ptr, faV_ptr, ev1_extV, extV_tup, eqptr_nil, eqptr_ptr, Nat.zero_add, Nat.add_zero, qPL0, qPL1, qPL2, qPL3, qPL4, qPL5, beq_self_eq_true]
    · rw [ma] at h22a
      rw [mb] at h22b
      simp only [M10, hb, hT0, hT1, h22a, h22b, ev1_eqv, ev1_slsV, ev1_lensV', ev1_extV, qES0, qES1, qES2, env0, List.length_cons, List.length_nil, Nat.reduceAdd, Nat.reduceSub, List.replicate, List.cons_append, List.nil_append, opd, Env.put, Env.at, List.set_cons_zero, List.set_cons_succ, List.getD_cons_zero, List.getD_cons_succ, freezeL, resVs, oneOr, Option.map_some, Option.map_none, List.map_cons, List.map_nil, if_true, if_false, Bool.not_true, Bool.not_false, Bool.false_eq_true, reduceIte, decide_true, decide_false, Int.reduceLT, Int.reduceLE, Int.reduceGT, Int.reduceGE, Int.reduceEq, Int.reduceBEq, Int.reduceBNe, load_ptr, ldV_some, cellAt_cells, List.getElem?_cons_zero, List.getElem?_cons_succ, store_ptr, stO_some, setAt_0, setAt_1, setAt_2, setAt_3, setAt_4, setAt_5, setAt_6, setAt_7, setAt_8, setAt_9, setAt_10, setAt_11, setAt_12, cells_int, cells_bool, cells_str, cells_nils, cells_nilp, cells_ptr, cells_sl, cells_u8, cells_u16, cells_agg, get_upd_is, Option.isSome_some, upd_upd, ev1_nchkV, ev1_faV, nchkV_ptr, faV_ptr, ev1_extV, extV_tup, eqptr_nil, eqptr_ptr, Nat.zero_add, Nat.add_zero, qPL0, qPL1, qPL2, qPL3, qPL4, qPL5, beq_self_eq_true]
  · rw [ma] at h22a
    simp only [M10, hb, hT0, hT1, h22a, ev1_eqv, ev1_slsV, ev1_lensV', ev1_extV, qES0, qES1, qES2, env0, List.length_cons, List.length_nil, Nat.reduceAdd, Nat.reduceSub, List.replicate, List.cons_append, List.nil_append, opd, Env.put, Env.at, List.set_cons_zero, List.set_cons_succ, List.getD_cons_zero, List.getD_cons_succ, freezeL, resVs, oneOr, Option.map_some, Option.map_none, List.map_cons, List.map_nil, if_true, if_false, Bool.not_true, Bool.not_false, Bool.false_eq_true, reduceIte, decide_true, decide_false, Int.reduceLT, Int.reduceLE, Int.reduceGT, Int.reduceGE, Int.reduceEq, Int.reduceBEq, Int.reduceBNe, load_ptr, ldV_some, cellAt_cells, List.getElem?_cons_zero, List.getElem?_cons_succ, store_ptr, stO_some, setAt_0, setAt_1, setAt_2, setAt_3, setAt_4, setAt_5, setAt_6, setAt_7, setAt_8, setAt_9, setAt_10, setAt_11, setAt_12, cells_int, cells_bool, cells_str, cells_nils, cells_nilp, cells_ptr, cells_sl, cells_u8, cells_u16, cells_agg, get_upd_is, Option.isSome_some, upd_upd, ev1_nchkV, ev1_faV, nchkV_ptr, faV_ptr, ev1_extV, extV_tup, eqptr_nil, eqptr_ptr, Nat.zero_add, Nat.add_zero, qPL0, qPL1, qPL2, qPL3, qPL4, qPL5, beq_self_eq_true]
end Go.Proofs.YthcblggiojpmcaaDoor.nickJoin
