/- What the evaluator says of the law QosAll: true. No conditions. -/
import Derived.Test.YtbeimfhodgmjhaaDoorQosAll
import Derived.Test.YtbeimfhodgmjhaaDoorPlainT8
namespace Go.Proofs.YtbeimfhodgmjhaaDoor.qosAll
open Go Go.Ab
set_option linter.unusedVariables false
set_option linter.unusedSimpArgs false
set_option maxRecDepth 100000 in
set_option maxHeartbeats 8000000 in
theorem says (as0 : List Ab.AV) (hs0 : Ab.ScL Tryd.prog offerTypes as0) (b1 : List UInt8) (hb1 : (b1.length : Int) ≤ IntKind.i64.max) (n2 : Int) (hn2 : IntKind.has .i64 n2) (n3 : Int) (hn3 : IntKind.has .i64 n3) (n4 : Int) (hn4 : IntKind.has .i64 n4) (n5 : Int) (hn5 : IntKind.has .i64 n5) : Ab.saysTrue (evK 1000 3 [.agg as0, .str b1, .int .i64 n2, .int .i64 n3, .int .i64 n4, .int .i64 n5] Ab.St.nil) = true := by
  obtain ⟨mb, ms, mw, mz, mt, rfl⟩ := offer_of hs0
  have hb := k21 998
  have tx := k22 998 b1 70
  have f1 := k23 998 ⟨mb, ms, mw, mz, mt⟩
  have f2 := k24 998 ⟨mb, ms, mw, mz, mt⟩
  have f3 := k25 998 ⟨mb, ms, mw, mz, mt⟩
  obtain ⟨P, hP⟩ : ∃ P, (if Of5.may ⟨mb, ms, mw, mz, mt⟩ then offB ⟨mb, ms, mw, mz, mt⟩ else []) = P := ⟨_, rfl⟩
  have hPl : P.length ≤ 15 := by rw [← hP]; split <;> simp [offB]
  obtain ⟨t, ht⟩ : ∃ t, decide (Of5.may ⟨mb, ms, mw, mz, mt⟩) = t := ⟨_, rfl⟩
  rw [hP, ht] at f1 f2
  rw [ht] at f3
  simp only [Of5.cells, ofC] at f1 f2 f3
  have qb := eqB t
  have a1 := sne P
  have g26 := k26 998 n2; have g27 := k27 998 n2; have g28 := k28 998 n2; have g29 := k29 998 n2
  have g30 := k30 998 n3; have g31 := k31 998 n3; have g32 := k32 998 n3; have g33 := k33 998 n3; have g34 := k34 998 n3; have g35 := k35 998 n3
  have hn : has1 n4 n5 := by
    have := hn4
    unfold IntKind.has at this
    simp only [IntKind.min, IntKind.max, IntKind.bits, IntKind.signed] at this
    unfold has1; simp at this; omega
  have g36 := k36 998 n4 n5 hn; have g37 := k37 998 n4 n5 hn
  have i1 := ine (highZ n2); have i2 := ine (lowZ n2); have i3 := ine (baudZ n3); have i4 := ine (silentZ n3); have i5 := ine (sizeZ n3); have i6 := ine (ticksZ n4 n5)
  obtain ⟨T, hT⟩ : ∃ T, b1.take 70 = T := ⟨_, rfl⟩
  have hTl : T.length ≤ 70 := by rw [← hT]; simp; omega
  rw [hT] at tx
  have sa := str_add P T (by omega)
  have tx' : ∀ s, evK (998 + 1) 22 [.str b1, .int .i64 70] s = some (.str T, s) := tx
  have f30 : ∀ a0 a1 a2 l, fill1 [a0, a1, a2] 2 1 (.str l) = some [a0, a1, .str l] := fun a0 a1 a2 l => fill_3_2s _ _ _ _
  have ln : ∀ cs tk, lenV (.sl cs 3 tk) = some (.int .i64 3) := fun _ _ => rfl
  rw [show (1000 : Nat) = 999 + 1 from rfl, evK_in rfl tab3]
  refine says_of ?_
  rw [show St.nil = St.nil.pl [] from rfl]
  simp only [M3, hb, tx', f1, f2, f3, qb, a1, g26, g27, g28, g29, g30, g31, g32, g33, g34, g35, g36, g37, i1, i2, i3, i4, i5, i6, sa, ln, evC_loop, ev1_boxV, ev1_eqv, ev1_extV, qES0, qES1, qES2, env0, List.length_cons, List.length_nil, Nat.reduceAdd, Nat.reduceSub, List.replicate, List.cons_append, List.nil_append, opd, Env.put, Env.at, List.set_cons_zero, List.set_cons_succ, List.getD_cons_zero, List.getD_cons_succ, freezeL, resVs, oneOr, Option.map_some, Option.map_none, List.map_cons, List.map_nil, if_true, if_false, Bool.not_true, Bool.not_false, Bool.false_eq_true, reduceIte, decide_true, decide_false, Int.reduceLT, Int.reduceLE, Int.reduceGT, Int.reduceGE, Int.reduceEq, Int.reduceBEq, Int.reduceBNe, load_ptr, ldV_some, cellAt_cells, List.getElem?_cons_zero, List.getElem?_cons_succ, store_ptr, stO_some, setAt_0, setAt_1, setAt_2, setAt_3, setAt_4, setAt_5, setAt_6, setAt_7, setAt_8, setAt_9, setAt_10, setAt_11, setAt_12, cells_int, cells_bool, cells_str, cells_nils, cells_nilp, cells_ptr, cells_sl, cells_u8, cells_u16, cells_agg, get_upd_is, Option.isSome_some, upd_upd, ev1_nchkV, ev1_faV, nchkV_ptr, faV_ptr, ev1_extV, extV_tup, eqptr_nil, eqptr_ptr, Nat.zero_add, Nat.add_zero, qPL0, qPL1, qPL2, qPL3, qPL4, qPL5, beq_self_eq_true]
  exact texts_all [P, T, P ++ T] 3 rfl (by omega) _ _ _ rfl
end Go.Proofs.YtbeimfhodgmjhaaDoor.qosAll
