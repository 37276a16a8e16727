/- What the evaluator says of the law TurnSize: true. No conditions. -/
import Derived.Test.YtochnineebgbgaaDoorSize
import Derived.Test.YtochnineebgbgaaDoorArgS
namespace Go.Proofs.YtochnineebgbgaaDoor.turnSize
open Go Go.Ab
set_option linter.unusedVariables false
set_option linter.unusedSimpArgs false
set_option maxRecDepth 100000 in
set_option maxHeartbeats 8000000 in
theorem says (n0 : Int) (hn0 : IntKind.has .i64 n0) (n1 : Int) (hn1 : IntKind.has .i64 n1) : Ab.saysTrue (evB 1000 11 [.int .i64 n0, .int .i64 n1] Ab.St.nil) = true := by
  have m1 := i64_rem n0 70 (by omega)
  have m2 := i64_rem (n0.tmod 70 + 70) 70 (by omega)
  have m3 := i64_rem n1 75 (by omega)
  have m4 := i64_rem (n1.tmod 75 + 75) 75 (by omega)
  have r1 := tmR n0 70 (by omega)
  have r2 := tmR n1 75 (by omega)
  have w1 : IntKind.i64.wrap (n0.tmod 70 + 70) = n0.tmod 70 + 70 := wrapI _ (by omega) (by omega)
  have w2 : IntKind.i64.wrap (n1.tmod 75 + 75) = n1.tmod 75 + 75 := wrapI _ (by omega) (by omega)
  have hv0 : 0 ≤ (n1.tmod 75 + 75).tmod 75 := Int.tmod_nonneg _ (by omega)
  have hv1 : (n1.tmod 75 + 75).tmod 75 < 75 := Int.tmod_lt_of_pos _ (by omega)
  obtain ⟨N, hN⟩ : ∃ N : Nat, (n1.tmod 75 + 75).tmod 75 = (N : Int) := ⟨((n1.tmod 75 + 75).tmod 75).toNat, by omega⟩
  rw [hN] at m4
  generalize (n0.tmod 70 + 70).tmod 70 = z at m2
  have h21 := b21 998
  have h39 := new39 z
  have mk := fun s => mks_n' s N (by omega)
  have hbl : (List.replicate N (0 : UInt8)).length = N := by simp
  have hst := fun A B C D => hsAt4 St.nil N A B C D
  have w0 : ∀ (a b : Bool), eqAV (.flat (.one .b)) (.bool a) (.bool b) = some (a == b) := fun a b => rfl
  obtain ⟨m, hm⟩ : ∃ m : Int, m = if (64 : Int) < z then 64 else z := ⟨_, rfl⟩
  rw [← hm] at h39
  rw [show (1000 : Nat) = 999 + 1 from rfl, evB_in rfl tab11]
  suffices hv : valR (outR M11.res (evC tabGl (evB 999) 999 M11.body (env0 M11.ntmps [.int .i64 n0, .int .i64 n1]) (St.nil.pl []))) = some (.bool true) by
    obtain ⟨v0, s', h1, h2⟩ := valR_of hv
    have : v0 = .bool true := by
      cases v0 with
      | bool b => exact h2
      | tup l => cases h2
      | _ => cases h2
    rw [this] at h1
    exact (congrArg Ab.saysTrue h1)
  by_cases h : (N : Int) ≤ m
  · have h40 := put40y m (List.replicate N 0) (by rw [hbl]; omega) (dealC z) inC (.cells 1 (bytesAV (List.replicate N 0)))
    have h46 := left46s m (List.replicate N 0) (dealC z) inC (.cells 1 (bytesAV (List.replicate N 0))) (.tick 1 0) (.tick 1 0)
    have h45 := b2i_ev 998 true
    have hq : ((N : Int) ≤ m) = True := eq_true h
    simp only [if_true] at h45
    simp only [M11, h21, h39, h40, h46, h45, m1, m2, m3, m4, w1, w2, mk, hst, ← hm, hq, w0, ev1_eqv, ev1_mksV', ev1_conv, evR_conv, convP_hs, evRc_hs, qES0, qES1, qES2, env0, List.length_cons, List.length_nil, Nat.reduceAdd, Nat.reduceSub, List.replicate, List.cons_append, List.nil_append, opd, Env.put, Env.at, List.set_cons_zero, List.set_cons_succ, List.getD_cons_zero, List.getD_cons_succ, freezeL, resVs, oneOr, Option.map_some, Option.map_none, List.map_cons, List.map_nil, if_true, if_false, Bool.not_true, Bool.not_false, Bool.false_eq_true, reduceIte, decide_true, decide_false, Int.reduceLT, Int.reduceLE, Int.reduceGT, Int.reduceGE, Int.reduceEq, Int.reduceBEq, Int.reduceBNe, load_ptr, ldV_some, cellAt_cells, List.getElem?_cons_zero, List.getElem?_cons_succ, store_ptr, stO_some, setAt_0, setAt_1, setAt_2, setAt_3, setAt_4, setAt_5, setAt_6, setAt_7, setAt_8, setAt_9, setAt_10, setAt_11, setAt_12, cells_int, cells_bool, cells_str, cells_nils, cells_nilp, cells_ptr, cells_sl, cells_u8, cells_u16, cells_agg, get_upd_is, Option.isSome_some, upd_upd, ev1_nchkV, ev1_faV, nchkV_ptr, faV_ptr, ev1_extV, extV_tup, eqptr_nil, eqptr_ptr, Nat.zero_add, Nat.add_zero, qPL0, qPL1, qPL2, qPL3, qPL4, qPL5, beq_self_eq_true]
  · have h40 := put40n m (List.replicate N 0) (by rw [hbl]; omega) (dealC z) (outC .nils) inC (.cells 1 (bytesAV (List.replicate N 0)))
    have h46 := left46n m (dealC z) inC (.cells 1 (bytesAV (List.replicate N 0)))
    have h45 := b2i_ev 998 false
    have hq : ((N : Int) ≤ m) = False := eq_false h
    simp only [Bool.false_eq_true, if_false] at h45
    simp only [M11, h21, h39, h40, h46, h45, m1, m2, m3, m4, w1, w2, mk, hst, ← hm, hq, w0, ev1_eqv, ev1_mksV', ev1_conv, evR_conv, convP_hs, evRc_hs, qES0, qES1, qES2, env0, List.length_cons, List.length_nil, Nat.reduceAdd, Nat.reduceSub, List.replicate, List.cons_append, List.nil_append, opd, Env.put, Env.at, List.set_cons_zero, List.set_cons_succ, List.getD_cons_zero, List.getD_cons_succ, freezeL, resVs, oneOr, Option.map_some, Option.map_none, List.map_cons, List.map_nil, if_true, if_false, Bool.not_true, Bool.not_false, Bool.false_eq_true, reduceIte, decide_true, decide_false, Int.reduceLT, Int.reduceLE, Int.reduceGT, Int.reduceGE, Int.reduceEq, Int.reduceBEq, Int.reduceBNe, load_ptr, ldV_some, cellAt_cells, List.getElem?_cons_zero, List.getElem?_cons_succ, store_ptr, stO_some, setAt_0, setAt_1, setAt_2, setAt_3, setAt_4, setAt_5, setAt_6, setAt_7, setAt_8, setAt_9, setAt_10, setAt_11, setAt_12, cells_int, cells_bool, cells_str, cells_nils, cells_nilp, cells_ptr, cells_sl, cells_u8, cells_u16, cells_agg, get_upd_is, Option.isSome_some, upd_upd, ev1_nchkV, ev1_faV, nchkV_ptr, faV_ptr, ev1_extV, extV_tup, eqptr_nil, eqptr_ptr, Nat.zero_add, Nat.add_zero, qPL0, qPL1, qPL2, qPL3, qPL4, qPL5, beq_self_eq_true]
end Go.Proofs.YtochnineebgbgaaDoor.turnSize
