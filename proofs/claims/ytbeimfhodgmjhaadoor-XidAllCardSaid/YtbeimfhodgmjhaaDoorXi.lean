/- xid.May and xid.Put, as the evaluator answers them. No conditions. -/
import Derived.Test.YtbeimfhodgmjhaaDoorNk
set_option linter.unusedSimpArgs false
set_option linter.unusedVariables false
set_option maxRecDepth 100000
set_option maxHeartbeats 4000000
namespace Go.Proofs.YtbeimfhodgmjhaaDoor
open Go Go.Ab
theorem pl_pl' (s : St) (l m : List Ab.Obj) : (s.pl l).pl m = s.pl (l ++ m) := by
  induction l generalizing s with
  | nil => rfl
  | cons a l ih => exact ih (s.new a)
structure Xi where
  f : Int
  t : Int
  sl : Int
  n : Int
  an : Bool
  nk : List UInt8
def xiC (f t sl n : Int) (an : Bool) (nk : List UInt8) : List AV := [.int .u32 f, .int .u32 t, .int .i64 sl, .int .i64 n, .bool an, .str nk]
def Xi.cells (x : Xi) : List AV := xiC x.f x.t x.sl x.n x.an x.nk
def Xi.ok (x : Xi) : Prop := is32 x.f ∧ is32 x.t
instance decXiOk (x : Xi) : Decidable x.ok := inferInstanceAs (Decidable (_ ∧ _))
def Xi.may (x : Xi) : Prop := nmd x.f = true ∧ (x.n = 1 ∨ x.n = 6 ∨ x.n = 8) ∧ -1 ≤ x.sl ∧ x.sl < x.n ∧ mayN x.nk = true
instance decXiMay (x : Xi) : Decidable x.may := inferInstanceAs (Decidable (_ ∧ _))
def slB (sl : Int) : UInt8 := if sl < 0 then 255 else UInt8.ofNat sl.toNat
theorem slB_v (sl : Int) (h0 : -1 ≤ sl) (h1 : sl < 8) : AV.int .u8 (IntKind.u8.wrap sl) = u8v (slB sl) := by
  unfold slB
  by_cases g : sl < 0
  · rw [if_pos g]
    have : sl = -1 := by omega
    subst this; rfl
  · rw [if_neg g]
    exact u8of sl (by omega) (by omega)
def putX (x : Xi) : List UInt8 := four x.f ++ four x.t ++ [if x.an = true then 1 else 0, UInt8.ofNat x.n.toNat, slB x.sl] ++ x.nk
theorem putX_len (x : Xi) : (putX x).length = 11 + x.nk.length := by simp [putX, four]; omega
theorem xmay_val (M : Nat) (x : Xi) (hl : x.nk.length ≤ M - 2) (hM : 2 ≤ M) (S : St) : ∃ s', evK (M + 2) 49 [.agg x.cells] S = some (.bool (decide x.may), s') ∧ Ext S s' ∧ KeepC S s' := by
  obtain ⟨f, t, sl, n, an, nk⟩ := x
  have n1 := xnamed_ev M f
  obtain ⟨p, hp⟩ := nmay_ev (M + 1) nk (by simp only at hl; omega) (S.pl [.cells 0 (xiC f t sl n an nk)])
  rw [pl_pl'] at hp
  rw [show M + 2 = (M + 1) + 1 from rfl, evK_in rfl tab49]
  have k1 : KeepC S (S.pl [.cells 0 (xiC f t sl n an nk)]) := KeepC.new S _
  have k2 : KeepC S (S.pl [.cells 0 (xiC f t sl n an nk), .iter nk p]) := (KeepC.new S _).trans (KeepC.new _ _)
  have x1 : Ext S (S.pl [.cells 0 (xiC f t sl n an nk)]) := pl_ext S _
  have x2 : Ext S (S.pl [.cells 0 (xiC f t sl n an nk), .iter nk p]) := pl_ext S _
  obtain ⟨R, hR⟩ : ∃ R, decide (nmd f = true ∧ (n = 1 ∨ n = 6 ∨ n = 8) ∧ -1 ≤ sl ∧ sl < n ∧ mayN nk = true) = R := ⟨_, rfl⟩
  show ∃ s', _ = some (AV.bool (decide (nmd f = true ∧ (n = 1 ∨ n = 6 ∨ n = 8) ∧ -1 ≤ sl ∧ sl < n ∧ mayN nk = true)), s') ∧ _
  rw [hR]
  have ne : ∀ {b : Bool}, (R = b) → ∀ v, v = (some (AV.bool b, S.pl [.cells 0 (xiC f t sl n an nk)]) : Option (AV × St)) → ∃ s', v = some (AV.bool R, s') ∧ Ext S s' ∧ KeepC S s' := by
    rintro b rfl v rfl; exact ⟨_, rfl, x1, k1⟩
  have sn : ((n == 1) = true ∧ (n == 1) = true ∧ (n == 1) = true) ∨ ((n == 1) = false ∧ (n == 6) = true ∧ (n == 6) = true) ∨ ((n == 1) = false ∧ (n == 6) = false ∧ (n == 8) = true) ∨ ((n == 1) = false ∧ (n == 6) = false ∧ (n == 8) = false) := by
    simp only [beq_iff_eq, beq_eq_false_iff_ne]; omega
  rw [show S = S.pl [] from rfl] at ne hp ⊢
  rw [pl_pl'] at hp
  simp only [xiC, List.nil_append] at hp ne
  rcases sn with ⟨h, h', h''⟩ | ⟨h, h', h''⟩ | ⟨h, h', h''⟩ | ⟨h, h', h''⟩
  case inr.inr.inr =>
    refine ne (b := false) (by rw [← hR]; refine decide_eq_false (fun q => ?_); have := q.2.1; simp only [beq_eq_false_iff_ne] at h h' h''; omega) _ ?_
    rcases Bool.eq_false_or_eq_true (nmd f) with h1 | h1
    · rw [h1] at n1
      simp only [M49, Xi.cells, xiC, n1, h, h', h'', ev1_boxV, qES0, qES1, qES2, env0, List.length_cons, List.length_nil, Nat.reduceAdd, Nat.reduceSub, List.replicate, List.cons_append, List.nil_append, opd, Env.put, Env.at, List.set_cons_zero, List.set_cons_succ, List.getD_cons_zero, List.getD_cons_succ, freezeL, resVs, oneOr, Option.map_some, Option.map_none, List.map_cons, List.map_nil, if_true, if_false, Bool.not_true, Bool.not_false, Bool.false_eq_true, reduceIte, decide_true, decide_false, Int.reduceLT, Int.reduceLE, Int.reduceGT, Int.reduceGE, Int.reduceEq, Int.reduceBEq, Int.reduceBNe, load_ptr, ldV_some, cellAt_cells, List.getElem?_cons_zero, List.getElem?_cons_succ, store_ptr, stO_some, setAt_0, setAt_1, setAt_2, setAt_3, setAt_4, setAt_5, setAt_6, setAt_7, setAt_8, setAt_9, setAt_10, setAt_11, setAt_12, cells_int, cells_bool, cells_str, cells_nils, cells_nilp, cells_ptr, cells_sl, cells_u8, cells_u16, cells_agg, get_upd_is, Option.isSome_some, upd_upd, ev1_nchkV, ev1_faV, nchkV_ptr, faV_ptr, ev1_extV, extV_tup, eqptr_nil, eqptr_ptr, Nat.zero_add, Nat.add_zero, qPL0, qPL1, qPL2, qPL3, qPL4, qPL5, beq_self_eq_true]; first | done | rfl
    · rw [h1] at n1
      simp only [M49, Xi.cells, xiC, n1, h, h', h'', ev1_boxV, qES0, qES1, qES2, env0, List.length_cons, List.length_nil, Nat.reduceAdd, Nat.reduceSub, List.replicate, List.cons_append, List.nil_append, opd, Env.put, Env.at, List.set_cons_zero, List.set_cons_succ, List.getD_cons_zero, List.getD_cons_succ, freezeL, resVs, oneOr, Option.map_some, Option.map_none, List.map_cons, List.map_nil, if_true, if_false, Bool.not_true, Bool.not_false, Bool.false_eq_true, reduceIte, decide_true, decide_false, Int.reduceLT, Int.reduceLE, Int.reduceGT, Int.reduceGE, Int.reduceEq, Int.reduceBEq, Int.reduceBNe, load_ptr, ldV_some, cellAt_cells, List.getElem?_cons_zero, List.getElem?_cons_succ, store_ptr, stO_some, setAt_0, setAt_1, setAt_2, setAt_3, setAt_4, setAt_5, setAt_6, setAt_7, setAt_8, setAt_9, setAt_10, setAt_11, setAt_12, cells_int, cells_bool, cells_str, cells_nils, cells_nilp, cells_ptr, cells_sl, cells_u8, cells_u16, cells_agg, get_upd_is, Option.isSome_some, upd_upd, ev1_nchkV, ev1_faV, nchkV_ptr, faV_ptr, ev1_extV, extV_tup, eqptr_nil, eqptr_ptr, Nat.zero_add, Nat.add_zero, qPL0, qPL1, qPL2, qPL3, qPL4, qPL5, beq_self_eq_true]; first | done | rfl
  all_goals
    have hn : n = 1 ∨ n = 6 ∨ n = 8 := by simp only [beq_iff_eq, beq_eq_false_iff_ne] at *; omega
    rcases Bool.eq_false_or_eq_true (nmd f) with h1 | h1
    · rw [h1] at n1
      by_cases g1 : -1 ≤ sl
      · have d1 : decide (sl ≥ -1) = true := decide_eq_true g1
        by_cases g2 : sl < n
        · have d2 : decide (sl < n) = true := decide_eq_true g2
          obtain rfl : R = mayN nk := by
            rw [← hR]
            rcases Bool.eq_false_or_eq_true (mayN nk) with h2 | h2
            · rw [h2]; exact decide_eq_true ⟨h1, hn, g1, g2, rfl⟩
            · rw [h2]; exact decide_eq_false (fun q => by cases q.2.2.2.2)
          refine ⟨_, ?_, x2, k2⟩
          simp only [M49, Xi.cells, xiC, n1, h, h', h'', d1, d2, hp, ev1_boxV, qES0, qES1, qES2, env0, List.length_cons, List.length_nil, Nat.reduceAdd, Nat.reduceSub, List.replicate, List.cons_append, List.nil_append, opd, Env.put, Env.at, List.set_cons_zero, List.set_cons_succ, List.getD_cons_zero, List.getD_cons_succ, freezeL, resVs, oneOr, Option.map_some, Option.map_none, List.map_cons, List.map_nil, if_true, if_false, Bool.not_true, Bool.not_false, Bool.false_eq_true, reduceIte, decide_true, decide_false, Int.reduceLT, Int.reduceLE, Int.reduceGT, Int.reduceGE, Int.reduceEq, Int.reduceBEq, Int.reduceBNe, load_ptr, ldV_some, cellAt_cells, List.getElem?_cons_zero, List.getElem?_cons_succ, store_ptr, stO_some, setAt_0, setAt_1, setAt_2, setAt_3, setAt_4, setAt_5, setAt_6, setAt_7, setAt_8, setAt_9, setAt_10, setAt_11, setAt_12, cells_int, cells_bool, cells_str, cells_nils, cells_nilp, cells_ptr, cells_sl, cells_u8, cells_u16, cells_agg, get_upd_is, Option.isSome_some, upd_upd, ev1_nchkV, ev1_faV, nchkV_ptr, faV_ptr, ev1_extV, extV_tup, eqptr_nil, eqptr_ptr, Nat.zero_add, Nat.add_zero, qPL0, qPL1, qPL2, qPL3, qPL4, qPL5, beq_self_eq_true]; first | done | rfl
        · have d2 : decide (sl < n) = false := decide_eq_false g2
          refine ne (b := false) (by rw [← hR]; exact decide_eq_false (fun q => g2 q.2.2.2.1)) _ ?_
          simp only [M49, Xi.cells, xiC, n1, h, h', h'', d1, d2, ev1_boxV, qES0, qES1, qES2, env0, List.length_cons, List.length_nil, Nat.reduceAdd, Nat.reduceSub, List.replicate, List.cons_append, List.nil_append, opd, Env.put, Env.at, List.set_cons_zero, List.set_cons_succ, List.getD_cons_zero, List.getD_cons_succ, freezeL, resVs, oneOr, Option.map_some, Option.map_none, List.map_cons, List.map_nil, if_true, if_false, Bool.not_true, Bool.not_false, Bool.false_eq_true, reduceIte, decide_true, decide_false, Int.reduceLT, Int.reduceLE, Int.reduceGT, Int.reduceGE, Int.reduceEq, Int.reduceBEq, Int.reduceBNe, load_ptr, ldV_some, cellAt_cells, List.getElem?_cons_zero, List.getElem?_cons_succ, store_ptr, stO_some, setAt_0, setAt_1, setAt_2, setAt_3, setAt_4, setAt_5, setAt_6, setAt_7, setAt_8, setAt_9, setAt_10, setAt_11, setAt_12, cells_int, cells_bool, cells_str, cells_nils, cells_nilp, cells_ptr, cells_sl, cells_u8, cells_u16, cells_agg, get_upd_is, Option.isSome_some, upd_upd, ev1_nchkV, ev1_faV, nchkV_ptr, faV_ptr, ev1_extV, extV_tup, eqptr_nil, eqptr_ptr, Nat.zero_add, Nat.add_zero, qPL0, qPL1, qPL2, qPL3, qPL4, qPL5, beq_self_eq_true]; first | done | rfl
      · have d1 : decide (sl ≥ -1) = false := decide_eq_false g1
        refine ne (b := false) (by rw [← hR]; exact decide_eq_false (fun q => g1 q.2.2.1)) _ ?_
        simp only [M49, Xi.cells, xiC, n1, h, h', h'', d1, ev1_boxV, qES0, qES1, qES2, env0, List.length_cons, List.length_nil, Nat.reduceAdd, Nat.reduceSub, List.replicate, List.cons_append, List.nil_append, opd, Env.put, Env.at, List.set_cons_zero, List.set_cons_succ, List.getD_cons_zero, List.getD_cons_succ, freezeL, resVs, oneOr, Option.map_some, Option.map_none, List.map_cons, List.map_nil, if_true, if_false, Bool.not_true, Bool.not_false, Bool.false_eq_true, reduceIte, decide_true, decide_false, Int.reduceLT, Int.reduceLE, Int.reduceGT, Int.reduceGE, Int.reduceEq, Int.reduceBEq, Int.reduceBNe, load_ptr, ldV_some, cellAt_cells, List.getElem?_cons_zero, List.getElem?_cons_succ, store_ptr, stO_some, setAt_0, setAt_1, setAt_2, setAt_3, setAt_4, setAt_5, setAt_6, setAt_7, setAt_8, setAt_9, setAt_10, setAt_11, setAt_12, cells_int, cells_bool, cells_str, cells_nils, cells_nilp, cells_ptr, cells_sl, cells_u8, cells_u16, cells_agg, get_upd_is, Option.isSome_some, upd_upd, ev1_nchkV, ev1_faV, nchkV_ptr, faV_ptr, ev1_extV, extV_tup, eqptr_nil, eqptr_ptr, Nat.zero_add, Nat.add_zero, qPL0, qPL1, qPL2, qPL3, qPL4, qPL5, beq_self_eq_true]; first | done | rfl
    · rw [h1] at n1
      refine ne (b := false) (by rw [← hR]; exact decide_eq_false (fun q => by have := q.1; rw [h1] at this; cases this)) _ ?_
      simp only [M49, Xi.cells, xiC, n1, h, h', h'', ev1_boxV, qES0, qES1, qES2, env0, List.length_cons, List.length_nil, Nat.reduceAdd, Nat.reduceSub, List.replicate, List.cons_append, List.nil_append, opd, Env.put, Env.at, List.set_cons_zero, List.set_cons_succ, List.getD_cons_zero, List.getD_cons_succ, freezeL, resVs, oneOr, Option.map_some, Option.map_none, List.map_cons, List.map_nil, if_true, if_false, Bool.not_true, Bool.not_false, Bool.false_eq_true, reduceIte, decide_true, decide_false, Int.reduceLT, Int.reduceLE, Int.reduceGT, Int.reduceGE, Int.reduceEq, Int.reduceBEq, Int.reduceBNe, load_ptr, ldV_some, cellAt_cells, List.getElem?_cons_zero, List.getElem?_cons_succ, store_ptr, stO_some, setAt_0, setAt_1, setAt_2, setAt_3, setAt_4, setAt_5, setAt_6, setAt_7, setAt_8, setAt_9, setAt_10, setAt_11, setAt_12, cells_int, cells_bool, cells_str, cells_nils, cells_nilp, cells_ptr, cells_sl, cells_u8, cells_u16, cells_agg, get_upd_is, Option.isSome_some, upd_upd, ev1_nchkV, ev1_faV, nchkV_ptr, faV_ptr, ev1_extV, extV_tup, eqptr_nil, eqptr_ptr, Nat.zero_add, Nat.add_zero, qPL0, qPL1, qPL2, qPL3, qPL4, qPL5, beq_self_eq_true]; first | done | rfl
end Go.Proofs.YtbeimfhodgmjhaaDoor
