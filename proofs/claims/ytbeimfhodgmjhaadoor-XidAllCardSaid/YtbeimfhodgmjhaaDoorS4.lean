/- setup.Get and the document's, as the evaluator answers them. No conditions. -/
import Derived.Test.YtbeimfhodgmjhaaDoorS3
set_option linter.unusedSimpArgs false
set_option linter.unusedVariables false
set_option maxRecDepth 100000
set_option maxHeartbeats 4000000
namespace Go.Proofs.YtbeimfhodgmjhaaDoor
open Go Go.Ab
theorem pl_pl (s : St) (l m : List Ab.Obj) : (s.pl l).pl m = s.pl (l ++ m) := by
  induction l generalizing s with
  | nil => rfl
  | cons a l ih => exact ih _
theorem short10 (t : List UInt8) : t.length < 10 ∨ ∃ a0 a1 a2 a3 b0 b1 b2 b3 c d r, t = a0 :: a1 :: a2 :: a3 :: b0 :: b1 :: b2 :: b3 :: c :: d :: r := by
  match t with
  | a0 :: a1 :: a2 :: a3 :: b0 :: b1 :: b2 :: b3 :: c :: d :: r => exact .inr ⟨_, _, _, _, _, _, _, _, _, _, _, rfl⟩
  | [] => exact .inl (by simp)
  | [_] => exact .inl (by simp)
  | [_, _] => exact .inl (by simp)
  | [_, _, _] => exact .inl (by simp)
  | [_, _, _, _] => exact .inl (by simp)
  | [_, _, _, _, _] => exact .inl (by simp)
  | [_, _, _, _, _, _] => exact .inl (by simp)
  | [_, _, _, _, _, _, _] => exact .inl (by simp)
  | [_, _, _, _, _, _, _, _] => exact .inl (by simp)
  | [_, _, _, _, _, _, _, _, _] => exact .inl (by simp)
theorem hdS_short {t : List UInt8} (h : t.length < 10) : hdS t = none := by
  match t, h with
  | a0 :: a1 :: a2 :: a3 :: b0 :: b1 :: b2 :: b3 :: c :: d :: r, h => simp at h; omega
  | [], _ => rfl
  | [_], _ => rfl
  | [_, _], _ => rfl
  | [_, _, _], _ => rfl
  | [_, _, _, _], _ => rfl
  | [_, _, _, _, _], _ => rfl
  | [_, _, _, _, _, _], _ => rfl
  | [_, _, _, _, _, _, _], _ => rfl
  | [_, _, _, _, _, _, _, _], _ => rfl
  | [_, _, _, _, _, _, _, _, _], _ => rfl
theorem getO_may {t : List UInt8} {o : Of5} (h : getO t = some o) : o.may := by
  unfold getO at h
  split at h
  · split at h
    · rename_i hm; cases h; exact hm
    · cases h
  · cases h
theorem fill_2_0z (a0 a1 : AV) (n : Int) : fill1 [a0, a1] 0 1 (.int .i64 n) = some [.int .i64 n, a1] := fill_2_0i _ _ _ _
theorem u8i (a : UInt8) : IntKind.i64.wrap (a.toNat : Int) = (a.toNat : Int) := wrapI _ (by omega) (by have := a.toNat_lt; omega)
section
variable (a0 a1 a2 a3 b0 b1 b2 b3 c d : UInt8) (r : List UInt8)
theorem sl4 : slcS (.str (a0 :: a1 :: a2 :: a3 :: b0 :: b1 :: b2 :: b3 :: c :: d :: r)) (some (.int .i64 4)) none = some (.str (b0 :: b1 :: b2 :: b3 :: c :: d :: r)) := slcS_from (a0 :: a1 :: a2 :: a3 :: b0 :: b1 :: b2 :: b3 :: c :: d :: r) 4 (by simp)
theorem sl10 : slcS (.str (a0 :: a1 :: a2 :: a3 :: b0 :: b1 :: b2 :: b3 :: c :: d :: r)) (some (.int .i64 10)) none = some (.str r) := slcS_from (a0 :: a1 :: a2 :: a3 :: b0 :: b1 :: b2 :: b3 :: c :: d :: r) 10 (by simp)
theorem ix8 : ixsV (.str (a0 :: a1 :: a2 :: a3 :: b0 :: b1 :: b2 :: b3 :: c :: d :: r)) (.int .i64 8) = some (.int .u8 (c.toNat : Int)) := ixsV_at (a0 :: a1 :: a2 :: a3 :: b0 :: b1 :: b2 :: b3 :: c :: d :: r) 8 (by simp)
theorem ix9 : ixsV (.str (a0 :: a1 :: a2 :: a3 :: b0 :: b1 :: b2 :: b3 :: c :: d :: r)) (.int .i64 9) = some (.int .u8 (d.toNat : Int)) := ixsV_at (a0 :: a1 :: a2 :: a3 :: b0 :: b1 :: b2 :: b3 :: c :: d :: r) 9 (by simp)
theorem getS_cons : getS (a0 :: a1 :: a2 :: a3 :: b0 :: b1 :: b2 :: b3 :: c :: d :: r) = match getO r with
        | some o => if (Su.mk (num4 a0 a1 a2 a3) (num4 b0 b1 b2 b3) c.toNat d.toNat o).may then some ⟨num4 a0 a1 a2 a3, num4 b0 b1 b2 b3, c.toNat, d.toNat, o⟩ else none
        | none => none := by
  unfold getS
  rw [show hdS (a0 :: a1 :: a2 :: a3 :: b0 :: b1 :: b2 :: b3 :: c :: d :: r) = some (num4 a0 a1 a2 a3, num4 b0 b1 b2 b3, (c.toNat : Int), (d.toNat : Int)) from rfl, show List.drop 10 (a0 :: a1 :: a2 :: a3 :: b0 :: b1 :: b2 :: b3 :: c :: d :: r) = r from rfl]
  cases getO r <;> rfl
end
/-- setup.Get of ten bytes and more. -/
theorem sget_long (k : Nat) (T r : List UInt8) (f g : Int) (c d : UInt8) (U : List UInt8) (d0 : decide (((T.length : Nat) : Int) < 10) = false)
    (g1 : ∀ s, evK (k + 1) 85 [.str T] s = some (.int .u32 f, s)) (g2 : ∀ s, evK (k + 1) 85 [.str U] s = some (.int .u32 g, s))
    (s4 : slcS (.str T) (some (.int .i64 4)) none = some (.str U)) (s10 : slcS (.str T) (some (.int .i64 10)) none = some (.str r))
    (x8 : ixsV (.str T) (.int .i64 8) = some (.int .u8 (c.toNat : Int))) (x9 : ixsV (.str T) (.int .i64 9) = some (.int .u8 (d.toNat : Int))) (hk : k = 998) :
    valR (outR M56.res (evC tabGl (evK (k + 1)) (k + 1) M56.body (env0 M56.ntmps [.str T]) (St.nil.pl []))) = some (getSV (match getO r with
        | some o => if (Su.mk f g c.toNat d.toNat o).may then some ⟨f, g, c.toNat, d.toNat, o⟩ else none
        | none => none)) := by
  have lst : lensV' (.str T) = some (.int .i64 (T.length : Nat)) := rfl
  have uc := u8i c
  have ud := u8i d
  have h38 := k38 k r
  cases ho : getO r with
  | none =>
    rw [ho] at h38
    simp only [getOV, ofC] at h38
    simp only [M56, lst, d0, g1, g2, s4, s10, x8, x9, uc, ud, h38, fill_2_0z, getSV, zeroS, suC, ev1_build, fill_nil, conv_int, ev1_ixsV, ev1_slsV, ev1_lensV', ev1_extV, qES0, qES1, qES2, env0, List.length_cons, List.length_nil, Nat.reduceAdd, Nat.reduceSub, List.replicate, List.cons_append, List.nil_append, opd, Env.put, Env.at, List.set_cons_zero, List.set_cons_succ, List.getD_cons_zero, List.getD_cons_succ, freezeL, resVs, oneOr, Option.map_some, Option.map_none, List.map_cons, List.map_nil, if_true, if_false, Bool.not_true, Bool.not_false, Bool.false_eq_true, reduceIte, decide_true, decide_false, Int.reduceLT, Int.reduceLE, Int.reduceGT, Int.reduceGE, Int.reduceEq, Int.reduceBEq, Int.reduceBNe, load_ptr, ldV_some, cellAt_cells, List.getElem?_cons_zero, List.getElem?_cons_succ, store_ptr, stO_some, setAt_0, setAt_1, setAt_2, setAt_3, setAt_4, setAt_5, setAt_6, setAt_7, setAt_8, setAt_9, setAt_10, setAt_11, setAt_12, cells_int, cells_bool, cells_str, cells_nils, cells_nilp, cells_ptr, cells_sl, cells_u8, cells_u16, cells_agg, get_upd_is, Option.isSome_some, upd_upd, ev1_nchkV, ev1_faV, nchkV_ptr, faV_ptr, ev1_extV, extV_tup, eqptr_nil, eqptr_ptr, Nat.zero_add, Nat.add_zero, qPL0, qPL1, qPL2, qPL3, qPL4, qPL5, beq_self_eq_true, qED0, qED1, placeR]
    rw [drawR_ok]; case h => simp (config := { decide := true }) [calm, calmPair, calmTwo, List.range, List.range.loop, sameO_refl, plg0, plg1, plg2, plg3, plg4, plg5, plg6, plg7, plg8, plg9, plg10, plg11, plg12, plg13]
    simp only [lst, d0, g1, g2, s4, s10, x8, x9, uc, ud, h38, getSV, zeroS, suC, ev1_build, fill_nil, conv_int, ev1_ixsV, ev1_slsV, ev1_lensV', ev1_extV, qES0, qES1, qES2, env0, List.length_cons, List.length_nil, Nat.reduceAdd, Nat.reduceSub, List.replicate, List.cons_append, List.nil_append, opd, Env.put, Env.at, List.set_cons_zero, List.set_cons_succ, List.getD_cons_zero, List.getD_cons_succ, freezeL, resVs, oneOr, Option.map_some, Option.map_none, List.map_cons, List.map_nil, if_true, if_false, Bool.not_true, Bool.not_false, Bool.false_eq_true, reduceIte, decide_true, decide_false, Int.reduceLT, Int.reduceLE, Int.reduceGT, Int.reduceGE, Int.reduceEq, Int.reduceBEq, Int.reduceBNe, load_ptr, ldV_some, cellAt_cells, List.getElem?_cons_zero, List.getElem?_cons_succ, store_ptr, stO_some, setAt_0, setAt_1, setAt_2, setAt_3, setAt_4, setAt_5, setAt_6, setAt_7, setAt_8, setAt_9, setAt_10, setAt_11, setAt_12, cells_int, cells_bool, cells_str, cells_nils, cells_nilp, cells_ptr, cells_sl, cells_u8, cells_u16, cells_agg, get_upd_is, Option.isSome_some, upd_upd, ev1_nchkV, ev1_faV, nchkV_ptr, faV_ptr, ev1_extV, extV_tup, eqptr_nil, eqptr_ptr, Nat.zero_add, Nat.add_zero, qPL0, qPL1, qPL2, qPL3, qPL4, qPL5, beq_self_eq_true, qED0, qED1, placeR]
  | some o =>
    have hm := getO_may ho
    obtain ⟨b, s, w, z, ti⟩ := o
    rw [ho] at h38
    subst hk
    have m1 := smay_pl 997 ⟨f, g, c.toNat, d.toNat, ⟨0, 0, 0, 0, 0⟩⟩
    have hmm : (Su.mk f g c.toNat d.toNat ⟨b, s, w, z, ti⟩).may ↔ (Su.mk f g c.toNat d.toNat ⟨0, 0, 0, 0, 0⟩).may0 := ⟨fun h => h.1, fun h => ⟨h, hm⟩⟩
    simp only [getOV, Of5.cells, ofC] at h38
    by_cases gm : (Su.mk f g c.toNat d.toNat ⟨0, 0, 0, 0, 0⟩).may0
    · rw [decide_eq_true gm] at m1
      simp only [Su.cells, suC] at m1
      simp only [if_pos (hmm.2 gm)]
      simp only [M56, lst, d0, g1, g2, s4, s10, x8, x9, uc, ud, h38, m1, pl_pl, fill_2_0z, getSV, Su.cells, suC, ev1_build, fill_nil, conv_int, ev1_ixsV, ev1_slsV, ev1_lensV', ev1_extV, qES0, qES1, qES2, env0, List.length_cons, List.length_nil, Nat.reduceAdd, Nat.reduceSub, List.replicate, List.cons_append, List.nil_append, opd, Env.put, Env.at, List.set_cons_zero, List.set_cons_succ, List.getD_cons_zero, List.getD_cons_succ, freezeL, resVs, oneOr, Option.map_some, Option.map_none, List.map_cons, List.map_nil, if_true, if_false, Bool.not_true, Bool.not_false, Bool.false_eq_true, reduceIte, decide_true, decide_false, Int.reduceLT, Int.reduceLE, Int.reduceGT, Int.reduceGE, Int.reduceEq, Int.reduceBEq, Int.reduceBNe, load_ptr, ldV_some, cellAt_cells, List.getElem?_cons_zero, List.getElem?_cons_succ, store_ptr, stO_some, setAt_0, setAt_1, setAt_2, setAt_3, setAt_4, setAt_5, setAt_6, setAt_7, setAt_8, setAt_9, setAt_10, setAt_11, setAt_12, cells_int, cells_bool, cells_str, cells_nils, cells_nilp, cells_ptr, cells_sl, cells_u8, cells_u16, cells_agg, get_upd_is, Option.isSome_some, upd_upd, ev1_nchkV, ev1_faV, nchkV_ptr, faV_ptr, ev1_extV, extV_tup, eqptr_nil, eqptr_ptr, Nat.zero_add, Nat.add_zero, qPL0, qPL1, qPL2, qPL3, qPL4, qPL5, beq_self_eq_true, qED0, qED1, placeR]
      rw [drawR_ok]; case h => simp (config := { decide := true }) [calm, calmPair, calmTwo, List.range, List.range.loop, sameO_refl, plg0, plg1, plg2, plg3, plg4, plg5, plg6, plg7, plg8, plg9, plg10, plg11, plg12, plg13]
      simp only [lst, d0, g1, g2, s4, s10, x8, x9, uc, ud, h38, m1, pl_pl, Su.cells, suC, ev1_build, fill_nil, conv_int, ev1_ixsV, ev1_slsV, ev1_lensV', ev1_extV, qES0, qES1, qES2, env0, List.length_cons, List.length_nil, Nat.reduceAdd, Nat.reduceSub, List.replicate, List.cons_append, List.nil_append, opd, Env.put, Env.at, List.set_cons_zero, List.set_cons_succ, List.getD_cons_zero, List.getD_cons_succ, freezeL, resVs, oneOr, Option.map_some, Option.map_none, List.map_cons, List.map_nil, if_true, if_false, Bool.not_true, Bool.not_false, Bool.false_eq_true, reduceIte, decide_true, decide_false, Int.reduceLT, Int.reduceLE, Int.reduceGT, Int.reduceGE, Int.reduceEq, Int.reduceBEq, Int.reduceBNe, load_ptr, ldV_some, cellAt_cells, List.getElem?_cons_zero, List.getElem?_cons_succ, store_ptr, stO_some, setAt_0, setAt_1, setAt_2, setAt_3, setAt_4, setAt_5, setAt_6, setAt_7, setAt_8, setAt_9, setAt_10, setAt_11, setAt_12, cells_int, cells_bool, cells_str, cells_nils, cells_nilp, cells_ptr, cells_sl, cells_u8, cells_u16, cells_agg, get_upd_is, Option.isSome_some, upd_upd, ev1_nchkV, ev1_faV, nchkV_ptr, faV_ptr, ev1_extV, extV_tup, eqptr_nil, eqptr_ptr, Nat.zero_add, Nat.add_zero, qPL0, qPL1, qPL2, qPL3, qPL4, qPL5, beq_self_eq_true, qED0, qED1, placeR]
    · rw [decide_eq_false gm] at m1
      simp only [Su.cells, suC] at m1
      simp only [if_neg (fun h => gm (hmm.1 h))]
      simp only [M56, lst, d0, g1, g2, s4, s10, x8, x9, uc, ud, h38, m1, pl_pl, fill_2_0z, getSV, zeroS, suC, ev1_build, fill_nil, conv_int, ev1_ixsV, ev1_slsV, ev1_lensV', ev1_extV, qES0, qES1, qES2, env0, List.length_cons, List.length_nil, Nat.reduceAdd, Nat.reduceSub, List.replicate, List.cons_append, List.nil_append, opd, Env.put, Env.at, List.set_cons_zero, List.set_cons_succ, List.getD_cons_zero, List.getD_cons_succ, freezeL, resVs, oneOr, Option.map_some, Option.map_none, List.map_cons, List.map_nil, if_true, if_false, Bool.not_true, Bool.not_false, Bool.false_eq_true, reduceIte, decide_true, decide_false, Int.reduceLT, Int.reduceLE, Int.reduceGT, Int.reduceGE, Int.reduceEq, Int.reduceBEq, Int.reduceBNe, load_ptr, ldV_some, cellAt_cells, List.getElem?_cons_zero, List.getElem?_cons_succ, store_ptr, stO_some, setAt_0, setAt_1, setAt_2, setAt_3, setAt_4, setAt_5, setAt_6, setAt_7, setAt_8, setAt_9, setAt_10, setAt_11, setAt_12, cells_int, cells_bool, cells_str, cells_nils, cells_nilp, cells_ptr, cells_sl, cells_u8, cells_u16, cells_agg, get_upd_is, Option.isSome_some, upd_upd, ev1_nchkV, ev1_faV, nchkV_ptr, faV_ptr, ev1_extV, extV_tup, eqptr_nil, eqptr_ptr, Nat.zero_add, Nat.add_zero, qPL0, qPL1, qPL2, qPL3, qPL4, qPL5, beq_self_eq_true, qED0, qED1, placeR]
      rw [drawR_ok]; case h => simp (config := { decide := true }) [calm, calmPair, calmTwo, List.range, List.range.loop, sameO_refl, plg0, plg1, plg2, plg3, plg4, plg5, plg6, plg7, plg8, plg9, plg10, plg11, plg12, plg13]
      simp only [lst, d0, g1, g2, s4, s10, x8, x9, uc, ud, h38, m1, pl_pl, zeroS, suC, ev1_build, fill_nil, conv_int, ev1_ixsV, ev1_slsV, ev1_lensV', ev1_extV, qES0, qES1, qES2, env0, List.length_cons, List.length_nil, Nat.reduceAdd, Nat.reduceSub, List.replicate, List.cons_append, List.nil_append, opd, Env.put, Env.at, List.set_cons_zero, List.set_cons_succ, List.getD_cons_zero, List.getD_cons_succ, freezeL, resVs, oneOr, Option.map_some, Option.map_none, List.map_cons, List.map_nil, if_true, if_false, Bool.not_true, Bool.not_false, Bool.false_eq_true, reduceIte, decide_true, decide_false, Int.reduceLT, Int.reduceLE, Int.reduceGT, Int.reduceGE, Int.reduceEq, Int.reduceBEq, Int.reduceBNe, load_ptr, ldV_some, cellAt_cells, List.getElem?_cons_zero, List.getElem?_cons_succ, store_ptr, stO_some, setAt_0, setAt_1, setAt_2, setAt_3, setAt_4, setAt_5, setAt_6, setAt_7, setAt_8, setAt_9, setAt_10, setAt_11, setAt_12, cells_int, cells_bool, cells_str, cells_nils, cells_nilp, cells_ptr, cells_sl, cells_u8, cells_u16, cells_agg, get_upd_is, Option.isSome_some, upd_upd, ev1_nchkV, ev1_faV, nchkV_ptr, faV_ptr, ev1_extV, extV_tup, eqptr_nil, eqptr_ptr, Nat.zero_add, Nat.add_zero, qPL0, qPL1, qPL2, qPL3, qPL4, qPL5, beq_self_eq_true, qED0, qED1, placeR]
theorem sget_val (t : List UInt8) : valR (evK 1000 56 [.str t] St.nil) = some (getSV (getS t)) := by
  rw [show (1000 : Nat) = 999 + 1 from rfl, evK_in rfl tab56, show St.nil = St.nil.pl [] from rfl]
  have lst : lensV' (.str t) = some (.int .i64 (t.length : Nat)) := rfl
  rcases short10 t with h | ⟨a0, a1, a2, a3, b0, b1, b2, b3, c, d, r, rfl⟩
  · have d0 : decide (((t.length : Nat) : Int) < 10) = true := decide_eq_true (by omega)
    have hR : getS t = none := by unfold getS; rw [hdS_short h]
    rw [hR]
    simp only [M56, lst, d0, getSV, zeroS, suC, ev1_build, fill_nil, ev1_lensV', qES0, qES1, qES2, env0, List.length_cons, List.length_nil, Nat.reduceAdd, Nat.reduceSub, List.replicate, List.cons_append, List.nil_append, opd, Env.put, Env.at, List.set_cons_zero, List.set_cons_succ, List.getD_cons_zero, List.getD_cons_succ, freezeL, resVs, oneOr, Option.map_some, Option.map_none, List.map_cons, List.map_nil, if_true, if_false, Bool.not_true, Bool.not_false, Bool.false_eq_true, reduceIte, decide_true, decide_false, Int.reduceLT, Int.reduceLE, Int.reduceGT, Int.reduceGE, Int.reduceEq, Int.reduceBEq, Int.reduceBNe, load_ptr, ldV_some, cellAt_cells, List.getElem?_cons_zero, List.getElem?_cons_succ, store_ptr, stO_some, setAt_0, setAt_1, setAt_2, setAt_3, setAt_4, setAt_5, setAt_6, setAt_7, setAt_8, setAt_9, setAt_10, setAt_11, setAt_12, cells_int, cells_bool, cells_str, cells_nils, cells_nilp, cells_ptr, cells_sl, cells_u8, cells_u16, cells_agg, get_upd_is, Option.isSome_some, upd_upd, ev1_nchkV, ev1_faV, nchkV_ptr, faV_ptr, ev1_extV, extV_tup, eqptr_nil, eqptr_ptr, Nat.zero_add, Nat.add_zero, qPL0, qPL1, qPL2, qPL3, qPL4, qPL5, beq_self_eq_true]
  · have d0 : decide ((((a0 :: a1 :: a2 :: a3 :: b0 :: b1 :: b2 :: b3 :: c :: d :: r).length : Nat) : Int) < 10) = false := decide_eq_false (by simp; omega)
    rw [getS_cons]
    exact sget_long 998 _ r _ _ c d _ d0 (get4_ev a0 a1 a2 a3 (b0 :: b1 :: b2 :: b3 :: c :: d :: r) 998) (get4_ev b0 b1 b2 b3 (c :: d :: r) 998) (sl4 a0 a1 a2 a3 b0 b1 b2 b3 c d r) (sl10 a0 a1 a2 a3 b0 b1 b2 b3 c d r) (ix8 a0 a1 a2 a3 b0 b1 b2 b3 c d r) (ix9 a0 a1 a2 a3 b0 b1 b2 b3 c d r) rfl
end Go.Proofs.YtbeimfhodgmjhaaDoor
