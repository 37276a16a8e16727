/- qos.Get, as the evaluator answers it. No conditions. -/
import Derived.Test.YtbeimfhodgmjhaaDoorQ9
set_option linter.unusedSimpArgs false
set_option linter.unusedVariables false
set_option maxRecDepth 100000
set_option maxHeartbeats 4000000
namespace Go.Proofs.YtbeimfhodgmjhaaDoor
open Go Go.Ab
def setOf (l : List Tp) (id : Int) : Int := match findT id l with
  | some [b] => (b.toNat : Int)
  | _ => 0
def ofL (l : List Tp) : Of5 := ⟨setOf l 1, setOf l 2, setOf l 3, setOf l 4, setOf l 5⟩
def getO (s : List UInt8) : Option Of5 := match getL s with
  | some l => if (ofL l).may then some (ofL l) else none
  | none => none
def getOV (r : Option Of5) : AV := match r with
  | some o => .tup [.agg o.cells, .bool true]
  | none => .tup [.agg (ofC 0 0 0 0 0), .bool false]
theorem getT_len : ∀ n s l, getT n s = some l → l.length < n := by
  intro n
  induction n with
  | zero => intro s l h; cases h
  | succ n ih =>
    intro s l h
    match s, h with
    | [], h => cases h; simp
    | [_], h => cases h
    | a :: b :: r, h =>
      unfold getT at h
      split at h
      · cases h
      · obtain ⟨m, h1, rfl⟩ := Option.map_eq_some_iff.1 h
        have := ih _ _ h1
        simp; omega
theorem getL_len {s : List UInt8} {l : List Tp} (h : getL s = some l) : l.length ≤ 100 := by
  unfold getL at h
  split at h
  · cases h
  · have := getT_len _ _ _ h; omega
theorem not_may (o : Of5) (j : Nat) (hj : j < 5) (h : o.sets.getD j 0 = 0) : ¬ o.may := by
  intro hm
  have hm' : mayP o.b o.s o.w o.z o.t := hm
  unfold mayP at hm'
  match j, hj with
  | 0, _ => have : o.b = 0 := h; omega
  | 1, _ => have : o.s = 0 := h; omega
  | 2, _ => have : o.w = 0 := h; omega
  | 3, _ => have : o.z = 0 := h; omega
  | 4, _ => have : o.t = 0 := h; omega
theorem ofL_sets (l : List Tp) (j : Nat) (hj : j < 5) : (ofL l).sets.getD j 0 = setOf l ((j : Int) + 1) := by
  match j, hj with
  | 0, _ => rfl
  | 1, _ => rfl
  | 2, _ => rfl
  | 3, _ => rfl
  | 4, _ => rfl
theorem ixpV_at (len b i : Nat) (hi : i < len) : ixpV len 1 (.ptr b 0) (.int .i64 (i : Int)) = some (.ptr b i) := by
  have h1 : idx len (.int .i64 (i : Int)) = some i := by simp [idx]; omega
  simp only [ixpV, h1]
  simp
def Z5 : Ab.Obj := .cells 0 [.int .i64 0, .int .i64 0, .int .i64 0, .int .i64 0, .int .i64 0]
def S38 (cs : List Int) : St := St.nil.pl [Z5, .cells 0 (cs.map (.int .i64 ·))]
theorem store38 (cs : List Int) (i : Nat) (hi : i < cs.length) (x : Int) : storeV 1 (S38 cs) (.ptr (St.nil.next + 1) i) (.int .i64 x) = some (.undef, S38 (cs.set i x)) := by
  simp only [storeV, S38, plg1, cellsOf, storeL, List.length_cons, List.length_nil, if_true, fillL, plu1, List.length_map]
  rw [if_pos (by omega)]
  simp [List.map_set]
def E38 (ts : AV) (ok : Bool) (i : Int) : Env := [.undef, .undef, .ptr St.nil.next 0, .undef, ts, .bool ok, .ptr (St.nil.next + 1) 0, .undef, .undef, .undef, .undef, .undef, .undef, .undef, .undef, .undef, .int .i64 i, .undef, .undef, .undef, .undef, .undef, .undef, .undef, .undef, .undef, .undef, .undef, .undef, .undef, .undef, .undef, .undef, .undef, .undef, .undef, .undef, .undef, .undef, .undef, .undef, .undef, .undef, .undef, .undef, .undef, .undef, .undef, .undef, .undef, .undef, .undef, .undef, .undef, .undef, .undef, .undef, .undef, .undef, .undef, .undef, .undef]
def ok1 : Option (List UInt8) → Bool
  | some [_] => true
  | _ => false
theorem round38 (l : List Tp) (hl : l.length ≤ 100) (ok : Bool) (cs : List Int) (hc : cs.length = 5) (i : Nat) (hi : i < 5) :
    ∃ e', evC tabGl (evB 999) 999 M38b0 (E38 (tpV l) ok i) (S38 cs) = some (.nrm, e', S38 (if ok && ok1 (findT ((i : Int) + 1) l) then cs.set i (setOf l ((i : Int) + 1)) else cs)) ∧ maskE M38b0l e' = E38 (tpV l) (ok && ok1 (findT ((i : Int) + 1) l)) ((i + 1 : Nat) : Int) := by
  have h68 := b68 998 (tpV_is l) hl ((i : Int) + 1)
  have fz := (tpV_is l).freeze
  have d0 : decide ((i : Int) < 5) = true := decide_eq_true (by omega)
  have w1 : IntKind.i64.wrap ((i : Int) + 1) = (i : Int) + 1 := wrapI _ (by omega) (by omega)
  have hx := ixpV_at 5 (St.nil.next + 1) i hi
  cases hf : findT ((i : Int) + 1) l with
  | none =>
    rw [hf] at h68
    simp only [findV] at h68
    cases ok <;>
    · simp only [M38b0, E38, d0, w1, h68, fz, ok1, Bool.and_false, Bool.false_and, ev1_ixpV, ev1_ixsV, ev1_extV, ev1_lensV', qES0, qES1, qES2, env0, List.length_cons, List.length_nil, Nat.reduceAdd, Nat.reduceSub, List.replicate, List.cons_append, List.nil_append, opd, Env.put, Env.at, List.set_cons_zero, List.set_cons_succ, List.getD_cons_zero, List.getD_cons_succ, freezeL, resVs, oneOr, Option.map_some, Option.map_none, List.map_cons, List.map_nil, if_true, if_false, Bool.not_true, Bool.not_false, Bool.false_eq_true, reduceIte, decide_true, decide_false, Int.reduceLT, Int.reduceLE, Int.reduceGT, Int.reduceGE, Int.reduceEq, Int.reduceBEq, Int.reduceBNe, load_ptr, ldV_some, cellAt_cells, List.getElem?_cons_zero, List.getElem?_cons_succ, store_ptr, stO_some, setAt_0, setAt_1, setAt_2, setAt_3, setAt_4, setAt_5, setAt_6, setAt_7, setAt_8, setAt_9, setAt_10, setAt_11, setAt_12, cells_int, cells_bool, cells_str, cells_nils, cells_nilp, cells_ptr, cells_sl, cells_u8, cells_u16, cells_agg, get_upd_is, Option.isSome_some, upd_upd, ev1_nchkV, ev1_faV, nchkV_ptr, faV_ptr, ev1_extV, extV_tup, eqptr_nil, eqptr_ptr, Nat.zero_add, Nat.add_zero, qPL0, qPL1, qPL2, qPL3, qPL4, qPL5, beq_self_eq_true]
      exact ⟨_, rfl, rfl⟩
  | some x =>
    rw [hf] at h68
    simp only [findV] at h68
    match x, hf, h68 with
    | [], hf, h68 =>
      have lx : lensV' (.str []) = some (.int .i64 0) := rfl
      cases ok <;>
      · simp only [M38b0, E38, d0, w1, h68, fz, lx, ok1, Bool.and_false, Bool.false_and, ev1_ixpV, ev1_ixsV, ev1_extV, ev1_lensV', qES0, qES1, qES2, env0, List.length_cons, List.length_nil, Nat.reduceAdd, Nat.reduceSub, List.replicate, List.cons_append, List.nil_append, opd, Env.put, Env.at, List.set_cons_zero, List.set_cons_succ, List.getD_cons_zero, List.getD_cons_succ, freezeL, resVs, oneOr, Option.map_some, Option.map_none, List.map_cons, List.map_nil, if_true, if_false, Bool.not_true, Bool.not_false, Bool.false_eq_true, reduceIte, decide_true, decide_false, Int.reduceLT, Int.reduceLE, Int.reduceGT, Int.reduceGE, Int.reduceEq, Int.reduceBEq, Int.reduceBNe, load_ptr, ldV_some, cellAt_cells, List.getElem?_cons_zero, List.getElem?_cons_succ, store_ptr, stO_some, setAt_0, setAt_1, setAt_2, setAt_3, setAt_4, setAt_5, setAt_6, setAt_7, setAt_8, setAt_9, setAt_10, setAt_11, setAt_12, cells_int, cells_bool, cells_str, cells_nils, cells_nilp, cells_ptr, cells_sl, cells_u8, cells_u16, cells_agg, get_upd_is, Option.isSome_some, upd_upd, ev1_nchkV, ev1_faV, nchkV_ptr, faV_ptr, ev1_extV, extV_tup, eqptr_nil, eqptr_ptr, Nat.zero_add, Nat.add_zero, qPL0, qPL1, qPL2, qPL3, qPL4, qPL5, beq_self_eq_true]
        exact ⟨_, rfl, rfl⟩
    | a :: c :: r, hf, h68 =>
      have lx : lensV' (.str (a :: c :: r)) = some (.int .i64 ((r.length + 2 : Nat) : Int)) := rfl
      have q : (((r.length + 2 : Nat) : Int) == 1) = false := by simp; omega
      cases ok
      · simp only [M38b0, E38, d0, w1, h68, fz, lx, q, ok1, Bool.and_false, Bool.false_and, ev1_ixpV, ev1_ixsV, ev1_extV, ev1_lensV', qES0, qES1, qES2, env0, List.length_cons, List.length_nil, Nat.reduceAdd, Nat.reduceSub, List.replicate, List.cons_append, List.nil_append, opd, Env.put, Env.at, List.set_cons_zero, List.set_cons_succ, List.getD_cons_zero, List.getD_cons_succ, freezeL, resVs, oneOr, Option.map_some, Option.map_none, List.map_cons, List.map_nil, if_true, if_false, Bool.not_true, Bool.not_false, Bool.false_eq_true, reduceIte, decide_true, decide_false, Int.reduceLT, Int.reduceLE, Int.reduceGT, Int.reduceGE, Int.reduceEq, Int.reduceBEq, Int.reduceBNe, load_ptr, ldV_some, cellAt_cells, List.getElem?_cons_zero, List.getElem?_cons_succ, store_ptr, stO_some, setAt_0, setAt_1, setAt_2, setAt_3, setAt_4, setAt_5, setAt_6, setAt_7, setAt_8, setAt_9, setAt_10, setAt_11, setAt_12, cells_int, cells_bool, cells_str, cells_nils, cells_nilp, cells_ptr, cells_sl, cells_u8, cells_u16, cells_agg, get_upd_is, Option.isSome_some, upd_upd, ev1_nchkV, ev1_faV, nchkV_ptr, faV_ptr, ev1_extV, extV_tup, eqptr_nil, eqptr_ptr, Nat.zero_add, Nat.add_zero, qPL0, qPL1, qPL2, qPL3, qPL4, qPL5, beq_self_eq_true]
        exact ⟨_, rfl, rfl⟩
      · simp only [M38b0, E38, d0, w1, h68, fz, lx, q, ok1, Bool.and_false, Bool.false_and, ev1_ixpV, ev1_ixsV, ev1_extV, ev1_lensV', qES0, qES1, qES2, env0, List.length_cons, List.length_nil, Nat.reduceAdd, Nat.reduceSub, List.replicate, List.cons_append, List.nil_append, opd, Env.put, Env.at, List.set_cons_zero, List.set_cons_succ, List.getD_cons_zero, List.getD_cons_succ, freezeL, resVs, oneOr, Option.map_some, Option.map_none, List.map_cons, List.map_nil, if_true, if_false, Bool.not_true, Bool.not_false, Bool.false_eq_true, reduceIte, decide_true, decide_false, Int.reduceLT, Int.reduceLE, Int.reduceGT, Int.reduceGE, Int.reduceEq, Int.reduceBEq, Int.reduceBNe, load_ptr, ldV_some, cellAt_cells, List.getElem?_cons_zero, List.getElem?_cons_succ, store_ptr, stO_some, setAt_0, setAt_1, setAt_2, setAt_3, setAt_4, setAt_5, setAt_6, setAt_7, setAt_8, setAt_9, setAt_10, setAt_11, setAt_12, cells_int, cells_bool, cells_str, cells_nils, cells_nilp, cells_ptr, cells_sl, cells_u8, cells_u16, cells_agg, get_upd_is, Option.isSome_some, upd_upd, ev1_nchkV, ev1_faV, nchkV_ptr, faV_ptr, ev1_extV, extV_tup, eqptr_nil, eqptr_ptr, Nat.zero_add, Nat.add_zero, qPL0, qPL1, qPL2, qPL3, qPL4, qPL5, beq_self_eq_true]
        exact ⟨_, rfl, rfl⟩
    | [a], hf, h68 =>
      have lx : lensV' (.str [a]) = some (.int .i64 1) := rfl
      have x0 : ixsV (.str [a]) (.int .i64 0) = some (.int .u8 (a.toNat : Int)) := ixsV_at [a] 0 (by simp)
      have wa : IntKind.i64.wrap (a.toNat : Int) = (a.toNat : Int) := wrapI _ (by omega) (by have := a.toNat_lt; omega)
      have hset : setOf l ((i : Int) + 1) = (a.toNat : Int) := by unfold setOf; rw [hf]
      have st := store38 cs i (by omega) (a.toNat : Int)
      rw [hset]
      cases ok
      · simp only [M38b0, E38, d0, w1, h68, fz, lx, x0, wa, hx, st, ok1, Bool.and_false, Bool.false_and, Bool.and_true, Bool.true_and, conv_int, ev1_ixpV, ev1_ixsV, ev1_extV, ev1_lensV', qES0, qES1, qES2, env0, List.length_cons, List.length_nil, Nat.reduceAdd, Nat.reduceSub, List.replicate, List.cons_append, List.nil_append, opd, Env.put, Env.at, List.set_cons_zero, List.set_cons_succ, List.getD_cons_zero, List.getD_cons_succ, freezeL, resVs, oneOr, Option.map_some, Option.map_none, List.map_cons, List.map_nil, if_true, if_false, Bool.not_true, Bool.not_false, Bool.false_eq_true, reduceIte, decide_true, decide_false, Int.reduceLT, Int.reduceLE, Int.reduceGT, Int.reduceGE, Int.reduceEq, Int.reduceBEq, Int.reduceBNe, load_ptr, ldV_some, cellAt_cells, List.getElem?_cons_zero, List.getElem?_cons_succ, store_ptr, stO_some, setAt_0, setAt_1, setAt_2, setAt_3, setAt_4, setAt_5, setAt_6, setAt_7, setAt_8, setAt_9, setAt_10, setAt_11, setAt_12, cells_int, cells_bool, cells_str, cells_nils, cells_nilp, cells_ptr, cells_sl, cells_u8, cells_u16, cells_agg, get_upd_is, Option.isSome_some, upd_upd, ev1_nchkV, ev1_faV, nchkV_ptr, faV_ptr, ev1_extV, extV_tup, eqptr_nil, eqptr_ptr, Nat.zero_add, Nat.add_zero, qPL0, qPL1, qPL2, qPL3, qPL4, qPL5, beq_self_eq_true]
        exact ⟨_, rfl, rfl⟩
      · simp only [M38b0, E38, d0, w1, h68, fz, lx, x0, wa, hx, st, ok1, Bool.and_false, Bool.false_and, Bool.and_true, Bool.true_and, conv_int, ev1_ixpV, ev1_ixsV, ev1_extV, ev1_lensV', qES0, qES1, qES2, env0, List.length_cons, List.length_nil, Nat.reduceAdd, Nat.reduceSub, List.replicate, List.cons_append, List.nil_append, opd, Env.put, Env.at, List.set_cons_zero, List.set_cons_succ, List.getD_cons_zero, List.getD_cons_succ, freezeL, resVs, oneOr, Option.map_some, Option.map_none, List.map_cons, List.map_nil, if_true, if_false, Bool.not_true, Bool.not_false, Bool.false_eq_true, reduceIte, decide_true, decide_false, Int.reduceLT, Int.reduceLE, Int.reduceGT, Int.reduceGE, Int.reduceEq, Int.reduceBEq, Int.reduceBNe, load_ptr, ldV_some, cellAt_cells, List.getElem?_cons_zero, List.getElem?_cons_succ, store_ptr, stO_some, setAt_0, setAt_1, setAt_2, setAt_3, setAt_4, setAt_5, setAt_6, setAt_7, setAt_8, setAt_9, setAt_10, setAt_11, setAt_12, cells_int, cells_bool, cells_str, cells_nils, cells_nilp, cells_ptr, cells_sl, cells_u8, cells_u16, cells_agg, get_upd_is, Option.isSome_some, upd_upd, ev1_nchkV, ev1_faV, nchkV_ptr, faV_ptr, ev1_extV, extV_tup, eqptr_nil, eqptr_ptr, Nat.zero_add, Nat.add_zero, qPL0, qPL1, qPL2, qPL3, qPL4, qPL5, beq_self_eq_true]
        exact ⟨_, rfl, rfl⟩
theorem setOf_no {l : List Tp} {id : Int} (h : ok1 (findT id l) = false) : setOf l id = 0 := by
  unfold setOf
  match hf : findT id l, h with
  | none, _ => rfl
  | some [], _ => rfl
  | some (_ :: _ :: _), _ => rfl
  | some [b], h => cases h
theorem qget_val (s : List UInt8) : valR (evB 1000 38 [.str s] St.nil) = some (getOV (getO s)) := by
  rw [show (1000 : Nat) = 999 + 1 from rfl, evB_in rfl tab38, show St.nil = St.nil.pl [] from rfl]
  have h67 := b67 998 s
  obtain ⟨l, ok0, hl, hg, hR⟩ : ∃ (l : List Tp) (ok0 : Bool), l.length ≤ 100 ∧ getV (getL s) = .tup [tpV l, .bool ok0] ∧ getO s = if ok0 && decide (ofL l).may then some (ofL l) else none := by
    unfold getO
    cases h : getL s with
    | none => exact ⟨[], false, by simp, rfl, rfl⟩
    | some l =>
      refine ⟨l, true, getL_len h, rfl, ?_⟩
      by_cases hm : (ofL l).may <;> simp [hm]
  rw [hg] at h67
  have key : ∀ e, maskE M38b0l e = E38 (tpV l) ok0 0 → valR (outR M38.res (seqR (blockR 0 (iter (evC tabGl (evB 999) 999 M38b0) M38b0l 999 e (S38 [0, 0, 0, 0, 0]))) (evC tabGl (evB 999) 999 M38r0))) = some (getOV (getO s)) := by
    intro e he
    refine iter_leave (evC tabGl (evB 999) 999 M38b0) M38b0l (fun i e st => ∃ ok cs, maskE M38b0l e = E38 (tpV l) ok (i : Int) ∧ st = S38 cs ∧ cs.length = 5 ∧ (ok = true → ok0 = true ∧ ∀ j : Nat, j < i → cs.getD j 0 = setOf l ((j : Int) + 1)) ∧ (ok = false → ok0 = false ∨ ∃ j : Nat, j < 5 ∧ setOf l ((j : Int) + 1) = 0))
      (fun out => valR (outR M38.res (seqR (blockR 0 out) (evC tabGl (evB 999) 999 M38r0))) = some (getOV (getO s))) 5 ?_ ?_ 5 0 _ _ 999 (by omega) ⟨ok0, [0, 0, 0, 0, 0], he, rfl, rfl, fun h => ⟨h, fun j hj => by omega⟩, fun h => .inl h⟩ (by omega)
    · rintro i e st hi ⟨ok, cs, h1, rfl, h3, h4, h5⟩
      rw [h1]
      left
      obtain ⟨e', k1, k2⟩ := round38 l hl ok cs h3 i hi
      refine ⟨e', _, k1, _, _, k2, rfl, by split <;> simp [h3], fun h => ?_, fun h => ?_⟩
      · rw [if_pos h]
        simp only [Bool.and_eq_true] at h
        obtain ⟨q1, q2⟩ := h4 h.1
        refine ⟨q1, fun j hj => ?_⟩
        by_cases hji : j = i
        · subst hji
          rw [List.getD_eq_getElem?_getD, List.getElem?_set_self (by omega)]; rfl
        · rw [List.getD_eq_getElem?_getD, List.getElem?_set_ne (Ne.symm hji), ← List.getD_eq_getElem?_getD]
          exact q2 j (by omega)
      · cases hok : ok with
        | false => exact h5 hok
        | true =>
          rw [hok, Bool.true_and] at h
          exact .inr ⟨i, hi, setOf_no h⟩
    · rintro e st ⟨ok, cs, h1, rfl, h3, h4, h5⟩
      rw [h1]
      have d0 : decide (((5 : Nat) : Int) < 5) = false := rfl
      obtain ⟨c0, c1, c2, c3, c4, rfl⟩ : ∃ c0 c1 c2 c3 c4, cs = [c0, c1, c2, c3, c4] := by
        match cs, h3 with
        | [c0, c1, c2, c3, c4], _ => exact ⟨_, _, _, _, _, rfl⟩
      have y0 : ∀ b, ixpV 5 1 (.ptr b 0) (.int .i64 0) = some (.ptr b 0) := fun b => ixpV_at 5 b 0 (by omega)
      have y1 : ∀ b, ixpV 5 1 (.ptr b 0) (.int .i64 1) = some (.ptr b 1) := fun b => ixpV_at 5 b 1 (by omega)
      have y2 : ∀ b, ixpV 5 1 (.ptr b 0) (.int .i64 2) = some (.ptr b 2) := fun b => ixpV_at 5 b 2 (by omega)
      have y3 : ∀ b, ixpV 5 1 (.ptr b 0) (.int .i64 3) = some (.ptr b 3) := fun b => ixpV_at 5 b 3 (by omega)
      have y4 : ∀ b, ixpV 5 1 (.ptr b 0) (.int .i64 4) = some (.ptr b 4) := fun b => ixpV_at 5 b 4 (by omega)
      have h25 := b25 998 ⟨c0, c1, c2, c3, c4⟩
      simp only [Of5.cells, ofC] at h25
      refine ⟨?_, fun e' s' hh => ?_⟩
      · cases hok : ok with
        | false =>
          have hr : getO s = none := by
            rw [hR]
            rcases h5 hok with h | ⟨j, hj, h⟩
            · rw [h]; rfl
            · rw [decide_eq_false (not_may _ j hj ((ofL_sets l j hj).trans h)), Bool.and_false]; rfl
          rw [hr]
          simp only [M38, M38r0, M38b0, E38, S38, Z5, d0, y0, y1, y2, y3, y4, getOV, ofC, ev1_build, fill_nil, ev1_ixpV, qES0, qES1, qES2, env0, List.length_cons, List.length_nil, Nat.reduceAdd, Nat.reduceSub, List.replicate, List.cons_append, List.nil_append, opd, Env.put, Env.at, List.set_cons_zero, List.set_cons_succ, List.getD_cons_zero, List.getD_cons_succ, freezeL, resVs, oneOr, Option.map_some, Option.map_none, List.map_cons, List.map_nil, if_true, if_false, Bool.not_true, Bool.not_false, Bool.false_eq_true, reduceIte, decide_true, decide_false, Int.reduceLT, Int.reduceLE, Int.reduceGT, Int.reduceGE, Int.reduceEq, Int.reduceBEq, Int.reduceBNe, load_ptr, ldV_some, cellAt_cells, List.getElem?_cons_zero, List.getElem?_cons_succ, store_ptr, stO_some, setAt_0, setAt_1, setAt_2, setAt_3, setAt_4, setAt_5, setAt_6, setAt_7, setAt_8, setAt_9, setAt_10, setAt_11, setAt_12, cells_int, cells_bool, cells_str, cells_nils, cells_nilp, cells_ptr, cells_sl, cells_u8, cells_u16, cells_agg, get_upd_is, Option.isSome_some, upd_upd, ev1_nchkV, ev1_faV, nchkV_ptr, faV_ptr, ev1_extV, extV_tup, eqptr_nil, eqptr_ptr, Nat.zero_add, Nat.add_zero, qPL0, qPL1, qPL2, qPL3, qPL4, qPL5, beq_self_eq_true]
        | true =>
          obtain ⟨q1, q2⟩ := h4 hok
          have e0 : c0 = setOf l 1 := q2 0 (by omega)
          have e1 : c1 = setOf l 2 := q2 1 (by omega)
          have e2 : c2 = setOf l 3 := q2 2 (by omega)
          have e3 : c3 = setOf l 4 := q2 3 (by omega)
          have e4 : c4 = setOf l 5 := q2 4 (by omega)
          have ho : (⟨c0, c1, c2, c3, c4⟩ : Of5) = ofL l := by rw [e0, e1, e2, e3, e4]; rfl
          rw [q1, Bool.true_and, ← ho] at hR
          by_cases hm : Of5.may ⟨c0, c1, c2, c3, c4⟩
          · rw [decide_eq_true hm] at h25 hR
            rw [if_pos rfl] at hR
            rw [hR]
            simp only [M38, M38r0, M38b0, E38, S38, Z5, d0, y0, y1, y2, y3, y4, h25, getOV, Of5.cells, ofC, ev1_build, fill_nil, ev1_ixpV, qES0, qES1, qES2, env0, List.length_cons, List.length_nil, Nat.reduceAdd, Nat.reduceSub, List.replicate, List.cons_append, List.nil_append, opd, Env.put, Env.at, List.set_cons_zero, List.set_cons_succ, List.getD_cons_zero, List.getD_cons_succ, freezeL, resVs, oneOr, Option.map_some, Option.map_none, List.map_cons, List.map_nil, if_true, if_false, Bool.not_true, Bool.not_false, Bool.false_eq_true, reduceIte, decide_true, decide_false, Int.reduceLT, Int.reduceLE, Int.reduceGT, Int.reduceGE, Int.reduceEq, Int.reduceBEq, Int.reduceBNe, load_ptr, ldV_some, cellAt_cells, List.getElem?_cons_zero, List.getElem?_cons_succ, store_ptr, stO_some, setAt_0, setAt_1, setAt_2, setAt_3, setAt_4, setAt_5, setAt_6, setAt_7, setAt_8, setAt_9, setAt_10, setAt_11, setAt_12, cells_int, cells_bool, cells_str, cells_nils, cells_nilp, cells_ptr, cells_sl, cells_u8, cells_u16, cells_agg, get_upd_is, Option.isSome_some, upd_upd, ev1_nchkV, ev1_faV, nchkV_ptr, faV_ptr, ev1_extV, extV_tup, eqptr_nil, eqptr_ptr, Nat.zero_add, Nat.add_zero, qPL0, qPL1, qPL2, qPL3, qPL4, qPL5, beq_self_eq_true]
          · rw [decide_eq_false hm] at h25 hR
            rw [if_neg (by decide)] at hR
            rw [hR]
            simp only [M38, M38r0, M38b0, E38, S38, Z5, d0, y0, y1, y2, y3, y4, h25, getOV, Of5.cells, ofC, ev1_build, fill_nil, ev1_ixpV, qES0, qES1, qES2, env0, List.length_cons, List.length_nil, Nat.reduceAdd, Nat.reduceSub, List.replicate, List.cons_append, List.nil_append, opd, Env.put, Env.at, List.set_cons_zero, List.set_cons_succ, List.getD_cons_zero, List.getD_cons_succ, freezeL, resVs, oneOr, Option.map_some, Option.map_none, List.map_cons, List.map_nil, if_true, if_false, Bool.not_true, Bool.not_false, Bool.false_eq_true, reduceIte, decide_true, decide_false, Int.reduceLT, Int.reduceLE, Int.reduceGT, Int.reduceGE, Int.reduceEq, Int.reduceBEq, Int.reduceBNe, load_ptr, ldV_some, cellAt_cells, List.getElem?_cons_zero, List.getElem?_cons_succ, store_ptr, stO_some, setAt_0, setAt_1, setAt_2, setAt_3, setAt_4, setAt_5, setAt_6, setAt_7, setAt_8, setAt_9, setAt_10, setAt_11, setAt_12, cells_int, cells_bool, cells_str, cells_nils, cells_nilp, cells_ptr, cells_sl, cells_u8, cells_u16, cells_agg, get_upd_is, Option.isSome_some, upd_upd, ev1_nchkV, ev1_faV, nchkV_ptr, faV_ptr, ev1_extV, extV_tup, eqptr_nil, eqptr_ptr, Nat.zero_add, Nat.add_zero, qPL0, qPL1, qPL2, qPL3, qPL4, qPL5, beq_self_eq_true]
      · simp only [M38b0, E38, d0, qES0, qES1, qES2, env0, List.length_cons, List.length_nil, Nat.reduceAdd, Nat.reduceSub, List.replicate, List.cons_append, List.nil_append, opd, Env.put, Env.at, List.set_cons_zero, List.set_cons_succ, List.getD_cons_zero, List.getD_cons_succ, freezeL, resVs, oneOr, Option.map_some, Option.map_none, List.map_cons, List.map_nil, if_true, if_false, Bool.not_true, Bool.not_false, Bool.false_eq_true, reduceIte, decide_true, decide_false, Int.reduceLT, Int.reduceLE, Int.reduceGT, Int.reduceGE, Int.reduceEq, Int.reduceBEq, Int.reduceBNe, load_ptr, ldV_some, cellAt_cells, List.getElem?_cons_zero, List.getElem?_cons_succ, store_ptr, stO_some, setAt_0, setAt_1, setAt_2, setAt_3, setAt_4, setAt_5, setAt_6, setAt_7, setAt_8, setAt_9, setAt_10, setAt_11, setAt_12, cells_int, cells_bool, cells_str, cells_nils, cells_nilp, cells_ptr, cells_sl, cells_u8, cells_u16, cells_agg, get_upd_is, Option.isSome_some, upd_upd, ev1_nchkV, ev1_faV, nchkV_ptr, faV_ptr, ev1_extV, extV_tup, eqptr_nil, eqptr_ptr, Nat.zero_add, Nat.add_zero, qPL0, qPL1, qPL2, qPL3, qPL4, qPL5, beq_self_eq_true] at hh
        cases hh
  simp only [M38, h67, evC_loop, ev1_extV, qES0, qES1, qES2, env0, List.length_cons, List.length_nil, Nat.reduceAdd, Nat.reduceSub, List.replicate, List.cons_append, List.nil_append, opd, Env.put, Env.at, List.set_cons_zero, List.set_cons_succ, List.getD_cons_zero, List.getD_cons_succ, freezeL, resVs, oneOr, Option.map_some, Option.map_none, List.map_cons, List.map_nil, if_true, if_false, Bool.not_true, Bool.not_false, Bool.false_eq_true, reduceIte, decide_true, decide_false, Int.reduceLT, Int.reduceLE, Int.reduceGT, Int.reduceGE, Int.reduceEq, Int.reduceBEq, Int.reduceBNe, load_ptr, ldV_some, cellAt_cells, List.getElem?_cons_zero, List.getElem?_cons_succ, store_ptr, stO_some, setAt_0, setAt_1, setAt_2, setAt_3, setAt_4, setAt_5, setAt_6, setAt_7, setAt_8, setAt_9, setAt_10, setAt_11, setAt_12, cells_int, cells_bool, cells_str, cells_nils, cells_nilp, cells_ptr, cells_sl, cells_u8, cells_u16, cells_agg, get_upd_is, Option.isSome_some, upd_upd, ev1_nchkV, ev1_faV, nchkV_ptr, faV_ptr, ev1_extV, extV_tup, eqptr_nil, eqptr_ptr, Nat.zero_add, Nat.add_zero, qPL0, qPL1, qPL2, qPL3, qPL4, qPL5, beq_self_eq_true]
  exact key _ rfl
end Go.Proofs.YtbeimfhodgmjhaaDoor
