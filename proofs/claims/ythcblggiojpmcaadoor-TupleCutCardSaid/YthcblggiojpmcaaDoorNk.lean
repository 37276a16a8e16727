/- nick.Kind, nick.May and xid.May, as the evaluator answers them. No conditions. -/
import Derived.Test.YthcblggiojpmcaaDoorTupFind
import Derived.Test.YthcblggiojpmcaaDoorM4n
set_option linter.unusedSimpArgs false
set_option linter.unusedVariables false
set_option maxRecDepth 100000
set_option maxHeartbeats 4000000
namespace Go.Proofs.YthcblggiojpmcaaDoor
open Go Go.Ab
theorem i32_geq (a b : Int) : binV .geq (.int .i32 a) (.int .i32 b) = some (.bool (decide (a ≥ b))) := (id rfl)
theorem i32_leq (a b : Int) : binV .leq (.int .i32 a) (.int .i32 b) = some (.bool (decide (a ≤ b))) := (id rfl)
theorem i32_lss (a b : Int) : binV .lss (.int .i32 a) (.int .i32 b) = some (.bool (decide (a < b))) := (id rfl)
theorem i32_gtr (a b : Int) : binV .gtr (.int .i32 a) (.int .i32 b) = some (.bool (decide (a > b))) := (id rfl)
theorem i32_neq (a b : Int) : binV .neq (.int .i32 a) (.int .i32 b) = some (.bool (a != b)) := (id rfl)
def kindOf (r : Int) : Int :=
  if (97 ≤ r ∧ r ≤ 122) ∨ (65 ≤ r ∧ r ≤ 90) then 1 else if 48 ≤ r ∧ r ≤ 57 then 2 else if 32 ≤ r ∧ r ≤ 126 then 3 else if 160 ≤ r ∧ r ≠ 65533 ∧ Utf8.valid r = true then 4 else 0
theorem regions (r : Int) : r < 0 ∨ (0 ≤ r ∧ r ≤ 31) ∨ (32 ≤ r ∧ r ≤ 47) ∨ (48 ≤ r ∧ r ≤ 57) ∨ (58 ≤ r ∧ r ≤ 64) ∨ (65 ≤ r ∧ r ≤ 90) ∨ (91 ≤ r ∧ r ≤ 96) ∨ (97 ≤ r ∧ r ≤ 122) ∨ (123 ≤ r ∧ r ≤ 126) ∨ (127 ≤ r ∧ r ≤ 159) ∨
    (160 ≤ r ∧ r ≤ 55295) ∨ (55296 ≤ r ∧ r ≤ 57343) ∨ (57344 ≤ r ∧ r ≤ 65532) ∨ r = 65533 ∨ (65534 ≤ r ∧ r ≤ 1114111) ∨ 1114112 ≤ r := by omega
theorem valid_ev (k : Nat) (r : Int) (s : St) : evT (k + 1) 66 [.int .i32 r] s = some (.bool (Utf8.valid r), s) := by
  rw [evT_in rfl tab66]
  have hvv : Utf8.valid r = decide ((0 ≤ r ∧ r < 55296) ∨ (57344 ≤ r ∧ r ≤ 1114111)) := by
    unfold Utf8.valid
    rw [Bool.eq_iff_iff]
    simp
  rcases regions r with h | h | h | h | h | h | h | h | h | h | h | h | h | h | h | h
  all_goals
    first | have ge0 : (0 ≤ r) = True := eq_true (by omega) | have ge0 : (0 ≤ r) = False := eq_false (by omega)
    first | have ltS : (r < 55296) = True := eq_true (by omega) | have ltS : (r < 55296) = False := eq_false (by omega)
    first | have gtS : (57343 < r) = True := eq_true (by omega) | have gtS : (57343 < r) = False := eq_false (by omega)
    first | have leM : (r ≤ 1114111) = True := eq_true (by omega) | have leM : (r ≤ 1114111) = False := eq_false (by omega)
    first | have lt0 : (r < 0) = True := eq_true (by omega) | have lt0 : (r < 0) = False := eq_false (by omega)
    first | have ge0' : (r ≥ 0) = True := eq_true (by omega) | have ge0' : (r ≥ 0) = False := eq_false (by omega)
    first | have gtS' : (r > 57343) = True := eq_true (by omega) | have gtS' : (r > 57343) = False := eq_false (by omega)
    first | have vl : Utf8.valid r = true := (by rw [hvv, decide_eq_true_eq]; omega) | have vl : Utf8.valid r = false := (by rw [hvv, decide_eq_false_iff_not]; omega)
    simp only [M66, i32_geq, i32_leq, i32_lss, i32_gtr, ge0, ltS, gtS, leM, lt0, ge0', gtS', vl, qES0, qES1, qES2, env0, List.length_cons, List.length_nil, Nat.reduceAdd, Nat.reduceSub, List.replicate, List.cons_append, List.nil_append, opd, Env.put, Env.at, List.set_cons_zero, List.set_cons_succ, List.getD_cons_zero, List.getD_cons_succ, freezeL, resVs, oneOr, Option.map_some, Option.map_none, List.map_cons, List.map_nil, if_true, if_false, Bool.not_true, Bool.not_false, Bool.false_eq_true, reduceIte, decide_true, decide_false, Int.reduceLT, Int.reduceLE, Int.reduceGT, Int.reduceGE, Int.reduceEq, Int.reduceBEq, Int.reduceBNe, load_ptr, ldV_some, cellAt_cells, List.getElem?_cons_zero, List.getElem?_cons_succ, store_ptr, stO_some, setAt_0, setAt_1, setAt_2, setAt_3, setAt_4, setAt_5, setAt_6, setAt_7, setAt_8, setAt_9, setAt_10, setAt_11, setAt_12, cells_int, cells_bool, cells_str, cells_nils, cells_nilp, cells_ptr, cells_sl, cells_u8, cells_u16, cells_agg, get_upd_is, Option.isSome_some, upd_upd, ev1_nchkV, ev1_faV, nchkV_ptr, faV_ptr, ev1_extV, extV_tup, eqptr_nil, eqptr_ptr, Nat.zero_add, Nat.add_zero, qPL0, qPL1, qPL2, qPL3, qPL4, qPL5, beq_self_eq_true]
theorem kind_ev (k : Nat) (r : Int) (s : St) : evT (k + 2) 30 [.int .i32 r] s = some (.int .i64 (kindOf r), s) := by
  have hv : ∀ s, evT (k + 1) 66 [.int .i32 r] s = some (.bool (Utf8.valid r), s) := fun s => valid_ev k r s
  rw [show k + 2 = (k + 1) + 1 from rfl, evT_in rfl tab30]
  have hvv : Utf8.valid r = decide ((0 ≤ r ∧ r < 55296) ∨ (57344 ≤ r ∧ r ≤ 1114111)) := by
    unfold Utf8.valid
    rw [Bool.eq_iff_iff]
    simp
  rcases regions r with h | h | h | h | h | h | h | h | h | h | h | h | h | h | h | h
  all_goals
    first | have ge97 : (r ≥ 97) = True := eq_true (by omega) | have ge97 : (r ≥ 97) = False := eq_false (by omega)
    first | have le122 : (r ≤ 122) = True := eq_true (by omega) | have le122 : (r ≤ 122) = False := eq_false (by omega)
    first | have ge65 : (r ≥ 65) = True := eq_true (by omega) | have ge65 : (r ≥ 65) = False := eq_false (by omega)
    first | have le90 : (r ≤ 90) = True := eq_true (by omega) | have le90 : (r ≤ 90) = False := eq_false (by omega)
    first | have ge48 : (r ≥ 48) = True := eq_true (by omega) | have ge48 : (r ≥ 48) = False := eq_false (by omega)
    first | have le57 : (r ≤ 57) = True := eq_true (by omega) | have le57 : (r ≤ 57) = False := eq_false (by omega)
    first | have ge32 : (r ≥ 32) = True := eq_true (by omega) | have ge32 : (r ≥ 32) = False := eq_false (by omega)
    first | have le126 : (r ≤ 126) = True := eq_true (by omega) | have le126 : (r ≤ 126) = False := eq_false (by omega)
    first | have ge160 : (r ≥ 160) = True := eq_true (by omega) | have ge160 : (r ≥ 160) = False := eq_false (by omega)
    first | have ne : (r != 65533) = true := (by simp; omega) | have ne : (r != 65533) = false := (by simp; omega)
    first | have vl : Utf8.valid r = true := (by rw [hvv, decide_eq_true_eq]; omega) | have vl : Utf8.valid r = false := (by rw [hvv, decide_eq_false_iff_not]; omega)
    first | have kl97 : (97 ≤ r) = True := eq_true (by omega) | have kl97 : (97 ≤ r) = False := eq_false (by omega)
    first | have kl65 : (65 ≤ r) = True := eq_true (by omega) | have kl65 : (65 ≤ r) = False := eq_false (by omega)
    first | have kl48 : (48 ≤ r) = True := eq_true (by omega) | have kl48 : (48 ≤ r) = False := eq_false (by omega)
    first | have kl32 : (32 ≤ r) = True := eq_true (by omega) | have kl32 : (32 ≤ r) = False := eq_false (by omega)
    first | have kl160 : (160 ≤ r) = True := eq_true (by omega) | have kl160 : (160 ≤ r) = False := eq_false (by omega)
    first | have kne : (r ≠ 65533) = True := eq_true (by omega) | have kne : (r ≠ 65533) = False := eq_false (by omega)
    simp only [M30, i32_geq, i32_leq, i32_neq, ge97, le122, ge65, le90, ge48, le57, ge32, le126, ge160, ne, vl, kindOf, kl97, kl65, kl48, kl32, kl160, kne, true_and, and_true, false_and, and_false, or_true, true_or, or_false, false_or, and_self, or_self, hv, qES0, qES1, qES2, env0, List.length_cons, List.length_nil, Nat.reduceAdd, Nat.reduceSub, List.replicate, List.cons_append, List.nil_append, opd, Env.put, Env.at, List.set_cons_zero, List.set_cons_succ, List.getD_cons_zero, List.getD_cons_succ, freezeL, resVs, oneOr, Option.map_some, Option.map_none, List.map_cons, List.map_nil, if_true, if_false, Bool.not_true, Bool.not_false, Bool.false_eq_true, reduceIte, decide_true, decide_false, Int.reduceLT, Int.reduceLE, Int.reduceGT, Int.reduceGE, Int.reduceEq, Int.reduceBEq, Int.reduceBNe, load_ptr, ldV_some, cellAt_cells, List.getElem?_cons_zero, List.getElem?_cons_succ, store_ptr, stO_some, setAt_0, setAt_1, setAt_2, setAt_3, setAt_4, setAt_5, setAt_6, setAt_7, setAt_8, setAt_9, setAt_10, setAt_11, setAt_12, cells_int, cells_bool, cells_str, cells_nils, cells_nilp, cells_ptr, cells_sl, cells_u8, cells_u16, cells_agg, get_upd_is, Option.isSome_some, upd_upd, ev1_nchkV, ev1_faV, nchkV_ptr, faV_ptr, ev1_extV, extV_tup, eqptr_nil, eqptr_ptr, Nat.zero_add, Nat.add_zero, qPL0, qPL1, qPL2, qPL3, qPL4, qPL5, beq_self_eq_true]
def nxtS (s : St) (b : Nat) : Option Ab.Obj → Option (AV × St)
  | some (.iter l p) => if p < l.length then
          let d := Utf8.decode ⟨l.toArray⟩ p
          some (.tup [.bool true, .int .i64 p, .int .i32 d.1], s.upd b (.iter l (p + d.2)))
        else some (.tup [.bool false], s)
  | _ => none
def nxtV (s : St) : AV → Option (AV × St)
  | .ptr b 0 => nxtS s b (s.get b)
  | _ => none
theorem ev1_nxtV (gl : Nat → AV) (call : Calls') (e : Env) (s : St) (x : Opd) : ev1 gl call e s (.nxt x) = wR (nxtV s (opd gl e x)) := by
  rw [ev1_nxt]
  simp only [evW, nxtV, nxtS]
  generalize opd gl e x = v
  cases v with
  | ptr b o => cases o with
    | zero =>
      simp only
      generalize s.get b = q
      cases q with
      | none => rfl
      | some y => cases y <;> rfl
    | succ o => rfl
  | _ => rfl
theorem nxtV_ptr (s : St) (b : Nat) : nxtV s (.ptr b 0) = nxtS s b (s.get b) := (id rfl)
def rngV (s : St) : AV → Option (AV × St)
  | .str l => some (.ptr s.next 0, s.new (.iter l 0))
  | _ => none
theorem ev1_rngV (gl : Nat → AV) (call : Calls') (e : Env) (s : St) (x : Opd) : ev1 gl call e s (.rng x) = wR (rngV s (opd gl e x)) := by
  rw [ev1_rng]
  simp only [evW, rngV]
  generalize opd gl e x = v
  cases v <;> rfl
theorem rngV_str (s : St) (l : List UInt8) : rngV s (.str l) = some (.ptr s.next 0, s.new (.iter l 0)) := (id rfl)

theorem dec_pos (b : ByteArray) (p : Nat) : 1 ≤ (Utf8.decode b p).2 := by
  unfold Utf8.decode
  dsimp only
  repeat' split
  all_goals simp
/-- Whether all runes of a text, from a place on, are some. -/
def nickOk (l : List UInt8) : Nat → Nat → Bool
  | 0, _ => true
  | f + 1, p => if p < l.length then (kindOf ((Utf8.decode ⟨l.toArray⟩ p).1 : Nat) != 0) && nickOk l f (p + (Utf8.decode ⟨l.toArray⟩ p).2) else true
def mayN (l : List UInt8) : Bool := nickOk l (l.length + 1) 0 && decide ((l.length : Int) ≤ 20)
def E77 (l : List UInt8) (b : Nat) : Env := [.str l, .undef, .undef, .undef, .undef, .undef, .ptr b 0, .undef, .undef, .undef, .undef, .undef, .undef, .undef, .undef, .undef]
theorem nmay_gen (k : Nat) (l : List UInt8) (S : St) : ∃ p, evT (k + l.length + 3) 22 [.str l] S = some (.bool (mayN l), S.pl [.iter l p]) := by
  rw [show k + l.length + 3 = (k + l.length + 2) + 1 from rfl, evT_in rfl tab22, show S = S.pl [] from rfl]
  have kd : ∀ (r : Int) s, evT (k + l.length + 2) 30 [.int .i32 r] s = some (.int .i64 (kindOf r), s) := fun r s => kind_ev (k + l.length) r s
  obtain ⟨R, hR⟩ : ∃ R, nickOk l (l.length + 1) 0 = R := ⟨_, rfl⟩
  unfold mayN
  rw [hR]
  have key : ∀ e, maskE M22b0l e = E77 l S.next → ∃ p, outR M22.res (seqR (blockR 0 (iter (evC tabGl (evT (k + l.length + 2)) (k + l.length + 2) M22b0) M22b0l (k + l.length + 2) e (S.pl [.iter l 0]))) (evC tabGl (evT (k + l.length + 2)) (k + l.length + 2) M22r0)) = some (.bool (R && decide ((l.length : Int) ≤ 20)), S.pl [.iter l p]) := by
    intro e he
    refine iter_leave (evC tabGl (evT (k + l.length + 2)) (k + l.length + 2) M22b0) M22b0l (fun i e st => ∃ p, maskE M22b0l e = E77 l S.next ∧ st = S.pl [.iter l p] ∧ i ≤ p ∧ R = nickOk l (l.length + 1 - i) p)
      (fun out => ∃ p, outR M22.res (seqR (blockR 0 out) (evC tabGl (evT (k + l.length + 2)) (k + l.length + 2) M22r0)) = some (.bool (R && decide ((l.length : Int) ≤ 20)), S.pl [.iter l p])) l.length ?_ ?_ l.length 0 _ _ (k + l.length + 2) (by omega) ⟨0, he, rfl, Nat.le_refl _, hR.symm⟩ (by omega)
    · rintro i e st hi ⟨p, h1, rfl, h3, h4⟩
      rw [h1]
      rw [show l.length + 1 - i = (l.length - i) + 1 by omega] at h4
      unfold nickOk at h4
      have hg : (S.pl [.iter l p]).get S.next = some (.iter l p) := plg0 _ _ _
      by_cases hp : p < l.length
      · have dp := dec_pos ⟨l.toArray⟩ p
        rw [if_pos hp] at h4
        have nx : nxtS (S.pl [.iter l p]) S.next (some (.iter l p)) = some (.tup [.bool true, .int .i64 p, .int .i32 ((Utf8.decode ⟨l.toArray⟩ p).1 : Nat)], S.pl [.iter l (p + (Utf8.decode ⟨l.toArray⟩ p).2)]) := by
          simp only [nxtS]
          rw [if_pos hp]
          simp only [qPL0, qPL1, qPL2, qPL3, qPL4, qPL5, beq_self_eq_true]
        generalize Utf8.decode ⟨l.toArray⟩ p = dd at nx h4 dp
        obtain ⟨r, d⟩ := dd
        simp only at nx h4 dp
        by_cases hk : kindOf (r : Nat) = 0
        · right
          have q : (kindOf (r : Nat) == 0) = true := by simp [hk]
          have hRf : R = false := by rw [h4]; simp [hk]
          refine ⟨⟨p + d, ?_⟩, fun e' s' hh => ?_⟩
          · rw [hRf]
            simp only [M22, M22b0, E77, hg, nx, kd, q, ev1_nxtV, nxtV_ptr, ev1_extV, qES0, qES1, qES2, env0, List.length_cons, List.length_nil, Nat.reduceAdd, Nat.reduceSub, List.replicate, List.cons_append, List.nil_append, opd, Env.put, Env.at, List.set_cons_zero, List.set_cons_succ, List.getD_cons_zero, List.getD_cons_succ, freezeL, resVs, oneOr, Option.map_some, Option.map_none, List.map_cons, List.map_nil, if_true, if_false, Bool.not_true, Bool.not_false, Bool.false_eq_true, reduceIte, decide_true, decide_false, Int.reduceLT, Int.reduceLE, Int.reduceGT, Int.reduceGE, Int.reduceEq, Int.reduceBEq, Int.reduceBNe, load_ptr, ldV_some, cellAt_cells, List.getElem?_cons_zero, List.getElem?_cons_succ, store_ptr, stO_some, setAt_0, setAt_1, setAt_2, setAt_3, setAt_4, setAt_5, setAt_6, setAt_7, setAt_8, setAt_9, setAt_10, setAt_11, setAt_12, cells_int, cells_bool, cells_str, cells_nils, cells_nilp, cells_ptr, cells_sl, cells_u8, cells_u16, cells_agg, get_upd_is, Option.isSome_some, upd_upd, ev1_nchkV, ev1_faV, nchkV_ptr, faV_ptr, ev1_extV, extV_tup, eqptr_nil, eqptr_ptr, Nat.zero_add, Nat.add_zero, qPL0, qPL1, qPL2, qPL3, qPL4, qPL5, beq_self_eq_true]
            rfl
          · simp only [M22b0, E77, hg, nx, kd, q, ev1_nxtV, nxtV_ptr, ev1_extV, qES0, qES1, qES2, env0, List.length_cons, List.length_nil, Nat.reduceAdd, Nat.reduceSub, List.replicate, List.cons_append, List.nil_append, opd, Env.put, Env.at, List.set_cons_zero, List.set_cons_succ, List.getD_cons_zero, List.getD_cons_succ, freezeL, resVs, oneOr, Option.map_some, Option.map_none, List.map_cons, List.map_nil, if_true, if_false, Bool.not_true, Bool.not_false, Bool.false_eq_true, reduceIte, decide_true, decide_false, Int.reduceLT, Int.reduceLE, Int.reduceGT, Int.reduceGE, Int.reduceEq, Int.reduceBEq, Int.reduceBNe, load_ptr, ldV_some, cellAt_cells, List.getElem?_cons_zero, List.getElem?_cons_succ, store_ptr, stO_some, setAt_0, setAt_1, setAt_2, setAt_3, setAt_4, setAt_5, setAt_6, setAt_7, setAt_8, setAt_9, setAt_10, setAt_11, setAt_12, cells_int, cells_bool, cells_str, cells_nils, cells_nilp, cells_ptr, cells_sl, cells_u8, cells_u16, cells_agg, get_upd_is, Option.isSome_some, upd_upd, ev1_nchkV, ev1_faV, nchkV_ptr, faV_ptr, ev1_extV, extV_tup, eqptr_nil, eqptr_ptr, Nat.zero_add, Nat.add_zero, qPL0, qPL1, qPL2, qPL3, qPL4, qPL5, beq_self_eq_true] at hh
            cases hh
        · left
          have q : (kindOf (r : Nat) == 0) = false := by simp [hk]
          simp only [M22b0, E77, hg, nx, kd, q, ev1_nxtV, nxtV_ptr, ev1_extV, qES0, qES1, qES2, env0, List.length_cons, List.length_nil, Nat.reduceAdd, Nat.reduceSub, List.replicate, List.cons_append, List.nil_append, opd, Env.put, Env.at, List.set_cons_zero, List.set_cons_succ, List.getD_cons_zero, List.getD_cons_succ, freezeL, resVs, oneOr, Option.map_some, Option.map_none, List.map_cons, List.map_nil, if_true, if_false, Bool.not_true, Bool.not_false, Bool.false_eq_true, reduceIte, decide_true, decide_false, Int.reduceLT, Int.reduceLE, Int.reduceGT, Int.reduceGE, Int.reduceEq, Int.reduceBEq, Int.reduceBNe, load_ptr, ldV_some, cellAt_cells, List.getElem?_cons_zero, List.getElem?_cons_succ, store_ptr, stO_some, setAt_0, setAt_1, setAt_2, setAt_3, setAt_4, setAt_5, setAt_6, setAt_7, setAt_8, setAt_9, setAt_10, setAt_11, setAt_12, cells_int, cells_bool, cells_str, cells_nils, cells_nilp, cells_ptr, cells_sl, cells_u8, cells_u16, cells_agg, get_upd_is, Option.isSome_some, upd_upd, ev1_nchkV, ev1_faV, nchkV_ptr, faV_ptr, ev1_extV, extV_tup, eqptr_nil, eqptr_ptr, Nat.zero_add, Nat.add_zero, qPL0, qPL1, qPL2, qPL3, qPL4, qPL5, beq_self_eq_true]
          refine ⟨_, _, rfl, p + d, rfl, rfl, by omega, ?_⟩
          rw [h4]
          simp only [bne, q, Bool.not_false, Bool.true_and]
          rw [show l.length + 1 - (i + 1) = l.length - i by omega]
      · right
        rw [if_neg hp] at h4
        have nx : nxtS (S.pl [.iter l p]) S.next (some (.iter l p)) = some (.tup [.bool false], S.pl [.iter l p]) := by
          simp only [nxtS]
          rw [if_neg hp]
        refine ⟨⟨p, ?_⟩, fun e' s' hh => ?_⟩
        · rw [h4]
          simp only [M22, M22r0, M22b0, E77, hg, nx, ev1_nxtV, nxtV_ptr, ev1_extV, ev1_lensV', lensV', qES0, qES1, qES2, env0, List.length_cons, List.length_nil, Nat.reduceAdd, Nat.reduceSub, List.replicate, List.cons_append, List.nil_append, opd, Env.put, Env.at, List.set_cons_zero, List.set_cons_succ, List.getD_cons_zero, List.getD_cons_succ, freezeL, resVs, oneOr, Option.map_some, Option.map_none, List.map_cons, List.map_nil, if_true, if_false, Bool.not_true, Bool.not_false, Bool.false_eq_true, reduceIte, decide_true, decide_false, Int.reduceLT, Int.reduceLE, Int.reduceGT, Int.reduceGE, Int.reduceEq, Int.reduceBEq, Int.reduceBNe, load_ptr, ldV_some, cellAt_cells, List.getElem?_cons_zero, List.getElem?_cons_succ, store_ptr, stO_some, setAt_0, setAt_1, setAt_2, setAt_3, setAt_4, setAt_5, setAt_6, setAt_7, setAt_8, setAt_9, setAt_10, setAt_11, setAt_12, cells_int, cells_bool, cells_str, cells_nils, cells_nilp, cells_ptr, cells_sl, cells_u8, cells_u16, cells_agg, get_upd_is, Option.isSome_some, upd_upd, ev1_nchkV, ev1_faV, nchkV_ptr, faV_ptr, ev1_extV, extV_tup, eqptr_nil, eqptr_ptr, Nat.zero_add, Nat.add_zero, qPL0, qPL1, qPL2, qPL3, qPL4, qPL5, beq_self_eq_true]
          simp
        · simp only [M22b0, E77, hg, nx, ev1_nxtV, nxtV_ptr, ev1_extV, qES0, qES1, qES2, env0, List.length_cons, List.length_nil, Nat.reduceAdd, Nat.reduceSub, List.replicate, List.cons_append, List.nil_append, opd, Env.put, Env.at, List.set_cons_zero, List.set_cons_succ, List.getD_cons_zero, List.getD_cons_succ, freezeL, resVs, oneOr, Option.map_some, Option.map_none, List.map_cons, List.map_nil, if_true, if_false, Bool.not_true, Bool.not_false, Bool.false_eq_true, reduceIte, decide_true, decide_false, Int.reduceLT, Int.reduceLE, Int.reduceGT, Int.reduceGE, Int.reduceEq, Int.reduceBEq, Int.reduceBNe, load_ptr, ldV_some, cellAt_cells, List.getElem?_cons_zero, List.getElem?_cons_succ, store_ptr, stO_some, setAt_0, setAt_1, setAt_2, setAt_3, setAt_4, setAt_5, setAt_6, setAt_7, setAt_8, setAt_9, setAt_10, setAt_11, setAt_12, cells_int, cells_bool, cells_str, cells_nils, cells_nilp, cells_ptr, cells_sl, cells_u8, cells_u16, cells_agg, get_upd_is, Option.isSome_some, upd_upd, ev1_nchkV, ev1_faV, nchkV_ptr, faV_ptr, ev1_extV, extV_tup, eqptr_nil, eqptr_ptr, Nat.zero_add, Nat.add_zero, qPL0, qPL1, qPL2, qPL3, qPL4, qPL5, beq_self_eq_true] at hh
          cases hh
    · rintro e st ⟨p, h1, rfl, h3, h4⟩
      rw [h1]
      have hp : ¬ p < l.length := by omega
      rw [show l.length + 1 - l.length = 0 + 1 by omega] at h4
      unfold nickOk at h4
      rw [if_neg hp] at h4
      have hg : (S.pl [.iter l p]).get S.next = some (.iter l p) := plg0 _ _ _
      have nx : nxtS (S.pl [.iter l p]) S.next (some (.iter l p)) = some (.tup [.bool false], S.pl [.iter l p]) := by
        simp only [nxtS]
        rw [if_neg hp]
      refine ⟨⟨p, ?_⟩, fun e' s' hh => ?_⟩
      · rw [h4]
        simp only [M22, M22r0, M22b0, E77, hg, nx, ev1_nxtV, nxtV_ptr, ev1_extV, ev1_lensV', lensV', qES0, qES1, qES2, env0, List.length_cons, List.length_nil, Nat.reduceAdd, Nat.reduceSub, List.replicate, List.cons_append, List.nil_append, opd, Env.put, Env.at, List.set_cons_zero, List.set_cons_succ, List.getD_cons_zero, List.getD_cons_succ, freezeL, resVs, oneOr, Option.map_some, Option.map_none, List.map_cons, List.map_nil, if_true, if_false, Bool.not_true, Bool.not_false, Bool.false_eq_true, reduceIte, decide_true, decide_false, Int.reduceLT, Int.reduceLE, Int.reduceGT, Int.reduceGE, Int.reduceEq, Int.reduceBEq, Int.reduceBNe, load_ptr, ldV_some, cellAt_cells, List.getElem?_cons_zero, List.getElem?_cons_succ, store_ptr, stO_some, setAt_0, setAt_1, setAt_2, setAt_3, setAt_4, setAt_5, setAt_6, setAt_7, setAt_8, setAt_9, setAt_10, setAt_11, setAt_12, cells_int, cells_bool, cells_str, cells_nils, cells_nilp, cells_ptr, cells_sl, cells_u8, cells_u16, cells_agg, get_upd_is, Option.isSome_some, upd_upd, ev1_nchkV, ev1_faV, nchkV_ptr, faV_ptr, ev1_extV, extV_tup, eqptr_nil, eqptr_ptr, Nat.zero_add, Nat.add_zero, qPL0, qPL1, qPL2, qPL3, qPL4, qPL5, beq_self_eq_true]
        simp
      · simp only [M22b0, E77, hg, nx, ev1_nxtV, nxtV_ptr, ev1_extV, qES0, qES1, qES2, env0, List.length_cons, List.length_nil, Nat.reduceAdd, Nat.reduceSub, List.replicate, List.cons_append, List.nil_append, opd, Env.put, Env.at, List.set_cons_zero, List.set_cons_succ, List.getD_cons_zero, List.getD_cons_succ, freezeL, resVs, oneOr, Option.map_some, Option.map_none, List.map_cons, List.map_nil, if_true, if_false, Bool.not_true, Bool.not_false, Bool.false_eq_true, reduceIte, decide_true, decide_false, Int.reduceLT, Int.reduceLE, Int.reduceGT, Int.reduceGE, Int.reduceEq, Int.reduceBEq, Int.reduceBNe, load_ptr, ldV_some, cellAt_cells, List.getElem?_cons_zero, List.getElem?_cons_succ, store_ptr, stO_some, setAt_0, setAt_1, setAt_2, setAt_3, setAt_4, setAt_5, setAt_6, setAt_7, setAt_8, setAt_9, setAt_10, setAt_11, setAt_12, cells_int, cells_bool, cells_str, cells_nils, cells_nilp, cells_ptr, cells_sl, cells_u8, cells_u16, cells_agg, get_upd_is, Option.isSome_some, upd_upd, ev1_nchkV, ev1_faV, nchkV_ptr, faV_ptr, ev1_extV, extV_tup, eqptr_nil, eqptr_ptr, Nat.zero_add, Nat.add_zero, qPL0, qPL1, qPL2, qPL3, qPL4, qPL5, beq_self_eq_true] at hh
        cases hh
  simp only [M22, ev1_rngV, rngV_str, evC_loop, qES0, qES1, qES2, env0, List.length_cons, List.length_nil, Nat.reduceAdd, Nat.reduceSub, List.replicate, List.cons_append, List.nil_append, opd, Env.put, Env.at, List.set_cons_zero, List.set_cons_succ, List.getD_cons_zero, List.getD_cons_succ, freezeL, resVs, oneOr, Option.map_some, Option.map_none, List.map_cons, List.map_nil, if_true, if_false, Bool.not_true, Bool.not_false, Bool.false_eq_true, reduceIte, decide_true, decide_false, Int.reduceLT, Int.reduceLE, Int.reduceGT, Int.reduceGE, Int.reduceEq, Int.reduceBEq, Int.reduceBNe, load_ptr, ldV_some, cellAt_cells, List.getElem?_cons_zero, List.getElem?_cons_succ, store_ptr, stO_some, setAt_0, setAt_1, setAt_2, setAt_3, setAt_4, setAt_5, setAt_6, setAt_7, setAt_8, setAt_9, setAt_10, setAt_11, setAt_12, cells_int, cells_bool, cells_str, cells_nils, cells_nilp, cells_ptr, cells_sl, cells_u8, cells_u16, cells_agg, get_upd_is, Option.isSome_some, upd_upd, ev1_nchkV, ev1_faV, nchkV_ptr, faV_ptr, ev1_extV, extV_tup, eqptr_nil, eqptr_ptr, Nat.zero_add, Nat.add_zero, qPL0, qPL1, qPL2, qPL3, qPL4, qPL5, beq_self_eq_true]
  exact key _ rfl
theorem nmay_ev (N : Nat) (l : List UInt8) (hl : l.length + 3 ≤ N) (S : St) : ∃ p, evT N 22 [.str l] S = some (.bool (mayN l), S.pl [.iter l p]) := by
  obtain ⟨k, rfl⟩ : ∃ k, N = k + l.length + 3 := ⟨N - l.length - 3, by omega⟩
  exact nmay_gen k l S
end Go.Proofs.YthcblggiojpmcaaDoor
