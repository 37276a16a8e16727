/- Numbers that are drawn: slices.Contains, xid.Fresh and the document's, as the evaluator answers them. No conditions. -/
import Derived.Test.YtbeimfhodgmjhaaDoorS1
import Derived.Test.YtbeimfhodgmjhaaDoorArgR
import Derived.Test.YtbeimfhodgmjhaaDoorM8d
set_option linter.unusedSimpArgs false
set_option linter.unusedVariables false
set_option maxRecDepth 100000
set_option maxHeartbeats 4000000
namespace Go.Proofs.YtbeimfhodgmjhaaDoor
open Go Go.Ab
theorem pigeon : ∀ (k : Nat) (l : List Int), (∀ j : Nat, j < k → ((j : Int) + 1) ∈ l) → k ≤ l.length := by
  intro k
  induction k with
  | zero => intro l _; omega
  | succ k ih =>
    intro l h
    have hm := h k (by omega)
    have := ih (l.erase ((k : Int) + 1)) (fun j hj => (List.mem_erase_of_ne (by omega)).2 (h j (by omega)))
    rw [List.length_erase_of_mem hm] at this
    have : 0 < l.length := List.length_pos_of_mem hm
    omega
section
variable {v : AV} {zs : List Int} (h : IsNums .u32 v zs)
include h
theorem nums_len : lenV v = some (.int .i64 (zs.length : Nat)) := by
  rcases h with ⟨rfl, rfl⟩ | rfl <;> rfl
theorem nums_freeze (n : Nat) (s : St) : Ab.freeze n s v = some (v, s) := by
  rcases h with ⟨rfl, _⟩ | rfl <;> rfl
theorem nums_ixa (i : Nat) (hi : i < zs.length) : ∃ r, ixaV 1 v (.int .i64 (i : Int)) = some (.rp (.int .u32 zs[i] :: r)) := by
  rcases h with ⟨rfl, rfl⟩ | rfl
  · simp at hi
  · have h1 : idx zs.length (.int .i64 (i : Int)) = some i := by simp [idx]; omega
    refine ⟨(zs.drop (i + 1)).map (.int .u32 ·), ?_⟩
    simp only [ixaV, h1, Nat.mul_one]
    rw [← List.map_drop, List.drop_eq_getElem_cons hi]
    rfl
end
theorem nums_slo {v : AV} {zs : List Int} (h : IsNums .u32 v zs) (k : Nat) (hk : k ≤ zs.length) : ∃ w, slcV 1 v none (some (.int .i64 (k : Int))) = some w ∧ IsNums .u32 w (zs.take k) := by
  rcases h with ⟨rfl, rfl⟩ | rfl
  · have hk0 : k = 0 := by simpa using hk
    subst hk0
    exact ⟨.nils, rfl, .inl ⟨rfl, rfl⟩⟩
  · have h1 : bnd zs.length (.int .i64 (k : Int)) = some k := by simp [bnd]; omega
    refine ⟨.sl ((zs.take k).map (.int .u32 ·)) k none, ?_, .inr ?_⟩
    · simp only [slcV, bndO, h1, tkCut, Nat.zero_mul, List.drop_zero, Nat.sub_zero, Nat.mul_one, List.map_take]
    · rw [List.length_take, Nat.min_eq_left hk]
theorem u32_eql (a b : Int) : binV .eql (.int .u32 a) (.int .u32 b) = some (.bool (a == b)) := (id rfl)
def E93 (v : AV) (n : Int) (z : Nat) (i : Int) : Env := [v, .int .u32 n, .undef, .undef, .undef, .undef, .undef, .int .i64 (z : Nat), .int .i64 i, .undef, .undef, .undef, .undef, .undef, .undef, .undef, .undef, .undef, .undef]
def idxZ (n : Int) : List Int → Nat → Int
  | [], _ => -1
  | a :: l, i => if n = a then (i : Int) else idxZ n l (i + 1)
theorem idxZ_mem (n : Int) : ∀ (l : List Int) (i : Nat), (n ∈ l ∧ 0 ≤ idxZ n l i) ∨ (n ∉ l ∧ idxZ n l i = -1) := by
  intro l
  induction l with
  | nil => intro i; exact .inr ⟨by simp, rfl⟩
  | cons a l ih =>
    intro i
    unfold idxZ
    by_cases g : n = a
    · rw [if_pos g]; exact .inl ⟨by simp [g], by omega⟩
    · rw [if_neg g]
      rcases ih (i + 1) with ⟨h1, h2⟩ | ⟨h1, h2⟩
      · exact .inl ⟨by simp [h1], h2⟩
      · exact .inr ⟨by simp [g, h1], h2⟩
theorem index_ev (k : Nat) {v : AV} {zs : List Int} (h : IsNums .u32 v zs) (hl : zs.length ≤ 100) (n : Int) (s : St) : evK (k + 102) 93 [v, .int .u32 n] s = some (.int .i64 (idxZ n zs 0), s) := by
  rw [show k + 102 = (k + 101) + 1 from rfl, evK_in rfl tab93]
  have ln := nums_len h
  obtain ⟨R, hR⟩ : ∃ R, idxZ n zs 0 = R := ⟨_, rfl⟩
  rw [hR]
  have key : ∀ e, maskE M93b0l e = E93 v n zs.length 0 → outR M93.res (seqR (blockR 0 (iter (evC tabGl (evK (k + 101)) (k + 101) M93b0) M93b0l (k + 101) e s)) (evC tabGl (evK (k + 101)) (k + 101) M93r0)) = some (.int .i64 R, s) := by
    intro e he
    refine iter_leave (evC tabGl (evK (k + 101)) (k + 101) M93b0) M93b0l (fun i e st => maskE M93b0l e = E93 v n zs.length (i : Int) ∧ st = s ∧ R = idxZ n (zs.drop i) i)
      (fun out => outR M93.res (seqR (blockR 0 out) (evC tabGl (evK (k + 101)) (k + 101) M93r0)) = some (.int .i64 R, s)) zs.length ?_ ?_ zs.length 0 _ _ (k + 101) (by omega) ⟨he, rfl, hR.symm⟩ (by omega)
    · rintro i e st hi ⟨h1, rfl, h3⟩
      rw [h1]
      obtain ⟨r, hr⟩ := nums_ixa h i hi
      rw [List.drop_eq_getElem_cons hi] at h3
      unfold idxZ at h3
      obtain ⟨a, ha⟩ : ∃ a, zs[i] = a := ⟨_, rfl⟩
      rw [ha] at hr h3
      have d0 : decide ((i : Int) < (zs.length : Nat)) = true := decide_eq_true (by omega)
      have w1 : IntKind.i64.wrap ((i : Int) + 1) = ((i + 1 : Nat) : Int) := (wrapI _ (by omega) (by omega)).trans (by omega)
      have c0 : Ab.cut (.int .u32 a :: r) 0 none = some (.int .u32 a) := by simp [Ab.cut]
      by_cases g : n = a
      · right
        have q : (n == a) = true := by simp [g]
        rw [if_pos g] at h3
        refine ⟨?_, fun e' s' hh => ?_⟩
        · rw [h3]
          simp only [M93, M93b0, E93, hr, c0, d0, q, u32_eql, loadR_rp, qES0, qES1, qES2, env0, List.length_cons, List.length_nil, Nat.reduceAdd, Nat.reduceSub, List.replicate, List.cons_append, List.nil_append, opd, Env.put, Env.at, List.set_cons_zero, List.set_cons_succ, List.getD_cons_zero, List.getD_cons_succ, freezeL, resVs, oneOr, Option.map_some, Option.map_none, List.map_cons, List.map_nil, if_true, if_false, Bool.not_true, Bool.not_false, Bool.false_eq_true, reduceIte, decide_true, decide_false, Int.reduceLT, Int.reduceLE, Int.reduceGT, Int.reduceGE, Int.reduceEq, Int.reduceBEq, Int.reduceBNe, load_ptr, ldV_some, cellAt_cells, List.getElem?_cons_zero, List.getElem?_cons_succ, store_ptr, stO_some, setAt_0, setAt_1, setAt_2, setAt_3, setAt_4, setAt_5, setAt_6, setAt_7, setAt_8, setAt_9, setAt_10, setAt_11, setAt_12, cells_int, cells_bool, cells_str, cells_nils, cells_nilp, cells_ptr, cells_sl, cells_u8, cells_u16, cells_agg, get_upd_is, Option.isSome_some, upd_upd, ev1_nchkV, ev1_faV, nchkV_ptr, faV_ptr, ev1_extV, extV_tup, eqptr_nil, eqptr_ptr, Nat.zero_add, Nat.add_zero, qPL0, qPL1, qPL2, qPL3, qPL4, qPL5, beq_self_eq_true]
        · simp only [M93b0, E93, hr, c0, d0, q, u32_eql, loadR_rp, qES0, qES1, qES2, env0, List.length_cons, List.length_nil, Nat.reduceAdd, Nat.reduceSub, List.replicate, List.cons_append, List.nil_append, opd, Env.put, Env.at, List.set_cons_zero, List.set_cons_succ, List.getD_cons_zero, List.getD_cons_succ, freezeL, resVs, oneOr, Option.map_some, Option.map_none, List.map_cons, List.map_nil, if_true, if_false, Bool.not_true, Bool.not_false, Bool.false_eq_true, reduceIte, decide_true, decide_false, Int.reduceLT, Int.reduceLE, Int.reduceGT, Int.reduceGE, Int.reduceEq, Int.reduceBEq, Int.reduceBNe, load_ptr, ldV_some, cellAt_cells, List.getElem?_cons_zero, List.getElem?_cons_succ, store_ptr, stO_some, setAt_0, setAt_1, setAt_2, setAt_3, setAt_4, setAt_5, setAt_6, setAt_7, setAt_8, setAt_9, setAt_10, setAt_11, setAt_12, cells_int, cells_bool, cells_str, cells_nils, cells_nilp, cells_ptr, cells_sl, cells_u8, cells_u16, cells_agg, get_upd_is, Option.isSome_some, upd_upd, ev1_nchkV, ev1_faV, nchkV_ptr, faV_ptr, ev1_extV, extV_tup, eqptr_nil, eqptr_ptr, Nat.zero_add, Nat.add_zero, qPL0, qPL1, qPL2, qPL3, qPL4, qPL5, beq_self_eq_true] at hh
          cases hh
      · left
        have q : (n == a) = false := by simp [g]
        rw [if_neg g] at h3
        simp only [M93b0, E93, hr, c0, d0, q, w1, u32_eql, loadR_rp, qES0, qES1, qES2, env0, List.length_cons, List.length_nil, Nat.reduceAdd, Nat.reduceSub, List.replicate, List.cons_append, List.nil_append, opd, Env.put, Env.at, List.set_cons_zero, List.set_cons_succ, List.getD_cons_zero, List.getD_cons_succ, freezeL, resVs, oneOr, Option.map_some, Option.map_none, List.map_cons, List.map_nil, if_true, if_false, Bool.not_true, Bool.not_false, Bool.false_eq_true, reduceIte, decide_true, decide_false, Int.reduceLT, Int.reduceLE, Int.reduceGT, Int.reduceGE, Int.reduceEq, Int.reduceBEq, Int.reduceBNe, load_ptr, ldV_some, cellAt_cells, List.getElem?_cons_zero, List.getElem?_cons_succ, store_ptr, stO_some, setAt_0, setAt_1, setAt_2, setAt_3, setAt_4, setAt_5, setAt_6, setAt_7, setAt_8, setAt_9, setAt_10, setAt_11, setAt_12, cells_int, cells_bool, cells_str, cells_nils, cells_nilp, cells_ptr, cells_sl, cells_u8, cells_u16, cells_agg, get_upd_is, Option.isSome_some, upd_upd, ev1_nchkV, ev1_faV, nchkV_ptr, faV_ptr, ev1_extV, extV_tup, eqptr_nil, eqptr_ptr, Nat.zero_add, Nat.add_zero, qPL0, qPL1, qPL2, qPL3, qPL4, qPL5, beq_self_eq_true]
        exact ⟨_, _, rfl, rfl, rfl, h3⟩
    · rintro e st ⟨h1, rfl, h3⟩
      rw [h1]
      rw [List.drop_length] at h3
      have d0 : decide (((zs.length : Nat) : Int) < (zs.length : Nat)) = false := decide_eq_false (by omega)
      have h3' : R = -1 := h3
      refine ⟨?_, fun e' s' hh => ?_⟩
      · rw [h3']
        simp only [M93, M93r0, M93b0, E93, d0, qES0, qES1, qES2, env0, List.length_cons, List.length_nil, Nat.reduceAdd, Nat.reduceSub, List.replicate, List.cons_append, List.nil_append, opd, Env.put, Env.at, List.set_cons_zero, List.set_cons_succ, List.getD_cons_zero, List.getD_cons_succ, freezeL, resVs, oneOr, Option.map_some, Option.map_none, List.map_cons, List.map_nil, if_true, if_false, Bool.not_true, Bool.not_false, Bool.false_eq_true, reduceIte, decide_true, decide_false, Int.reduceLT, Int.reduceLE, Int.reduceGT, Int.reduceGE, Int.reduceEq, Int.reduceBEq, Int.reduceBNe, load_ptr, ldV_some, cellAt_cells, List.getElem?_cons_zero, List.getElem?_cons_succ, store_ptr, stO_some, setAt_0, setAt_1, setAt_2, setAt_3, setAt_4, setAt_5, setAt_6, setAt_7, setAt_8, setAt_9, setAt_10, setAt_11, setAt_12, cells_int, cells_bool, cells_str, cells_nils, cells_nilp, cells_ptr, cells_sl, cells_u8, cells_u16, cells_agg, get_upd_is, Option.isSome_some, upd_upd, ev1_nchkV, ev1_faV, nchkV_ptr, faV_ptr, ev1_extV, extV_tup, eqptr_nil, eqptr_ptr, Nat.zero_add, Nat.add_zero, qPL0, qPL1, qPL2, qPL3, qPL4, qPL5, beq_self_eq_true]
      · simp only [M93b0, E93, d0, qES0, qES1, qES2, env0, List.length_cons, List.length_nil, Nat.reduceAdd, Nat.reduceSub, List.replicate, List.cons_append, List.nil_append, opd, Env.put, Env.at, List.set_cons_zero, List.set_cons_succ, List.getD_cons_zero, List.getD_cons_succ, freezeL, resVs, oneOr, Option.map_some, Option.map_none, List.map_cons, List.map_nil, if_true, if_false, Bool.not_true, Bool.not_false, Bool.false_eq_true, reduceIte, decide_true, decide_false, Int.reduceLT, Int.reduceLE, Int.reduceGT, Int.reduceGE, Int.reduceEq, Int.reduceBEq, Int.reduceBNe, load_ptr, ldV_some, cellAt_cells, List.getElem?_cons_zero, List.getElem?_cons_succ, store_ptr, stO_some, setAt_0, setAt_1, setAt_2, setAt_3, setAt_4, setAt_5, setAt_6, setAt_7, setAt_8, setAt_9, setAt_10, setAt_11, setAt_12, cells_int, cells_bool, cells_str, cells_nils, cells_nilp, cells_ptr, cells_sl, cells_u8, cells_u16, cells_agg, get_upd_is, Option.isSome_some, upd_upd, ev1_nchkV, ev1_faV, nchkV_ptr, faV_ptr, ev1_extV, extV_tup, eqptr_nil, eqptr_ptr, Nat.zero_add, Nat.add_zero, qPL0, qPL1, qPL2, qPL3, qPL4, qPL5, beq_self_eq_true] at hh
        cases hh
  simp only [M93, ln, evC_loop, qES0, qES1, qES2, env0, List.length_cons, List.length_nil, Nat.reduceAdd, Nat.reduceSub, List.replicate, List.cons_append, List.nil_append, opd, Env.put, Env.at, List.set_cons_zero, List.set_cons_succ, List.getD_cons_zero, List.getD_cons_succ, freezeL, resVs, oneOr, Option.map_some, Option.map_none, List.map_cons, List.map_nil, if_true, if_false, Bool.not_true, Bool.not_false, Bool.false_eq_true, reduceIte, decide_true, decide_false, Int.reduceLT, Int.reduceLE, Int.reduceGT, Int.reduceGE, Int.reduceEq, Int.reduceBEq, Int.reduceBNe, load_ptr, ldV_some, cellAt_cells, List.getElem?_cons_zero, List.getElem?_cons_succ, store_ptr, stO_some, setAt_0, setAt_1, setAt_2, setAt_3, setAt_4, setAt_5, setAt_6, setAt_7, setAt_8, setAt_9, setAt_10, setAt_11, setAt_12, cells_int, cells_bool, cells_str, cells_nils, cells_nilp, cells_ptr, cells_sl, cells_u8, cells_u16, cells_agg, get_upd_is, Option.isSome_some, upd_upd, ev1_nchkV, ev1_faV, nchkV_ptr, faV_ptr, ev1_extV, extV_tup, eqptr_nil, eqptr_ptr, Nat.zero_add, Nat.add_zero, qPL0, qPL1, qPL2, qPL3, qPL4, qPL5, beq_self_eq_true]
  exact key _ rfl
theorem contains_ev (k : Nat) {v : AV} {zs : List Int} (h : IsNums .u32 v zs) (hl : zs.length ≤ 100) (n : Int) (s : St) : evK (k + 103) 80 [v, .int .u32 n] s = some (.bool (decide (n ∈ zs)), s) := by
  rw [show k + 103 = (k + 102) + 1 from rfl, evK_in rfl tab80]
  have hi := index_ev k h hl n
  have fz := nums_freeze h
  rcases idxZ_mem n zs 0 with ⟨h1, h2⟩ | ⟨h1, h2⟩
  · have d : decide (idxZ n zs 0 ≥ 0) = true := decide_eq_true h2
    rw [decide_eq_true h1]
    simp only [M80, hi, fz, d, qES0, qES1, qES2, env0, List.length_cons, List.length_nil, Nat.reduceAdd, Nat.reduceSub, List.replicate, List.cons_append, List.nil_append, opd, Env.put, Env.at, List.set_cons_zero, List.set_cons_succ, List.getD_cons_zero, List.getD_cons_succ, freezeL, resVs, oneOr, Option.map_some, Option.map_none, List.map_cons, List.map_nil, if_true, if_false, Bool.not_true, Bool.not_false, Bool.false_eq_true, reduceIte, decide_true, decide_false, Int.reduceLT, Int.reduceLE, Int.reduceGT, Int.reduceGE, Int.reduceEq, Int.reduceBEq, Int.reduceBNe, load_ptr, ldV_some, cellAt_cells, List.getElem?_cons_zero, List.getElem?_cons_succ, store_ptr, stO_some, setAt_0, setAt_1, setAt_2, setAt_3, setAt_4, setAt_5, setAt_6, setAt_7, setAt_8, setAt_9, setAt_10, setAt_11, setAt_12, cells_int, cells_bool, cells_str, cells_nils, cells_nilp, cells_ptr, cells_sl, cells_u8, cells_u16, cells_agg, get_upd_is, Option.isSome_some, upd_upd, ev1_nchkV, ev1_faV, nchkV_ptr, faV_ptr, ev1_extV, extV_tup, eqptr_nil, eqptr_ptr, Nat.zero_add, Nat.add_zero, qPL0, qPL1, qPL2, qPL3, qPL4, qPL5, beq_self_eq_true]
  · rw [h2] at hi
    have d : decide ((-1 : Int) ≥ 0) = false := rfl
    rw [decide_eq_false h1]
    simp only [M80, hi, fz, d, qES0, qES1, qES2, env0, List.length_cons, List.length_nil, Nat.reduceAdd, Nat.reduceSub, List.replicate, List.cons_append, List.nil_append, opd, Env.put, Env.at, List.set_cons_zero, List.set_cons_succ, List.getD_cons_zero, List.getD_cons_succ, freezeL, resVs, oneOr, Option.map_some, Option.map_none, List.map_cons, List.map_nil, if_true, if_false, Bool.not_true, Bool.not_false, Bool.false_eq_true, reduceIte, decide_true, decide_false, Int.reduceLT, Int.reduceLE, Int.reduceGT, Int.reduceGE, Int.reduceEq, Int.reduceBEq, Int.reduceBNe, load_ptr, ldV_some, cellAt_cells, List.getElem?_cons_zero, List.getElem?_cons_succ, store_ptr, stO_some, setAt_0, setAt_1, setAt_2, setAt_3, setAt_4, setAt_5, setAt_6, setAt_7, setAt_8, setAt_9, setAt_10, setAt_11, setAt_12, cells_int, cells_bool, cells_str, cells_nils, cells_nilp, cells_ptr, cells_sl, cells_u8, cells_u16, cells_agg, get_upd_is, Option.isSome_some, upd_upd, ev1_nchkV, ev1_faV, nchkV_ptr, faV_ptr, ev1_extV, extV_tup, eqptr_nil, eqptr_ptr, Nat.zero_add, Nat.add_zero, qPL0, qPL1, qPL2, qPL3, qPL4, qPL5, beq_self_eq_true]
/-! Fresh. -/
def okD (no : List Int) (n : Int) : Bool := nmd n && !decide (n ∈ no)
def freshD (no : List Int) : List Int → Nat → Option (Int × Nat)
  | [], _ => none
  | d :: ds, i => if okD no d = true then some (d, i + 1) else freshD no ds (i + 1)
def leastN (no : List Int) : Nat → Int → Int
  | 0, n => n
  | f + 1, n => if n ∈ no then leastN no f (n + 1) else n
def freshZ (ds no : List Int) : Int × Nat := match freshD no ds 0 with
  | some p => p
  | none => (leastN no (no.length + 1) 1, ds.length)
def E52 (v w : AV) (z : Nat) (i : Int) : Env := [v, w, .undef, .undef, .undef, .undef, .undef, .undef, .undef, v, .int .i64 (z : Nat), .int .i64 i, .undef, .undef, .undef, .undef, .undef, .undef, .undef, .undef, .undef, .undef, .undef, .undef, .undef, .undef, .undef, .undef, .undef, .undef, .undef, .undef, .undef, .undef, .undef, .undef]
def E52b (v w : AV) (n : Int) : Env := [v, w, .undef, .undef, .undef, .undef, .undef, .undef, .int .u32 n, .undef, .undef, .undef, .undef, .undef, .undef, .undef, .undef, .undef, .undef, .undef, .undef, .undef, .undef, .undef, .undef, .undef, .undef, .undef, .undef, .undef, .undef, .undef, .undef, .undef, .undef, .undef]
section
variable {v w : AV} {ds no : List Int} (h : IsNums .u32 v ds) (g : IsNums .u32 w no) (hd : ds.length ≤ 100) (hn : no.length ≤ 100)
include h g hd hn
omit hd in
theorem fresh_least (s : St) : ∀ e, maskE M52b0l e = E52b v w 1 → valR (outR M52.res (seqR (blockR 2 (iter (evC tabGl (evK 998) 998 M52b0) M52b0l 998 e s)) (evC tabGl (evK 998) 998 M52r0))) = some (.tup [.int .u32 (leastN no (no.length + 1) 1), .int .i64 (ds.length : Nat)]) := by
  intro e he
  have ln := nums_len h
  have fz := nums_freeze g
  obtain ⟨R, hR⟩ : ∃ R, leastN no (no.length + 1) 1 = R := ⟨_, rfl⟩
  rw [hR]
  refine iter_leave (evC tabGl (evK 998) 998 M52b0) M52b0l (fun i e st => maskE M52b0l e = E52b v w ((i : Int) + 1) ∧ (∀ j : Nat, j < i → ((j : Int) + 1) ∈ no) ∧ R = leastN no (no.length + 1 - i) ((i : Int) + 1))
    (fun out => valR (outR M52.res (seqR (blockR 2 out) (evC tabGl (evK 998) 998 M52r0))) = some (.tup [.int .u32 R, .int .i64 (ds.length : Nat)])) (no.length + 1) ?_ ?_ (no.length + 1) 0 _ _ 998 (by omega) ⟨he, fun j hj => by omega, hR.symm⟩ (by omega)
  · rintro i e st hi ⟨h1, h2, h3⟩
    rw [h1]
    have hc := contains_ev 895 g hn ((i : Int) + 1)
    rw [show no.length + 1 - i = (no.length - i) + 1 by omega] at h3
    unfold leastN at h3
    by_cases hm : ((i : Int) + 1) ∈ no
    · left
      rw [decide_eq_true hm] at hc
      rw [if_pos hm] at h3
      have wa := u32_add ((i : Int) + 1) 1 (by unfold is32; omega)
      simp only [M52b0, E52b, hc, fz, wa, qES0, qES1, qES2, env0, List.length_cons, List.length_nil, Nat.reduceAdd, Nat.reduceSub, List.replicate, List.cons_append, List.nil_append, opd, Env.put, Env.at, List.set_cons_zero, List.set_cons_succ, List.getD_cons_zero, List.getD_cons_succ, freezeL, resVs, oneOr, Option.map_some, Option.map_none, List.map_cons, List.map_nil, if_true, if_false, Bool.not_true, Bool.not_false, Bool.false_eq_true, reduceIte, decide_true, decide_false, Int.reduceLT, Int.reduceLE, Int.reduceGT, Int.reduceGE, Int.reduceEq, Int.reduceBEq, Int.reduceBNe, load_ptr, ldV_some, cellAt_cells, List.getElem?_cons_zero, List.getElem?_cons_succ, store_ptr, stO_some, setAt_0, setAt_1, setAt_2, setAt_3, setAt_4, setAt_5, setAt_6, setAt_7, setAt_8, setAt_9, setAt_10, setAt_11, setAt_12, cells_int, cells_bool, cells_str, cells_nils, cells_nilp, cells_ptr, cells_sl, cells_u8, cells_u16, cells_agg, get_upd_is, Option.isSome_some, upd_upd, ev1_nchkV, ev1_faV, nchkV_ptr, faV_ptr, ev1_extV, extV_tup, eqptr_nil, eqptr_ptr, Nat.zero_add, Nat.add_zero, qPL0, qPL1, qPL2, qPL3, qPL4, qPL5, beq_self_eq_true]
      refine ⟨_, _, rfl, rfl, fun j hj => ?_, ?_⟩
      · by_cases hji : j < i
        · exact h2 j hji
        · have : j = i := by omega
          subst this; exact hm
      · rw [show no.length + 1 - (i + 1) = no.length - i by omega]; exact h3
    · right
      rw [decide_eq_false hm] at hc
      rw [if_neg hm] at h3
      refine ⟨?_, fun e' s' hh => ?_⟩
      · rw [h3]
        simp only [M52, M52r0, M52b0, E52b, hc, fz, ln, qES0, qES1, qES2, env0, List.length_cons, List.length_nil, Nat.reduceAdd, Nat.reduceSub, List.replicate, List.cons_append, List.nil_append, opd, Env.put, Env.at, List.set_cons_zero, List.set_cons_succ, List.getD_cons_zero, List.getD_cons_succ, freezeL, resVs, oneOr, Option.map_some, Option.map_none, List.map_cons, List.map_nil, if_true, if_false, Bool.not_true, Bool.not_false, Bool.false_eq_true, reduceIte, decide_true, decide_false, Int.reduceLT, Int.reduceLE, Int.reduceGT, Int.reduceGE, Int.reduceEq, Int.reduceBEq, Int.reduceBNe, load_ptr, ldV_some, cellAt_cells, List.getElem?_cons_zero, List.getElem?_cons_succ, store_ptr, stO_some, setAt_0, setAt_1, setAt_2, setAt_3, setAt_4, setAt_5, setAt_6, setAt_7, setAt_8, setAt_9, setAt_10, setAt_11, setAt_12, cells_int, cells_bool, cells_str, cells_nils, cells_nilp, cells_ptr, cells_sl, cells_u8, cells_u16, cells_agg, get_upd_is, Option.isSome_some, upd_upd, ev1_nchkV, ev1_faV, nchkV_ptr, faV_ptr, ev1_extV, extV_tup, eqptr_nil, eqptr_ptr, Nat.zero_add, Nat.add_zero, qPL0, qPL1, qPL2, qPL3, qPL4, qPL5, beq_self_eq_true]
      · simp only [M52b0, E52b, hc, fz, qES0, qES1, qES2, env0, List.length_cons, List.length_nil, Nat.reduceAdd, Nat.reduceSub, List.replicate, List.cons_append, List.nil_append, opd, Env.put, Env.at, List.set_cons_zero, List.set_cons_succ, List.getD_cons_zero, List.getD_cons_succ, freezeL, resVs, oneOr, Option.map_some, Option.map_none, List.map_cons, List.map_nil, if_true, if_false, Bool.not_true, Bool.not_false, Bool.false_eq_true, reduceIte, decide_true, decide_false, Int.reduceLT, Int.reduceLE, Int.reduceGT, Int.reduceGE, Int.reduceEq, Int.reduceBEq, Int.reduceBNe, load_ptr, ldV_some, cellAt_cells, List.getElem?_cons_zero, List.getElem?_cons_succ, store_ptr, stO_some, setAt_0, setAt_1, setAt_2, setAt_3, setAt_4, setAt_5, setAt_6, setAt_7, setAt_8, setAt_9, setAt_10, setAt_11, setAt_12, cells_int, cells_bool, cells_str, cells_nils, cells_nilp, cells_ptr, cells_sl, cells_u8, cells_u16, cells_agg, get_upd_is, Option.isSome_some, upd_upd, ev1_nchkV, ev1_faV, nchkV_ptr, faV_ptr, ev1_extV, extV_tup, eqptr_nil, eqptr_ptr, Nat.zero_add, Nat.add_zero, qPL0, qPL1, qPL2, qPL3, qPL4, qPL5, beq_self_eq_true] at hh
        cases hh
  · rintro e st ⟨h1, h2, h3⟩
    have := pigeon (no.length + 1) no h2
    omega
theorem fresh_val : valR (evK 999 52 [v, w] St.nil) = some (.tup [.int .u32 (freshZ ds no).1, .int .i64 ((freshZ ds no).2 : Nat)]) := by
  rw [show (999 : Nat) = 998 + 1 from rfl, evK_in rfl tab52]
  have ln := nums_len h
  have fz := nums_freeze g
  obtain ⟨R, hR⟩ : ∃ R, freshZ ds no = R := ⟨_, rfl⟩
  rw [hR]
  have key : ∀ e, maskE M52b1l e = E52 v w ds.length 0 → valR (outR M52.res (seqR (blockR 0 (iter (evC tabGl (evK 998) 998 M52b1) M52b1l 998 e St.nil)) (evC tabGl (evK 998) 998 M52r1))) = some (.tup [.int .u32 R.1, .int .i64 (R.2 : Nat)]) := by
    intro e he
    refine iter_leave (evC tabGl (evK 998) 998 M52b1) M52b1l (fun i e st => maskE M52b1l e = E52 v w ds.length (i : Int) ∧ R = match freshD no (ds.drop i) i with
        | some p => p
        | none => (leastN no (no.length + 1) 1, ds.length))
      (fun out => valR (outR M52.res (seqR (blockR 0 out) (evC tabGl (evK 998) 998 M52r1))) = some (.tup [.int .u32 R.1, .int .i64 (R.2 : Nat)])) ds.length ?_ ?_ ds.length 0 _ _ 998 (by omega) ⟨he, hR.symm⟩ (by omega)
    · rintro i e st hi ⟨h1, h3⟩
      rw [h1]
      obtain ⟨r, hr⟩ := nums_ixa h i hi
      rw [List.drop_eq_getElem_cons hi] at h3
      unfold freshD at h3
      obtain ⟨a, ha⟩ : ∃ a, ds[i] = a := ⟨_, rfl⟩
      rw [ha] at hr h3
      have d0 : decide ((i : Int) < (ds.length : Nat)) = true := decide_eq_true (by omega)
      have w1 : IntKind.i64.wrap ((i : Int) + 1) = ((i + 1 : Nat) : Int) := (wrapI _ (by omega) (by omega)).trans (by omega)
      have c0 : Ab.cut (.int .u32 a :: r) 0 none = some (.int .u32 a) := by simp [Ab.cut]
      have hnm := xnamed_ev 997 a
      have hc := contains_ev 895 g hn a
      rcases Bool.eq_false_or_eq_true (nmd a) with q1 | q1
      · rw [q1] at hnm
        by_cases hm : a ∈ no
        · left
          rw [decide_eq_true hm] at hc
          have : okD no a = false := by unfold okD; rw [decide_eq_true hm]; simp
          rw [this, if_neg (by decide)] at h3
          simp only [M52b1, E52, hr, c0, d0, w1, hnm, hc, fz, loadR_rp, qES0, qES1, qES2, env0, List.length_cons, List.length_nil, Nat.reduceAdd, Nat.reduceSub, List.replicate, List.cons_append, List.nil_append, opd, Env.put, Env.at, List.set_cons_zero, List.set_cons_succ, List.getD_cons_zero, List.getD_cons_succ, freezeL, resVs, oneOr, Option.map_some, Option.map_none, List.map_cons, List.map_nil, if_true, if_false, Bool.not_true, Bool.not_false, Bool.false_eq_true, reduceIte, decide_true, decide_false, Int.reduceLT, Int.reduceLE, Int.reduceGT, Int.reduceGE, Int.reduceEq, Int.reduceBEq, Int.reduceBNe, load_ptr, ldV_some, cellAt_cells, List.getElem?_cons_zero, List.getElem?_cons_succ, store_ptr, stO_some, setAt_0, setAt_1, setAt_2, setAt_3, setAt_4, setAt_5, setAt_6, setAt_7, setAt_8, setAt_9, setAt_10, setAt_11, setAt_12, cells_int, cells_bool, cells_str, cells_nils, cells_nilp, cells_ptr, cells_sl, cells_u8, cells_u16, cells_agg, get_upd_is, Option.isSome_some, upd_upd, ev1_nchkV, ev1_faV, nchkV_ptr, faV_ptr, ev1_extV, extV_tup, eqptr_nil, eqptr_ptr, Nat.zero_add, Nat.add_zero, qPL0, qPL1, qPL2, qPL3, qPL4, qPL5, beq_self_eq_true]
          exact ⟨_, _, rfl, rfl, h3⟩
        · right
          rw [decide_eq_false hm] at hc
          have : okD no a = true := by unfold okD; rw [q1, decide_eq_false hm]; rfl
          rw [this, if_pos rfl] at h3
          refine ⟨?_, fun e' s' hh => ?_⟩
          · rw [h3]
            simp only [M52, M52b1, E52, hr, c0, d0, w1, hnm, hc, fz, loadR_rp, qES0, qES1, qES2, env0, List.length_cons, List.length_nil, Nat.reduceAdd, Nat.reduceSub, List.replicate, List.cons_append, List.nil_append, opd, Env.put, Env.at, List.set_cons_zero, List.set_cons_succ, List.getD_cons_zero, List.getD_cons_succ, freezeL, resVs, oneOr, Option.map_some, Option.map_none, List.map_cons, List.map_nil, if_true, if_false, Bool.not_true, Bool.not_false, Bool.false_eq_true, reduceIte, decide_true, decide_false, Int.reduceLT, Int.reduceLE, Int.reduceGT, Int.reduceGE, Int.reduceEq, Int.reduceBEq, Int.reduceBNe, load_ptr, ldV_some, cellAt_cells, List.getElem?_cons_zero, List.getElem?_cons_succ, store_ptr, stO_some, setAt_0, setAt_1, setAt_2, setAt_3, setAt_4, setAt_5, setAt_6, setAt_7, setAt_8, setAt_9, setAt_10, setAt_11, setAt_12, cells_int, cells_bool, cells_str, cells_nils, cells_nilp, cells_ptr, cells_sl, cells_u8, cells_u16, cells_agg, get_upd_is, Option.isSome_some, upd_upd, ev1_nchkV, ev1_faV, nchkV_ptr, faV_ptr, ev1_extV, extV_tup, eqptr_nil, eqptr_ptr, Nat.zero_add, Nat.add_zero, qPL0, qPL1, qPL2, qPL3, qPL4, qPL5, beq_self_eq_true]
          · simp only [M52b1, E52, hr, c0, d0, w1, hnm, hc, fz, loadR_rp, qES0, qES1, qES2, env0, List.length_cons, List.length_nil, Nat.reduceAdd, Nat.reduceSub, List.replicate, List.cons_append, List.nil_append, opd, Env.put, Env.at, List.set_cons_zero, List.set_cons_succ, List.getD_cons_zero, List.getD_cons_succ, freezeL, resVs, oneOr, Option.map_some, Option.map_none, List.map_cons, List.map_nil, if_true, if_false, Bool.not_true, Bool.not_false, Bool.false_eq_true, reduceIte, decide_true, decide_false, Int.reduceLT, Int.reduceLE, Int.reduceGT, Int.reduceGE, Int.reduceEq, Int.reduceBEq, Int.reduceBNe, load_ptr, ldV_some, cellAt_cells, List.getElem?_cons_zero, List.getElem?_cons_succ, store_ptr, stO_some, setAt_0, setAt_1, setAt_2, setAt_3, setAt_4, setAt_5, setAt_6, setAt_7, setAt_8, setAt_9, setAt_10, setAt_11, setAt_12, cells_int, cells_bool, cells_str, cells_nils, cells_nilp, cells_ptr, cells_sl, cells_u8, cells_u16, cells_agg, get_upd_is, Option.isSome_some, upd_upd, ev1_nchkV, ev1_faV, nchkV_ptr, faV_ptr, ev1_extV, extV_tup, eqptr_nil, eqptr_ptr, Nat.zero_add, Nat.add_zero, qPL0, qPL1, qPL2, qPL3, qPL4, qPL5, beq_self_eq_true] at hh
            cases hh
      · left
        rw [q1] at hnm
        have : okD no a = false := by unfold okD; rw [q1]; rfl
        rw [this, if_neg (by decide)] at h3
        simp only [M52b1, E52, hr, c0, d0, w1, hnm, fz, loadR_rp, qES0, qES1, qES2, env0, List.length_cons, List.length_nil, Nat.reduceAdd, Nat.reduceSub, List.replicate, List.cons_append, List.nil_append, opd, Env.put, Env.at, List.set_cons_zero, List.set_cons_succ, List.getD_cons_zero, List.getD_cons_succ, freezeL, resVs, oneOr, Option.map_some, Option.map_none, List.map_cons, List.map_nil, if_true, if_false, Bool.not_true, Bool.not_false, Bool.false_eq_true, reduceIte, decide_true, decide_false, Int.reduceLT, Int.reduceLE, Int.reduceGT, Int.reduceGE, Int.reduceEq, Int.reduceBEq, Int.reduceBNe, load_ptr, ldV_some, cellAt_cells, List.getElem?_cons_zero, List.getElem?_cons_succ, store_ptr, stO_some, setAt_0, setAt_1, setAt_2, setAt_3, setAt_4, setAt_5, setAt_6, setAt_7, setAt_8, setAt_9, setAt_10, setAt_11, setAt_12, cells_int, cells_bool, cells_str, cells_nils, cells_nilp, cells_ptr, cells_sl, cells_u8, cells_u16, cells_agg, get_upd_is, Option.isSome_some, upd_upd, ev1_nchkV, ev1_faV, nchkV_ptr, faV_ptr, ev1_extV, extV_tup, eqptr_nil, eqptr_ptr, Nat.zero_add, Nat.add_zero, qPL0, qPL1, qPL2, qPL3, qPL4, qPL5, beq_self_eq_true]
        exact ⟨_, _, rfl, rfl, h3⟩
    · rintro e st ⟨h1, h3⟩
      rw [h1]
      rw [List.drop_length] at h3
      have h3' : R = (leastN no (no.length + 1) 1, ds.length) := h3
      have d0 : decide (((ds.length : Nat) : Int) < (ds.length : Nat)) = false := decide_eq_false (by omega)
      have hl := fresh_least h g hn st
      refine ⟨?_, fun e' s' hh => ?_⟩
      · rw [h3']
        simp only [M52r1, M52b1, E52, d0, evC_loop, qES0, qES1, qES2, env0, List.length_cons, List.length_nil, Nat.reduceAdd, Nat.reduceSub, List.replicate, List.cons_append, List.nil_append, opd, Env.put, Env.at, List.set_cons_zero, List.set_cons_succ, List.getD_cons_zero, List.getD_cons_succ, freezeL, resVs, oneOr, Option.map_some, Option.map_none, List.map_cons, List.map_nil, if_true, if_false, Bool.not_true, Bool.not_false, Bool.false_eq_true, reduceIte, decide_true, decide_false, Int.reduceLT, Int.reduceLE, Int.reduceGT, Int.reduceGE, Int.reduceEq, Int.reduceBEq, Int.reduceBNe, load_ptr, ldV_some, cellAt_cells, List.getElem?_cons_zero, List.getElem?_cons_succ, store_ptr, stO_some, setAt_0, setAt_1, setAt_2, setAt_3, setAt_4, setAt_5, setAt_6, setAt_7, setAt_8, setAt_9, setAt_10, setAt_11, setAt_12, cells_int, cells_bool, cells_str, cells_nils, cells_nilp, cells_ptr, cells_sl, cells_u8, cells_u16, cells_agg, get_upd_is, Option.isSome_some, upd_upd, ev1_nchkV, ev1_faV, nchkV_ptr, faV_ptr, ev1_extV, extV_tup, eqptr_nil, eqptr_ptr, Nat.zero_add, Nat.add_zero, qPL0, qPL1, qPL2, qPL3, qPL4, qPL5, beq_self_eq_true]
        exact hl _ rfl
      · simp only [M52b1, E52, d0, qES0, qES1, qES2, env0, List.length_cons, List.length_nil, Nat.reduceAdd, Nat.reduceSub, List.replicate, List.cons_append, List.nil_append, opd, Env.put, Env.at, List.set_cons_zero, List.set_cons_succ, List.getD_cons_zero, List.getD_cons_succ, freezeL, resVs, oneOr, Option.map_some, Option.map_none, List.map_cons, List.map_nil, if_true, if_false, Bool.not_true, Bool.not_false, Bool.false_eq_true, reduceIte, decide_true, decide_false, Int.reduceLT, Int.reduceLE, Int.reduceGT, Int.reduceGE, Int.reduceEq, Int.reduceBEq, Int.reduceBNe, load_ptr, ldV_some, cellAt_cells, List.getElem?_cons_zero, List.getElem?_cons_succ, store_ptr, stO_some, setAt_0, setAt_1, setAt_2, setAt_3, setAt_4, setAt_5, setAt_6, setAt_7, setAt_8, setAt_9, setAt_10, setAt_11, setAt_12, cells_int, cells_bool, cells_str, cells_nils, cells_nilp, cells_ptr, cells_sl, cells_u8, cells_u16, cells_agg, get_upd_is, Option.isSome_some, upd_upd, ev1_nchkV, ev1_faV, nchkV_ptr, faV_ptr, ev1_extV, extV_tup, eqptr_nil, eqptr_ptr, Nat.zero_add, Nat.add_zero, qPL0, qPL1, qPL2, qPL3, qPL4, qPL5, beq_self_eq_true] at hh
        cases hh
  simp only [M52, ln, evC_loop, qES0, qES1, qES2, env0, List.length_cons, List.length_nil, Nat.reduceAdd, Nat.reduceSub, List.replicate, List.cons_append, List.nil_append, opd, Env.put, Env.at, List.set_cons_zero, List.set_cons_succ, List.getD_cons_zero, List.getD_cons_succ, freezeL, resVs, oneOr, Option.map_some, Option.map_none, List.map_cons, List.map_nil, if_true, if_false, Bool.not_true, Bool.not_false, Bool.false_eq_true, reduceIte, decide_true, decide_false, Int.reduceLT, Int.reduceLE, Int.reduceGT, Int.reduceGE, Int.reduceEq, Int.reduceBEq, Int.reduceBNe, load_ptr, ldV_some, cellAt_cells, List.getElem?_cons_zero, List.getElem?_cons_succ, store_ptr, stO_some, setAt_0, setAt_1, setAt_2, setAt_3, setAt_4, setAt_5, setAt_6, setAt_7, setAt_8, setAt_9, setAt_10, setAt_11, setAt_12, cells_int, cells_bool, cells_str, cells_nils, cells_nilp, cells_ptr, cells_sl, cells_u8, cells_u16, cells_agg, get_upd_is, Option.isSome_some, upd_upd, ev1_nchkV, ev1_faV, nchkV_ptr, faV_ptr, ev1_extV, extV_tup, eqptr_nil, eqptr_ptr, Nat.zero_add, Nat.add_zero, qPL0, qPL1, qPL2, qPL3, qPL4, qPL5, beq_self_eq_true]
  exact key _ rfl
end
end Go.Proofs.YtbeimfhodgmjhaaDoor
