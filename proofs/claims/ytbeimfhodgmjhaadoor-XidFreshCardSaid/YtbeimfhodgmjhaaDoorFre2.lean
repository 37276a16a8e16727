/- The law XidFresh: a number that is taken is one's own. No conditions. -/
import Derived.Test.YtbeimfhodgmjhaaDoorFre
import Derived.Test.YtbeimfhodgmjhaaDoorM8_16
set_option linter.unusedSimpArgs false
set_option linter.unusedVariables false
set_option maxRecDepth 100000
set_option maxHeartbeats 4000000
namespace Go.Proofs.YtbeimfhodgmjhaaDoor
open Go Go.Ab
theorem leastN_spec (no : List Int) : ∀ (f : Nat) (n : Int), (∃ j : Nat, j < f ∧ n + (j : Int) ∉ no) → leastN no f n ∉ no ∧ n ≤ leastN no f n ∧ leastN no f n < n + f := by
  intro f
  induction f with
  | zero => rintro n ⟨j, hj, _⟩; omega
  | succ f ih =>
    rintro n ⟨j, hj, hn⟩
    unfold leastN
    by_cases h : n ∈ no
    · rw [if_pos h]
      obtain ⟨i, rfl⟩ : ∃ i, j = i + 1 := ⟨j - 1, by
        rcases Nat.eq_zero_or_pos j with rfl | h0
        · exfalso; apply hn; simpa using h
        · omega⟩
      obtain ⟨h1, h2, h3⟩ := ih (n + 1) ⟨i, by omega, by rw [show n + 1 + (i : Int) = n + ((i + 1 : Nat) : Int) by omega]; exact hn⟩
      exact ⟨h1, by omega, by omega⟩
    · rw [if_neg h]; exact ⟨h, by omega, by omega⟩
theorem freshD_some (no : List Int) : ∀ (l : List Int) (i : Nat) (d : Int) (j : Nat), freshD no l i = some (d, j) → ∃ t, j = i + t + 1 ∧ l[t]? = some d ∧ okD no d = true ∧ ∀ u, u < t → ∀ x, l[u]? = some x → okD no x = false := by
  intro l
  induction l with
  | nil => intro i d j h; cases h
  | cons a l ih =>
    intro i d j h
    unfold freshD at h
    by_cases g : okD no a = true
    · rw [if_pos g] at h
      cases h
      exact ⟨0, rfl, rfl, g, fun u hu => by omega⟩
    · rw [if_neg g] at h
      obtain ⟨t, h1, h2, h3, h4⟩ := ih (i + 1) d j h
      refine ⟨t + 1, by omega, by simpa using h2, h3, fun u hu x hx => ?_⟩
      cases u with
      | zero =>
        have : a = x := by simpa using hx
        subst this
        simpa using g
      | succ u => exact h4 u (by omega) x (by simpa using hx)
theorem freshD_none (no : List Int) : ∀ (l : List Int) (i : Nat), freshD no l i = none → ∀ x ∈ l, okD no x = false := by
  intro l
  induction l with
  | nil => intro i h x hx; cases hx
  | cons a l ih =>
    intro i h x hx
    unfold freshD at h
    by_cases g : okD no a = true
    · rw [if_pos g] at h; cases h
    · rw [if_neg g] at h
      rcases List.mem_cons.1 hx with rfl | hx
      · simpa using g
      · exact ih (i + 1) h x hx
theorem okD_iff (no : List Int) (n : Int) : okD no n = true ↔ nmd n = true ∧ n ∉ no := by
  unfold okD; simp
theorem freshZ_spec (ds no : List Int) (hn : no.length ≤ 100) : okD no (freshZ ds no).1 = true ∧ (freshZ ds no).2 ≤ ds.length ∧ (∀ u, u + 1 < (freshZ ds no).2 → ∀ x, ds[u]? = some x → x ≠ (freshZ ds no).1) ∧ ((freshZ ds no).2 = 0 ∨ ds[(freshZ ds no).2 - 1]? = some (freshZ ds no).1 ∨ (freshZ ds no).2 = ds.length) := by
  unfold freshZ
  rcases hf : freshD no ds 0 with _ | ⟨d, j⟩
  · have hno := freshD_none no ds 0 hf
    have hex : ∃ j : Nat, j < no.length + 1 ∧ (1 : Int) + (j : Int) ∉ no := by
      refine Classical.byContradiction fun hc => ?_
      have := pigeon (no.length + 1) no (fun j hj => by
        refine Classical.byContradiction fun hj2 => hc ⟨j, hj, ?_⟩
        rw [show (1 : Int) + (j : Int) = (j : Int) + 1 by omega]; exact hj2)
      omega
    obtain ⟨h1, h2, h3⟩ := leastN_spec no (no.length + 1) 1 hex
    have hok : okD no (leastN no (no.length + 1) 1) = true := (okD_iff _ _).2 ⟨by unfold nmd; simp; omega, h1⟩
    refine ⟨hok, Nat.le_refl _, fun u hu x hx h => ?_, .inr (.inr rfl)⟩
    have := hno x (List.mem_of_getElem? hx)
    rw [h] at this
    simp only at this
    rw [hok] at this; cases this
  · obtain ⟨t, h1, h2, h3, h4⟩ := freshD_some no ds 0 d j hf
    have hl : t < ds.length := (List.getElem?_eq_some_iff.1 h2).1
    refine ⟨h3, by show j ≤ _; omega, fun u hu x hx h => ?_, .inr (.inl ?_)⟩
    · have hu' : u + 1 < j := hu
      have := h4 u (by omega) x hx
      rw [h] at this
      simp only at this
      rw [h3] at this; cases this
    · show ds[j - 1]? = some d
      rw [show j - 1 = t by omega]; exact h2
theorem nums_slo {v : AV} {zs : List Int} (h : IsNums .u32 v zs) (k : Nat) (hk : k ≤ zs.length) : ∃ w, slcV 1 v none (some (.int .i64 (k : Int))) = some w ∧ IsNums .u32 w (zs.take k) := by
  rcases h with ⟨rfl, rfl⟩ | rfl
  · have hk0 : k = 0 := by simpa using hk
    subst hk0
    exact ⟨.nils, rfl, .inl ⟨rfl, rfl⟩⟩
  · have h1 : bnd zs.length (.int .i64 (k : Int)) = some k := by simp [bnd]; omega
    refine ⟨.sl ((zs.take k).map (.int .u32 ·)) k none, ?_, .inr ?_⟩
    · simp only [slcV, bndO, h1, tkCut, Nat.zero_mul, List.drop_zero, Nat.sub_zero, Nat.mul_one, List.map_take]
    · rw [List.length_take, Nat.min_eq_left hk]
theorem dry_pair {v : AV} {k k' : IntKind} {a b : Int} (h : dryV v = .tup [.int k a, .int k' b]) : v = .tup [.int k a, .int k' b] := by
  have d1 : ∀ {x : AV} {k a}, dry1 x = .int k a → x = .int k a := by
    intro x k a h
    cases x <;> first | exact h | cases h
  cases v with
  | tup l =>
    have h' : l.map dry1 = [.int k a, .int k' b] := by simpa [dryV] using h
    match l, h' with
    | [x, y], h' =>
      simp only [List.map_cons, List.map_nil, List.cons.injEq, and_true] at h'
      rw [d1 h'.1, d1 h'.2]
    | [], h' => exact absurd (congrArg List.length h') (by simp)
    | [x], h' => exact absurd (congrArg List.length h') (by simp)
    | x :: y :: z :: r, h' => exact absurd (congrArg List.length h') (by simp)
  | sl cs n t => cases h
  | _ => cases h
theorem fresh_ev {v w : AV} {ds no : List Int} (h : IsNums .u32 v ds) (g : IsNums .u32 w no) (hd : ds.length ≤ 100) (hn : no.length ≤ 100) :
    ∃ s', evK 999 52 [v, w] St.nil = some (.tup [.int .u32 (freshZ ds no).1, .int .i64 ((freshZ ds no).2 : Nat)], s') := by
  obtain ⟨v0, s', h1, h2⟩ := valR_of (fresh_val h g hd hn)
  exact ⟨s', by rw [h1, dry_pair h2]⟩
def E16 (v w : AV) (n k z i : Int) : Env := [v, w, .undef, .undef, .undef, .undef, .int .u32 n, .int .i64 k, .undef, .undef, .undef, .undef, .undef, .undef, .undef, .undef, .undef, .undef, .undef, .undef, .undef, .undef, .undef, .undef, .undef, .undef, .undef, .undef, .undef, .undef, .undef, .undef, .undef, .undef, .undef, .undef, .undef, .undef, .undef, .undef, .undef, .undef, .undef, .int .i64 z, .int .i64 i, .undef, .undef, .undef, .undef, .undef, .undef, .undef, .undef, .undef, .undef, .undef, .undef, .undef, .undef, .undef, .undef, .undef, .undef, .undef, .undef, .undef, .undef, .undef, .undef, .undef, .undef, .undef, .undef, .undef, .undef, .undef, .undef, .undef, .undef, .undef, .undef, .undef, .undef]
def E16b (v : AV) (n k i : Int) : Env := [v, .undef, .undef, .undef, .undef, .undef, .int .u32 n, .int .i64 k, .undef, .int .i64 i, .undef, .undef, .undef, .undef, .undef, .undef, .undef, .undef, .undef, .undef, .undef, .undef, .undef, .undef, .undef, .undef, .undef, .undef, .undef, .undef, .undef, .undef, .undef, .undef, .undef, .undef, .undef, .undef, .undef, .undef, .undef, .undef, .undef, .undef, .undef, .undef, .undef, .undef, .undef, .undef, .undef, .undef, .undef, .undef, .undef, .undef, .undef, .undef, .undef, .undef, .undef, .undef, .undef, .undef, .undef, .undef, .undef, .undef, .undef, .undef, .undef, .undef, .undef, .undef, .undef, .undef, .undef, .undef, .undef, .undef, .undef, .undef, .undef]
section
variable {v w : AV} {ds no : List Int} (h : IsNums .u32 v ds) (g : IsNums .u32 w no) (hd : ds.length ≤ 100) (hn : no.length ≤ 100) (n : Int) (k : Nat)
  (hk : k ≤ ds.length) (hu : ∀ u, u + 1 < k → ∀ x, ds[u]? = some x → x ≠ n) (hz : k = 0 ∨ ds[k - 1]? = some n ∨ k = ds.length) (hno : n ∉ no)
include h hd hk hu hz
theorem draws_loop (s : St) : ∀ e, maskE M16b0l e = E16b v n k 0 → valR (outR M16.res (seqR (blockR 2 (iter (evC tabGl (evK 999) 999 M16b0) M16b0l 999 e s)) (evC tabGl (evK 999) 999 M16r0))) = some (.bool true) := by
  intro e he
  have ln := nums_len h
  refine iter_leave (evC tabGl (evK 999) 999 M16b0) M16b0l (fun i e st => maskE M16b0l e = E16b v n k (i : Int))
    (fun out => valR (outR M16.res (seqR (blockR 2 out) (evC tabGl (evK 999) 999 M16r0))) = some (.bool true)) (k - 1) ?_ ?_ (k - 1) 0 _ _ 999 (by omega) he (by omega)
  · rintro i e st hi h1
    left
    rw [h1]
    obtain ⟨r, hr⟩ := nums_ixa h i (by omega)
    have hne := hu i (by omega) _ (List.getElem?_eq_getElem (show i < ds.length by omega))
    obtain ⟨a, ha⟩ : ∃ a, ds[i]'(by omega) = a := ⟨_, rfl⟩
    rw [ha] at hr hne
    have w1 : IntKind.i64.wrap ((i : Int) + 1) = ((i + 1 : Nat) : Int) := (wrapI _ (by omega) (by omega)).trans (by omega)
    have d0 : decide (((i + 1 : Nat) : Int) < (k : Int)) = true := decide_eq_true (by omega)
    have c0 : Ab.cut (.int .u32 a :: r) 0 none = some (.int .u32 a) := by simp [Ab.cut]
    have q : (a == n) = false := by simpa using hne
    simp only [M16b0, E16b, hr, c0, d0, w1, q, u32_eql, loadR_rp, qES0, qES1, qES2, env0, List.length_cons, List.length_nil, Nat.reduceAdd, Nat.reduceSub, List.replicate, List.cons_append, List.nil_append, opd, Env.put, Env.at, List.set_cons_zero, List.set_cons_succ, List.getD_cons_zero, List.getD_cons_succ, freezeL, resVs, oneOr, Option.map_some, Option.map_none, List.map_cons, List.map_nil, if_true, if_false, Bool.not_true, Bool.not_false, Bool.false_eq_true, reduceIte, decide_true, decide_false, Int.reduceLT, Int.reduceLE, Int.reduceGT, Int.reduceGE, Int.reduceEq, Int.reduceBEq, Int.reduceBNe, load_ptr, ldV_some, cellAt_cells, List.getElem?_cons_zero, List.getElem?_cons_succ, store_ptr, stO_some, setAt_0, setAt_1, setAt_2, setAt_3, setAt_4, setAt_5, setAt_6, setAt_7, setAt_8, setAt_9, setAt_10, setAt_11, setAt_12, cells_int, cells_bool, cells_str, cells_nils, cells_nilp, cells_ptr, cells_sl, cells_u8, cells_u16, cells_agg, get_upd_is, Option.isSome_some, upd_upd, ev1_nchkV, ev1_faV, nchkV_ptr, faV_ptr, ev1_extV, extV_tup, eqptr_nil, eqptr_ptr, Nat.zero_add, Nat.add_zero, qPL0, qPL1, qPL2, qPL3, qPL4, qPL5, beq_self_eq_true]
    exact ⟨_, _, rfl, rfl⟩
  · rintro e st h1
    rw [h1]
    have w1 : IntKind.i64.wrap (((k - 1 : Nat) : Int) + 1) = ((k - 1 + 1 : Nat) : Int) := (wrapI _ (by omega) (by omega)).trans (by omega)
    have d0 : decide (((k - 1 + 1 : Nat) : Int) < (k : Int)) = false := decide_eq_false (by omega)
    generalize ((k - 1 : Nat) : Int) = q1 at w1
    generalize ((k - 1 + 1 : Nat) : Int) = q2 at w1 d0
    refine ⟨?_, fun e' s' hh => ?_⟩
    · rcases Nat.eq_zero_or_pos k with hk0 | hkp
      · have e0 : ((k : Int) == 0) = true := by simp [hk0]
        simp only [M16, M16r0, M16b0, E16b, w1, d0, e0, ln, qES0, qES1, qES2, env0, List.length_cons, List.length_nil, Nat.reduceAdd, Nat.reduceSub, List.replicate, List.cons_append, List.nil_append, opd, Env.put, Env.at, List.set_cons_zero, List.set_cons_succ, List.getD_cons_zero, List.getD_cons_succ, freezeL, resVs, oneOr, Option.map_some, Option.map_none, List.map_cons, List.map_nil, if_true, if_false, Bool.not_true, Bool.not_false, Bool.false_eq_true, reduceIte, decide_true, decide_false, Int.reduceLT, Int.reduceLE, Int.reduceGT, Int.reduceGE, Int.reduceEq, Int.reduceBEq, Int.reduceBNe, load_ptr, ldV_some, cellAt_cells, List.getElem?_cons_zero, List.getElem?_cons_succ, store_ptr, stO_some, setAt_0, setAt_1, setAt_2, setAt_3, setAt_4, setAt_5, setAt_6, setAt_7, setAt_8, setAt_9, setAt_10, setAt_11, setAt_12, cells_int, cells_bool, cells_str, cells_nils, cells_nilp, cells_ptr, cells_sl, cells_u8, cells_u16, cells_agg, get_upd_is, Option.isSome_some, upd_upd, ev1_nchkV, ev1_faV, nchkV_ptr, faV_ptr, ev1_extV, extV_tup, eqptr_nil, eqptr_ptr, Nat.zero_add, Nat.add_zero, qPL0, qPL1, qPL2, qPL3, qPL4, qPL5, beq_self_eq_true]
      · have e0 : ((k : Int) == 0) = false := by simp; omega
        have w2 : IntKind.i64.wrap ((k : Int) - 1) = ((k - 1 : Nat) : Int) := (wrapI _ (by omega) (by omega)).trans (by omega)
        obtain ⟨r, hr⟩ := nums_ixa h (k - 1) (by omega)
        have hz' : ds[k - 1]'(by omega) = n ∨ k = ds.length := by
          rcases hz with hz | hz | hz
          · omega
          · left
            rw [List.getElem?_eq_getElem (by omega)] at hz
            exact Option.some.inj hz
          · exact .inr hz
        obtain ⟨a, ha⟩ : ∃ a, ds[k - 1]'(by omega) = a := ⟨_, rfl⟩
        rw [ha] at hr hz'
        have c0 : Ab.cut (.int .u32 a :: r) 0 none = some (.int .u32 a) := by simp [Ab.cut]
        by_cases hq : a = n
        · have q : (a == n) = true := by simpa using hq
          simp only [M16, M16r0, M16b0, E16b, w1, d0, e0, w2, hr, c0, q, ln, u32_eql, loadR_rp, qES0, qES1, qES2, env0, List.length_cons, List.length_nil, Nat.reduceAdd, Nat.reduceSub, List.replicate, List.cons_append, List.nil_append, opd, Env.put, Env.at, List.set_cons_zero, List.set_cons_succ, List.getD_cons_zero, List.getD_cons_succ, freezeL, resVs, oneOr, Option.map_some, Option.map_none, List.map_cons, List.map_nil, if_true, if_false, Bool.not_true, Bool.not_false, Bool.false_eq_true, reduceIte, decide_true, decide_false, Int.reduceLT, Int.reduceLE, Int.reduceGT, Int.reduceGE, Int.reduceEq, Int.reduceBEq, Int.reduceBNe, load_ptr, ldV_some, cellAt_cells, List.getElem?_cons_zero, List.getElem?_cons_succ, store_ptr, stO_some, setAt_0, setAt_1, setAt_2, setAt_3, setAt_4, setAt_5, setAt_6, setAt_7, setAt_8, setAt_9, setAt_10, setAt_11, setAt_12, cells_int, cells_bool, cells_str, cells_nils, cells_nilp, cells_ptr, cells_sl, cells_u8, cells_u16, cells_agg, get_upd_is, Option.isSome_some, upd_upd, ev1_nchkV, ev1_faV, nchkV_ptr, faV_ptr, ev1_extV, extV_tup, eqptr_nil, eqptr_ptr, Nat.zero_add, Nat.add_zero, qPL0, qPL1, qPL2, qPL3, qPL4, qPL5, beq_self_eq_true]
        · have q : (a == n) = false := by simpa using hq
          have hkl : k = ds.length := hz'.resolve_left hq
          have q3 : ((k : Int) == (ds.length : Nat)) = true := by simp [← hkl]
          simp only [M16, M16r0, M16b0, E16b, w1, d0, e0, w2, hr, c0, q, q3, ln, u32_eql, loadR_rp, qES0, qES1, qES2, env0, List.length_cons, List.length_nil, Nat.reduceAdd, Nat.reduceSub, List.replicate, List.cons_append, List.nil_append, opd, Env.put, Env.at, List.set_cons_zero, List.set_cons_succ, List.getD_cons_zero, List.getD_cons_succ, freezeL, resVs, oneOr, Option.map_some, Option.map_none, List.map_cons, List.map_nil, if_true, if_false, Bool.not_true, Bool.not_false, Bool.false_eq_true, reduceIte, decide_true, decide_false, Int.reduceLT, Int.reduceLE, Int.reduceGT, Int.reduceGE, Int.reduceEq, Int.reduceBEq, Int.reduceBNe, load_ptr, ldV_some, cellAt_cells, List.getElem?_cons_zero, List.getElem?_cons_succ, store_ptr, stO_some, setAt_0, setAt_1, setAt_2, setAt_3, setAt_4, setAt_5, setAt_6, setAt_7, setAt_8, setAt_9, setAt_10, setAt_11, setAt_12, cells_int, cells_bool, cells_str, cells_nils, cells_nilp, cells_ptr, cells_sl, cells_u8, cells_u16, cells_agg, get_upd_is, Option.isSome_some, upd_upd, ev1_nchkV, ev1_faV, nchkV_ptr, faV_ptr, ev1_extV, extV_tup, eqptr_nil, eqptr_ptr, Nat.zero_add, Nat.add_zero, qPL0, qPL1, qPL2, qPL3, qPL4, qPL5, beq_self_eq_true]
    · simp only [M16b0, E16b, w1, d0, qES0, qES1, qES2, env0, List.length_cons, List.length_nil, Nat.reduceAdd, Nat.reduceSub, List.replicate, List.cons_append, List.nil_append, opd, Env.put, Env.at, List.set_cons_zero, List.set_cons_succ, List.getD_cons_zero, List.getD_cons_succ, freezeL, resVs, oneOr, Option.map_some, Option.map_none, List.map_cons, List.map_nil, if_true, if_false, Bool.not_true, Bool.not_false, Bool.false_eq_true, reduceIte, decide_true, decide_false, Int.reduceLT, Int.reduceLE, Int.reduceGT, Int.reduceGE, Int.reduceEq, Int.reduceBEq, Int.reduceBNe, load_ptr, ldV_some, cellAt_cells, List.getElem?_cons_zero, List.getElem?_cons_succ, store_ptr, stO_some, setAt_0, setAt_1, setAt_2, setAt_3, setAt_4, setAt_5, setAt_6, setAt_7, setAt_8, setAt_9, setAt_10, setAt_11, setAt_12, cells_int, cells_bool, cells_str, cells_nils, cells_nilp, cells_ptr, cells_sl, cells_u8, cells_u16, cells_agg, get_upd_is, Option.isSome_some, upd_upd, ev1_nchkV, ev1_faV, nchkV_ptr, faV_ptr, ev1_extV, extV_tup, eqptr_nil, eqptr_ptr, Nat.zero_add, Nat.add_zero, qPL0, qPL1, qPL2, qPL3, qPL4, qPL5, beq_self_eq_true] at hh
      cases hh
include g hn hno
theorem not_loop (s : St) : ∀ e, maskE M16b1l e = E16 v w n k no.length 0 → valR (outR M16.res (seqR (blockR 0 (iter (evC tabGl (evK 999) 999 M16b1) M16b1l 999 e s)) (evC tabGl (evK 999) 999 M16r1))) = some (.bool true) := by
  intro e he
  refine iter_leave (evC tabGl (evK 999) 999 M16b1) M16b1l (fun i e st => maskE M16b1l e = E16 v w n k no.length (i : Int))
    (fun out => valR (outR M16.res (seqR (blockR 0 out) (evC tabGl (evK 999) 999 M16r1))) = some (.bool true)) no.length ?_ ?_ no.length 0 _ _ 999 (by omega) he (by omega)
  · rintro i e st hi h1
    left
    rw [h1]
    obtain ⟨r, hr⟩ := nums_ixa g i hi
    have hm : no[i] ∈ no := List.getElem_mem hi
    obtain ⟨a, ha⟩ : ∃ a, no[i] = a := ⟨_, rfl⟩
    rw [ha] at hr hm
    have w1 : IntKind.i64.wrap ((i : Int) + 1) = ((i + 1 : Nat) : Int) := (wrapI _ (by omega) (by omega)).trans (by omega)
    have d0 : decide ((i : Int) < (no.length : Nat)) = true := decide_eq_true (by omega)
    have c0 : Ab.cut (.int .u32 a :: r) 0 none = some (.int .u32 a) := by simp [Ab.cut]
    have q : (a == n) = false := by
      have : a ≠ n := fun hx => hno (hx ▸ hm)
      simpa using this
    simp only [M16b1, E16, hr, c0, d0, w1, q, u32_eql, loadR_rp, qES0, qES1, qES2, env0, List.length_cons, List.length_nil, Nat.reduceAdd, Nat.reduceSub, List.replicate, List.cons_append, List.nil_append, opd, Env.put, Env.at, List.set_cons_zero, List.set_cons_succ, List.getD_cons_zero, List.getD_cons_succ, freezeL, resVs, oneOr, Option.map_some, Option.map_none, List.map_cons, List.map_nil, if_true, if_false, Bool.not_true, Bool.not_false, Bool.false_eq_true, reduceIte, decide_true, decide_false, Int.reduceLT, Int.reduceLE, Int.reduceGT, Int.reduceGE, Int.reduceEq, Int.reduceBEq, Int.reduceBNe, load_ptr, ldV_some, cellAt_cells, List.getElem?_cons_zero, List.getElem?_cons_succ, store_ptr, stO_some, setAt_0, setAt_1, setAt_2, setAt_3, setAt_4, setAt_5, setAt_6, setAt_7, setAt_8, setAt_9, setAt_10, setAt_11, setAt_12, cells_int, cells_bool, cells_str, cells_nils, cells_nilp, cells_ptr, cells_sl, cells_u8, cells_u16, cells_agg, get_upd_is, Option.isSome_some, upd_upd, ev1_nchkV, ev1_faV, nchkV_ptr, faV_ptr, ev1_extV, extV_tup, eqptr_nil, eqptr_ptr, Nat.zero_add, Nat.add_zero, qPL0, qPL1, qPL2, qPL3, qPL4, qPL5, beq_self_eq_true]
    exact ⟨_, _, rfl, rfl⟩
  · rintro e st h1
    rw [h1]
    have d0 : decide (((no.length : Nat) : Int) < (no.length : Nat)) = false := decide_eq_false (by omega)
    have key := draws_loop h hd n k hk hu hz st
    refine ⟨?_, fun e' s' hh => ?_⟩
    · simp only [M16r1, M16b1, E16, d0, evC_loop, qES0, qES1, qES2, env0, List.length_cons, List.length_nil, Nat.reduceAdd, Nat.reduceSub, List.replicate, List.cons_append, List.nil_append, opd, Env.put, Env.at, List.set_cons_zero, List.set_cons_succ, List.getD_cons_zero, List.getD_cons_succ, freezeL, resVs, oneOr, Option.map_some, Option.map_none, List.map_cons, List.map_nil, if_true, if_false, Bool.not_true, Bool.not_false, Bool.false_eq_true, reduceIte, decide_true, decide_false, Int.reduceLT, Int.reduceLE, Int.reduceGT, Int.reduceGE, Int.reduceEq, Int.reduceBEq, Int.reduceBNe, load_ptr, ldV_some, cellAt_cells, List.getElem?_cons_zero, List.getElem?_cons_succ, store_ptr, stO_some, setAt_0, setAt_1, setAt_2, setAt_3, setAt_4, setAt_5, setAt_6, setAt_7, setAt_8, setAt_9, setAt_10, setAt_11, setAt_12, cells_int, cells_bool, cells_str, cells_nils, cells_nilp, cells_ptr, cells_sl, cells_u8, cells_u16, cells_agg, get_upd_is, Option.isSome_some, upd_upd, ev1_nchkV, ev1_faV, nchkV_ptr, faV_ptr, ev1_extV, extV_tup, eqptr_nil, eqptr_ptr, Nat.zero_add, Nat.add_zero, qPL0, qPL1, qPL2, qPL3, qPL4, qPL5, beq_self_eq_true]
      exact key _ rfl
    · simp only [M16b1, E16, d0, qES0, qES1, qES2, env0, List.length_cons, List.length_nil, Nat.reduceAdd, Nat.reduceSub, List.replicate, List.cons_append, List.nil_append, opd, Env.put, Env.at, List.set_cons_zero, List.set_cons_succ, List.getD_cons_zero, List.getD_cons_succ, freezeL, resVs, oneOr, Option.map_some, Option.map_none, List.map_cons, List.map_nil, if_true, if_false, Bool.not_true, Bool.not_false, Bool.false_eq_true, reduceIte, decide_true, decide_false, Int.reduceLT, Int.reduceLE, Int.reduceGT, Int.reduceGE, Int.reduceEq, Int.reduceBEq, Int.reduceBNe, load_ptr, ldV_some, cellAt_cells, List.getElem?_cons_zero, List.getElem?_cons_succ, store_ptr, stO_some, setAt_0, setAt_1, setAt_2, setAt_3, setAt_4, setAt_5, setAt_6, setAt_7, setAt_8, setAt_9, setAt_10, setAt_11, setAt_12, cells_int, cells_bool, cells_str, cells_nils, cells_nilp, cells_ptr, cells_sl, cells_u8, cells_u16, cells_agg, get_upd_is, Option.isSome_some, upd_upd, ev1_nchkV, ev1_faV, nchkV_ptr, faV_ptr, ev1_extV, extV_tup, eqptr_nil, eqptr_ptr, Nat.zero_add, Nat.add_zero, qPL0, qPL1, qPL2, qPL3, qPL4, qPL5, beq_self_eq_true] at hh
      cases hh
end
end Go.Proofs.YtbeimfhodgmjhaaDoor
