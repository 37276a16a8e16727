/- tuple.Find, as the evaluator answers it; lists of parameters read out of values. No conditions. -/
import Derived.Test.YtbeimfhodgmjhaaDoorTupGet
set_option linter.unusedSimpArgs false
set_option linter.unusedVariables false
set_option maxRecDepth 100000
set_option maxHeartbeats 4000000
namespace Go.Proofs.YtbeimfhodgmjhaaDoor
open Go Go.Ab
def findT (id : Int) : List Tp → Option (List UInt8)
  | [] => none
  | t :: l => if t.1 = id then some t.2 else findT id l
def findV (r : Option (List UInt8)) : AV := match r with
  | some x => .tup [.str x, .bool true]
  | none => .tup [.str [], .bool false]
theorem findT_skip (id : Int) (l : List Tp) : ∀ i, (∀ j (hj : j < l.length), j < i → l[j].1 ≠ id) → findT id l = findT id (l.drop i) := by
  intro i
  induction i generalizing l with
  | zero => intro _; rfl
  | succ i ih =>
    intro h
    cases l with
    | nil => rfl
    | cons t l =>
      have h0 : t.1 ≠ id := h 0 (by simp) (by omega)
      show (if t.1 = id then some t.2 else findT id l) = _
      rw [if_neg h0]
      exact ih l (fun j hj hi => h (j + 1) (by simpa using hj) (by omega))
def E68 (v : AV) (id : Int) (n : Nat) (i : Int) : Env := [.undef, .int .i64 id, .undef, .undef, .undef, .undef, .undef, .undef, v, .int .i64 (n : Nat), .int .i64 i, .undef, .undef, .undef, .undef, .undef, .undef, .undef, .undef, .undef, .undef]
theorem find_val {v : AV} {l : List Tp} (h : IsTp v l) (id : Int) (hl : l.length ≤ 100) : valR (evT 1000 68 [v, .int .i64 id] St.nil) = some (findV (findT id l)) := by
  rw [show (1000 : Nat) = 999 + 1 from rfl, evT_in rfl tab68]
  have ln := h.len
  have key : ∀ e, maskE M68b0l e = E68 v id l.length 0 → valR (outR M68.res (seqR (blockR 0 (iter (evC tabGl (evT 999) 999 M68b0) M68b0l 999 e St.nil)) (evC tabGl (evT 999) 999 M68r0))) = some (findV (findT id l)) := by
    intro e he
    refine iter_leave (evC tabGl (evT 999) 999 M68b0) M68b0l (fun i e st => maskE M68b0l e = E68 v id l.length (i : Int) ∧ ∀ j (hj : j < l.length), j < i → l[j].1 ≠ id)
      (fun out => valR (outR M68.res (seqR (blockR 0 out) (evC tabGl (evT 999) 999 M68r0))) = some (findV (findT id l))) l.length ?_ ?_ l.length 0 _ _ 999 (by omega) ⟨he, fun j _ hj => by omega⟩ (by omega)
    · rintro i e st hi ⟨h1, h4⟩
      rw [h1]
      obtain ⟨r, hr⟩ := h.ixa i hi
      have hs := findT_skip id l i h4
      rw [List.drop_eq_getElem_cons hi] at hs
      have hne : ∀ (hx : l[i].1 ≠ id) j (hj : j < l.length), j < i + 1 → l[j].1 ≠ id := by
        intro hx j hj hji
        by_cases hji' : j < i
        · exact h4 j hj hji'
        · have : j = i := by omega
          subst this; exact hx
      obtain ⟨⟨a, val⟩, hx⟩ : ∃ t, l[i] = t := ⟨_, rfl⟩
      rw [hx] at hr hs hne
      have d0 : decide ((i : Int) < (l.length : Nat)) = true := decide_eq_true (by omega)
      have w1 : IntKind.i64.wrap ((i : Int) + 1) = ((i + 1 : Nat) : Int) := (wrapI _ (by omega) (by omega)).trans (by omega)
      have c2 : Ab.cut (.int .i64 a :: .str val :: r) 0 (some 2) = some (.agg [.int .i64 a, .str val]) := by simp [Ab.cut]
      rw [show st = st.pl [] from rfl]
      by_cases g : a = id
      · right
        have q : (a == id) = true := by simp [g]
        have hf : findT id l = some val := by
          rw [hs]; show (if a = id then some val else _) = _; rw [if_pos g]
        rw [hf]
        refine ⟨?_, fun e' s' hh => ?_⟩
        · simp only [M68, M68b0, E68, hr, c2, d0, q, w1, findV, loadR_rp, qES0, qES1, qES2, env0, List.length_cons, List.length_nil, Nat.reduceAdd, Nat.reduceSub, List.replicate, List.cons_append, List.nil_append, opd, Env.put, Env.at, List.set_cons_zero, List.set_cons_succ, List.getD_cons_zero, List.getD_cons_succ, freezeL, resVs, oneOr, Option.map_some, Option.map_none, List.map_cons, List.map_nil, if_true, if_false, Bool.not_true, Bool.not_false, Bool.false_eq_true, reduceIte, decide_true, decide_false, Int.reduceLT, Int.reduceLE, Int.reduceGT, Int.reduceGE, Int.reduceEq, Int.reduceBEq, Int.reduceBNe, load_ptr, ldV_some, cellAt_cells, List.getElem?_cons_zero, List.getElem?_cons_succ, store_ptr, stO_some, setAt_0, setAt_1, setAt_2, setAt_3, setAt_4, setAt_5, setAt_6, setAt_7, setAt_8, setAt_9, setAt_10, setAt_11, setAt_12, cells_int, cells_bool, cells_str, cells_nils, cells_nilp, cells_ptr, cells_sl, cells_u8, cells_u16, cells_agg, get_upd_is, Option.isSome_some, upd_upd, ev1_nchkV, ev1_faV, nchkV_ptr, faV_ptr, ev1_extV, extV_tup, eqptr_nil, eqptr_ptr, Nat.zero_add, Nat.add_zero, qPL0, qPL1, qPL2, qPL3, qPL4, qPL5, beq_self_eq_true]
        · simp only [M68b0, E68, hr, c2, d0, q, w1, loadR_rp, qES0, qES1, qES2, env0, List.length_cons, List.length_nil, Nat.reduceAdd, Nat.reduceSub, List.replicate, List.cons_append, List.nil_append, opd, Env.put, Env.at, List.set_cons_zero, List.set_cons_succ, List.getD_cons_zero, List.getD_cons_succ, freezeL, resVs, oneOr, Option.map_some, Option.map_none, List.map_cons, List.map_nil, if_true, if_false, Bool.not_true, Bool.not_false, Bool.false_eq_true, reduceIte, decide_true, decide_false, Int.reduceLT, Int.reduceLE, Int.reduceGT, Int.reduceGE, Int.reduceEq, Int.reduceBEq, Int.reduceBNe, load_ptr, ldV_some, cellAt_cells, List.getElem?_cons_zero, List.getElem?_cons_succ, store_ptr, stO_some, setAt_0, setAt_1, setAt_2, setAt_3, setAt_4, setAt_5, setAt_6, setAt_7, setAt_8, setAt_9, setAt_10, setAt_11, setAt_12, cells_int, cells_bool, cells_str, cells_nils, cells_nilp, cells_ptr, cells_sl, cells_u8, cells_u16, cells_agg, get_upd_is, Option.isSome_some, upd_upd, ev1_nchkV, ev1_faV, nchkV_ptr, faV_ptr, ev1_extV, extV_tup, eqptr_nil, eqptr_ptr, Nat.zero_add, Nat.add_zero, qPL0, qPL1, qPL2, qPL3, qPL4, qPL5, beq_self_eq_true] at hh
          cases hh
      · left
        have q : (a == id) = false := by simp [g]
        simp only [M68b0, E68, hr, c2, d0, q, w1, loadR_rp, qES0, qES1, qES2, env0, List.length_cons, List.length_nil, Nat.reduceAdd, Nat.reduceSub, List.replicate, List.cons_append, List.nil_append, opd, Env.put, Env.at, List.set_cons_zero, List.set_cons_succ, List.getD_cons_zero, List.getD_cons_succ, freezeL, resVs, oneOr, Option.map_some, Option.map_none, List.map_cons, List.map_nil, if_true, if_false, Bool.not_true, Bool.not_false, Bool.false_eq_true, reduceIte, decide_true, decide_false, Int.reduceLT, Int.reduceLE, Int.reduceGT, Int.reduceGE, Int.reduceEq, Int.reduceBEq, Int.reduceBNe, load_ptr, ldV_some, cellAt_cells, List.getElem?_cons_zero, List.getElem?_cons_succ, store_ptr, stO_some, setAt_0, setAt_1, setAt_2, setAt_3, setAt_4, setAt_5, setAt_6, setAt_7, setAt_8, setAt_9, setAt_10, setAt_11, setAt_12, cells_int, cells_bool, cells_str, cells_nils, cells_nilp, cells_ptr, cells_sl, cells_u8, cells_u16, cells_agg, get_upd_is, Option.isSome_some, upd_upd, ev1_nchkV, ev1_faV, nchkV_ptr, faV_ptr, ev1_extV, extV_tup, eqptr_nil, eqptr_ptr, Nat.zero_add, Nat.add_zero, qPL0, qPL1, qPL2, qPL3, qPL4, qPL5, beq_self_eq_true]
        exact ⟨_, _, rfl, rfl, hne g⟩
    · rintro e st ⟨h1, h4⟩
      rw [h1]
      have hs := findT_skip id l l.length (fun j hj _ => h4 j hj hj)
      rw [List.drop_length] at hs
      have d0 : decide (((l.length : Nat) : Int) < ((l.length : Nat) : Int)) = false := decide_eq_false (by omega)
      rw [hs]
      refine ⟨?_, fun e' s' hh => ?_⟩
      · simp only [M68, M68r0, M68b0, E68, d0, findT, findV, qES0, qES1, qES2, env0, List.length_cons, List.length_nil, Nat.reduceAdd, Nat.reduceSub, List.replicate, List.cons_append, List.nil_append, opd, Env.put, Env.at, List.set_cons_zero, List.set_cons_succ, List.getD_cons_zero, List.getD_cons_succ, freezeL, resVs, oneOr, Option.map_some, Option.map_none, List.map_cons, List.map_nil, if_true, if_false, Bool.not_true, Bool.not_false, Bool.false_eq_true, reduceIte, decide_true, decide_false, Int.reduceLT, Int.reduceLE, Int.reduceGT, Int.reduceGE, Int.reduceEq, Int.reduceBEq, Int.reduceBNe, load_ptr, ldV_some, cellAt_cells, List.getElem?_cons_zero, List.getElem?_cons_succ, store_ptr, stO_some, setAt_0, setAt_1, setAt_2, setAt_3, setAt_4, setAt_5, setAt_6, setAt_7, setAt_8, setAt_9, setAt_10, setAt_11, setAt_12, cells_int, cells_bool, cells_str, cells_nils, cells_nilp, cells_ptr, cells_sl, cells_u8, cells_u16, cells_agg, get_upd_is, Option.isSome_some, upd_upd, ev1_nchkV, ev1_faV, nchkV_ptr, faV_ptr, ev1_extV, extV_tup, eqptr_nil, eqptr_ptr, Nat.zero_add, Nat.add_zero, qPL0, qPL1, qPL2, qPL3, qPL4, qPL5, beq_self_eq_true]
      · simp only [M68b0, E68, d0, qES0, qES1, qES2, env0, List.length_cons, List.length_nil, Nat.reduceAdd, Nat.reduceSub, List.replicate, List.cons_append, List.nil_append, opd, Env.put, Env.at, List.set_cons_zero, List.set_cons_succ, List.getD_cons_zero, List.getD_cons_succ, freezeL, resVs, oneOr, Option.map_some, Option.map_none, List.map_cons, List.map_nil, if_true, if_false, Bool.not_true, Bool.not_false, Bool.false_eq_true, reduceIte, decide_true, decide_false, Int.reduceLT, Int.reduceLE, Int.reduceGT, Int.reduceGE, Int.reduceEq, Int.reduceBEq, Int.reduceBNe, load_ptr, ldV_some, cellAt_cells, List.getElem?_cons_zero, List.getElem?_cons_succ, store_ptr, stO_some, setAt_0, setAt_1, setAt_2, setAt_3, setAt_4, setAt_5, setAt_6, setAt_7, setAt_8, setAt_9, setAt_10, setAt_11, setAt_12, cells_int, cells_bool, cells_str, cells_nils, cells_nilp, cells_ptr, cells_sl, cells_u8, cells_u16, cells_agg, get_upd_is, Option.isSome_some, upd_upd, ev1_nchkV, ev1_faV, nchkV_ptr, faV_ptr, ev1_extV, extV_tup, eqptr_nil, eqptr_ptr, Nat.zero_add, Nat.add_zero, qPL0, qPL1, qPL2, qPL3, qPL4, qPL5, beq_self_eq_true] at hh
        cases hh
  simp only [M68, ln, evC_loop, qES0, qES1, qES2, env0, List.length_cons, List.length_nil, Nat.reduceAdd, Nat.reduceSub, List.replicate, List.cons_append, List.nil_append, opd, Env.put, Env.at, List.set_cons_zero, List.set_cons_succ, List.getD_cons_zero, List.getD_cons_succ, freezeL, resVs, oneOr, Option.map_some, Option.map_none, List.map_cons, List.map_nil, if_true, if_false, Bool.not_true, Bool.not_false, Bool.false_eq_true, reduceIte, decide_true, decide_false, Int.reduceLT, Int.reduceLE, Int.reduceGT, Int.reduceGE, Int.reduceEq, Int.reduceBEq, Int.reduceBNe, load_ptr, ldV_some, cellAt_cells, List.getElem?_cons_zero, List.getElem?_cons_succ, store_ptr, stO_some, setAt_0, setAt_1, setAt_2, setAt_3, setAt_4, setAt_5, setAt_6, setAt_7, setAt_8, setAt_9, setAt_10, setAt_11, setAt_12, cells_int, cells_bool, cells_str, cells_nils, cells_nilp, cells_ptr, cells_sl, cells_u8, cells_u16, cells_agg, get_upd_is, Option.isSome_some, upd_upd, ev1_nchkV, ev1_faV, nchkV_ptr, faV_ptr, ev1_extV, extV_tup, eqptr_nil, eqptr_ptr, Nat.zero_add, Nat.add_zero, qPL0, qPL1, qPL2, qPL3, qPL4, qPL5, beq_self_eq_true]
  exact key _ rfl
/-! Read out of values. -/
def toPairs : List AV → Option (List Tp)
  | [] => some []
  | .int .i64 a :: .str b :: r => (toPairs r).map ((a, b) :: ·)
  | _ => none
theorem toPairs_tpC (l : List Tp) : toPairs (tpC l) = some l := by
  induction l with
  | nil => rfl
  | cons t l ih =>
    show (toPairs (tpC l)).map ((t.1, t.2) :: ·) = _
    rw [ih]; rfl
theorem toPairs_of : ∀ (cs : List AV) (l : List Tp), toPairs cs = some l → cs = tpC l
  | [], l, h => by cases h; rfl
  | .int .i64 a :: .str b :: r, l, h => by
    obtain ⟨m, h1, rfl⟩ := Option.map_eq_some_iff.1 (show (toPairs r).map ((a, b) :: ·) = some l from h)
    rw [toPairs_of r m h1]; rfl
def toTp : AV → Option (List Tp)
  | .nils => some []
  | .sl cs n none => match toPairs cs with
    | some l => if l.length = n then some l else none
    | none => none
  | _ => none
theorem toTp_of {v : AV} {l : List Tp} (h : toTp v = some l) : IsTp v l ∧ Ab.flat v = true := by
  unfold toTp at h
  split at h
  · cases h; exact ⟨.inl ⟨rfl, rfl⟩, rfl⟩
  · rename_i cs n
    split at h
    · rename_i m hm
      split at h
      · rename_i hn
        cases h
        have := toPairs_of cs l hm
        subst this
        refine ⟨.inr ⟨none, by rw [hn]⟩, ?_⟩
        have hf : ∀ l : List Tp, flatL (tpC l) = true := by
          intro l
          induction l with
          | nil => rfl
          | cons t l ih => simpa [tpC, flatL, Ab.flat] using ih
        simp [Ab.flat, hf]
      · cases h
    · cases h
  · cases h
theorem toTp_is {v : AV} {l : List Tp} (h : IsTp v l) : toTp (dry1 v) = some l := by
  rcases h with ⟨rfl, rfl⟩ | ⟨tk, rfl⟩
  · rfl
  · show (match toPairs (tpC l) with
      | some m => if m.length = l.length then some m else none
      | none => none) = some l
    rw [toPairs_tpC]
    exact if_pos rfl
theorem tpV_is (l : List Tp) : IsTp (tpV l) l := by
  unfold tpV
  split
  · rename_i h; exact .inl ⟨rfl, h⟩
  · exact .inr ⟨none, rfl⟩
theorem tpV_flat (l : List Tp) : Ab.flat (tpV l) = true := by
  have h := toTp_is (tpV_is l)
  have hd : dry1 (tpV l) = tpV l := by unfold tpV; split <;> rfl
  rw [hd] at h
  exact (toTp_of h).2
/-! The functions as what they answer. -/
def hTPut : List AV → St → Option AV
  | [v], _ => match toTp v with
    | some l => if l.length ≤ 100 then some (.tup [.str (if putOk l then encL l else []), .bool (decide (putOk l))]) else none
    | none => none
  | _, _ => none
def hTGet : List AV → St → Option AV
  | [.str s], _ => some (getV (getL s))
  | _, _ => none
def hFind : List AV → St → Option AV
  | [v, .int .i64 id], _ => match toTp v with
    | some l => if l.length ≤ 100 then some (findV (findT id l)) else none
    | none => none
  | _, _ => none
theorem getV_flat (r : Option (List Tp)) : Ab.flat (getV r) = true := by
  cases r with
  | none => rfl
  | some l => simp [getV, Ab.flat, flatL, tpV_flat]
theorem pureTPut {call : Calls'} {F : Nat} (h : ∀ v l, IsTp v l → l.length ≤ 100 → valR (call F [v] St.nil) = some (.tup [.str (if putOk l then encL l else []), .bool (decide (putOk l))])) : PureOk call F hTPut := pureOk_of (by
  intro args s v hv
  unfold hTPut at hv
  split at hv
  · split at hv
    · rename_i l hl
      obtain ⟨h1, h2⟩ := toTp_of hl
      split at hv
      · rename_i hn
        cases hv
        exact ⟨rfl, by simp [flatL, h2], h _ _ h1 hn⟩
      · cases hv
    · cases hv
  · cases hv)
theorem pureTGet {call : Calls'} {F : Nat} (h : ∀ s, valR (call F [.str s] St.nil) = some (getV (getL s))) : PureOk call F hTGet := pureOk_of (by
  intro args s v hv
  unfold hTGet at hv
  split at hv
  · cases hv; exact ⟨getV_flat _, rfl, h _⟩
  · cases hv)
theorem pureFind {call : Calls'} {F : Nat} (h : ∀ v l id, IsTp v l → l.length ≤ 100 → valR (call F [v, .int .i64 id] St.nil) = some (findV (findT id l))) : PureOk call F hFind := pureOk_of (by
  intro args s v hv
  unfold hFind at hv
  split at hv
  · split at hv
    · rename_i l hl
      obtain ⟨h1, h2⟩ := toTp_of hl
      split at hv
      · rename_i hn
        cases hv
        refine ⟨?_, by simp [flatL, h2, Ab.flat], h _ _ _ h1 hn⟩
        cases findT _ l <;> rfl
      · cases hv
    · cases hv
  · cases hv)
end Go.Proofs.YtbeimfhodgmjhaaDoor
