/- few, eq and back of layer 4's laws, as the evaluator answers them; all of it known. No conditions. -/
import Derived.Test.YthcblggiojpmcaaDoorNkR
import Derived.Test.YthcblggiojpmcaaDoorTpP
set_option linter.unusedSimpArgs false
set_option linter.unusedVariables false
set_option maxRecDepth 100000
set_option maxHeartbeats 4000000
namespace Go.Proofs.YthcblggiojpmcaaDoor
open Go Go.Ab
theorem own_dry {size : Nat} {s : St} {x : AV} {cs : List AV} {n : Nat} (h : OwnG size s x cs n) : dryV x = dry1 x := by
  rcases h with ⟨rfl, _⟩ | ⟨_, t, v, rfl, _⟩ <;> rfl
def E50t (v acc : AV) (i : Int) : Env := [v, .undef, .undef, acc, .int .i64 i, .undef, .undef, .undef, .undef, .undef, .undef, .undef, .undef, .undef, .undef, .undef, .undef, .undef, .undef, .undef, .undef, .undef, .undef, .undef, .undef, .undef, .undef, .undef, .undef, .undef, .undef]
theorem few_val {v : AV} {l : List Tp} (h : IsTp v l) : valR (evN 1000 50 [v] St.nil) = some (tpV (cutT 45 (l.take 8))) := by
  rw [show (1000 : Nat) = 999 + 1 from rfl, evN_in rfl tab50]
  have ln := h.len
  have key : ∀ e, maskE M50b0l e = E50t v .nils 0 → valR (outR M50.res (seqR (blockR 0 (iter (evC tabGl (evN 999) 999 M50b0) M50b0l 999 e (St.nil.pl []))) (evC tabGl (evN 999) 999 M50r0))) = some (tpV (cutT 45 (l.take 8))) := by
    intro e he
    refine iter_leave (evC tabGl (evN 999) 999 M50b0) M50b0l (fun i e s => ∃ acc, maskE M50b0l e = E50t v acc (i : Int) ∧ OwnG 2 s acc (tpC (cutT 45 (l.take i))) (cutT 45 (l.take i)).length)
      (fun out => valR (outR M50.res (seqR (blockR 0 out) (evC tabGl (evN 999) 999 M50r0))) = some (tpV (cutT 45 (l.take 8)))) (min l.length 8) ?_ ?_ (min l.length 8) 0 _ _ 999 (by omega) ⟨.nils, he, OwnG.nil _ _⟩ (by omega)
    · rintro i e s hi ⟨acc, h1, h2⟩
      rw [h1]
      left
      have hil : i < l.length := by omega
      obtain ⟨r, hr⟩ := h.ixa i hil
      obtain ⟨⟨id, val⟩, hx'⟩ : ∃ t, l[i] = t := ⟨_, rfl⟩
      have hcs := cutT_succ 45 l i hil
      rw [hx'] at hr hcs
      have d0 : decide ((i : Int) < (l.length : Nat)) = true := decide_eq_true (by omega)
      have d1 : decide ((i : Int) < 8) = true := decide_eq_true (by omega)
      have w1 : IntKind.i64.wrap ((i : Int) + 1) = ((i + 1 : Nat) : Int) := (wrapI _ (by omega) (by omega)).trans (by omega)
      have c0 : Ab.cut (.int .i64 id :: .str val :: r) 0 none = some (.int .i64 id) := by simp [Ab.cut]
      have c1 : Ab.cut (.str val :: r) 0 none = some (.str val) := by simp [Ab.cut]
      have f0 : faV 0 (.rp (.int .i64 id :: .str val :: r)) = some (.rp (.int .i64 id :: .str val :: r)) := faV_rp _ _ (by simp)
      have f1 : faV 1 (.rp (.int .i64 id :: .str val :: r)) = some (.rp (.str val :: r)) := faV_rp _ _ (by simp)
      have tx : ∀ s, evN (998 + 1) 21 [.str val, .int .i64 45] s = some (.str (val.take 45), s) := n_text 998 val 45
      have hlen : (cutT 45 (l.take i)).length ≤ 8 := by rw [cutT_len, List.length_take]; omega
      obtain ⟨z1, S1, a1, a2, a3⟩ := (h2.ext (pl_ext s [.tick 2 0])).app (bytes := 24) (y := .sl [.int .i64 id, .str (val.take 45)] 1 (some (s.next, 0, 2))) (ds := [.int .i64 id, .str (val.take 45)]) (m := 1) rfl rfl (by decide) (by simp [fits]; omega)
      rw [show s = s.pl [] from rfl]
      simp only [M50b0, E50t, ln, hr, c0, c1, f0, f1, d0, d1, w1, tx, a1, ev1_build, loadR_rp, qES0, qES1, qES2, env0, List.length_cons, List.length_nil, Nat.reduceAdd, Nat.reduceSub, List.replicate, List.cons_append, List.nil_append, opd, Env.put, Env.at, List.set_cons_zero, List.set_cons_succ, List.getD_cons_zero, List.getD_cons_succ, freezeL, resVs, oneOr, Option.map_some, Option.map_none, List.map_cons, List.map_nil, if_true, if_false, Bool.not_true, Bool.not_false, Bool.false_eq_true, reduceIte, decide_true, decide_false, Int.reduceLT, Int.reduceLE, Int.reduceGT, Int.reduceGE, Int.reduceEq, Int.reduceBEq, Int.reduceBNe, load_ptr, ldV_some, cellAt_cells, List.getElem?_cons_zero, List.getElem?_cons_succ, store_ptr, stO_some, setAt_0, setAt_1, setAt_2, setAt_3, setAt_4, setAt_5, setAt_6, setAt_7, setAt_8, setAt_9, setAt_10, setAt_11, setAt_12, cells_int, cells_bool, cells_str, cells_nils, cells_nilp, cells_ptr, cells_sl, cells_u8, cells_u16, cells_agg, get_upd_is, Option.isSome_some, upd_upd, ev1_nchkV, ev1_faV, nchkV_ptr, faV_ptr, ev1_extV, extV_tup, eqptr_nil, eqptr_ptr, Nat.zero_add, Nat.add_zero, qPL0, qPL1, qPL2, qPL3, qPL4, qPL5, beq_self_eq_true, qED0, qED1, placeR]
      rw [drawR_ok]; case h => simp (config := { decide := true }) [calm, calmPair, calmTwo, List.range, List.range.loop, sameO_refl, plg0]
      simp only [w1, qES0, qES1, qES2, env0, List.length_cons, List.length_nil, Nat.reduceAdd, Nat.reduceSub, List.replicate, List.cons_append, List.nil_append, opd, Env.put, Env.at, List.set_cons_zero, List.set_cons_succ, List.getD_cons_zero, List.getD_cons_succ, freezeL, resVs, oneOr, Option.map_some, Option.map_none, List.map_cons, List.map_nil, if_true, if_false, Bool.not_true, Bool.not_false, Bool.false_eq_true, reduceIte, decide_true, decide_false, Int.reduceLT, Int.reduceLE, Int.reduceGT, Int.reduceGE, Int.reduceEq, Int.reduceBEq, Int.reduceBNe, load_ptr, ldV_some, cellAt_cells, List.getElem?_cons_zero, List.getElem?_cons_succ, store_ptr, stO_some, setAt_0, setAt_1, setAt_2, setAt_3, setAt_4, setAt_5, setAt_6, setAt_7, setAt_8, setAt_9, setAt_10, setAt_11, setAt_12, cells_int, cells_bool, cells_str, cells_nils, cells_nilp, cells_ptr, cells_sl, cells_u8, cells_u16, cells_agg, get_upd_is, Option.isSome_some, upd_upd, ev1_nchkV, ev1_faV, nchkV_ptr, faV_ptr, ev1_extV, extV_tup, eqptr_nil, eqptr_ptr, Nat.zero_add, Nat.add_zero, qPL0, qPL1, qPL2, qPL3, qPL4, qPL5, beq_self_eq_true, qED0, qED1, placeR]
      refine ⟨_, _, rfl, z1, rfl, ?_⟩
      rw [hcs, tpC_append, List.length_append]
      exact a2
    · rintro e s ⟨acc, h1, h2⟩
      rw [h1]
      have ht : l.take (min l.length 8) = l.take 8 := by rw [List.take_eq_take_iff]; omega
      rw [ht] at h2
      obtain ⟨q1, q2⟩ := tpV_own h2
      rw [show s = s.pl [] from rfl]
      refine ⟨?_, fun e' s' hh => ?_⟩
      · by_cases g : l.length < 8
        · have d0 : decide (((min l.length 8 : Nat) : Int) < (l.length : Nat)) = false := decide_eq_false (by omega)
          simp only [M50, M50r0, M50b0, E50t, ln, d0, q2, qES0, qES1, qES2, env0, List.length_cons, List.length_nil, Nat.reduceAdd, Nat.reduceSub, List.replicate, List.cons_append, List.nil_append, opd, Env.put, Env.at, List.set_cons_zero, List.set_cons_succ, List.getD_cons_zero, List.getD_cons_succ, freezeL, resVs, oneOr, Option.map_some, Option.map_none, List.map_cons, List.map_nil, if_true, if_false, Bool.not_true, Bool.not_false, Bool.false_eq_true, reduceIte, decide_true, decide_false, Int.reduceLT, Int.reduceLE, Int.reduceGT, Int.reduceGE, Int.reduceEq, Int.reduceBEq, Int.reduceBNe, load_ptr, ldV_some, cellAt_cells, List.getElem?_cons_zero, List.getElem?_cons_succ, store_ptr, stO_some, setAt_0, setAt_1, setAt_2, setAt_3, setAt_4, setAt_5, setAt_6, setAt_7, setAt_8, setAt_9, setAt_10, setAt_11, setAt_12, cells_int, cells_bool, cells_str, cells_nils, cells_nilp, cells_ptr, cells_sl, cells_u8, cells_u16, cells_agg, get_upd_is, Option.isSome_some, upd_upd, ev1_nchkV, ev1_faV, nchkV_ptr, faV_ptr, ev1_extV, extV_tup, eqptr_nil, eqptr_ptr, Nat.zero_add, Nat.add_zero, qPL0, qPL1, qPL2, qPL3, qPL4, qPL5, beq_self_eq_true]
          exact congrArg some ((own_dry h2).trans q1)
        · by_cases g8 : l.length = 8
          · have d0 : decide (((min l.length 8 : Nat) : Int) < (l.length : Nat)) = false := decide_eq_false (by omega)
            simp only [M50, M50r0, M50b0, E50t, ln, d0, q2, qES0, qES1, qES2, env0, List.length_cons, List.length_nil, Nat.reduceAdd, Nat.reduceSub, List.replicate, List.cons_append, List.nil_append, opd, Env.put, Env.at, List.set_cons_zero, List.set_cons_succ, List.getD_cons_zero, List.getD_cons_succ, freezeL, resVs, oneOr, Option.map_some, Option.map_none, List.map_cons, List.map_nil, if_true, if_false, Bool.not_true, Bool.not_false, Bool.false_eq_true, reduceIte, decide_true, decide_false, Int.reduceLT, Int.reduceLE, Int.reduceGT, Int.reduceGE, Int.reduceEq, Int.reduceBEq, Int.reduceBNe, load_ptr, ldV_some, cellAt_cells, List.getElem?_cons_zero, List.getElem?_cons_succ, store_ptr, stO_some, setAt_0, setAt_1, setAt_2, setAt_3, setAt_4, setAt_5, setAt_6, setAt_7, setAt_8, setAt_9, setAt_10, setAt_11, setAt_12, cells_int, cells_bool, cells_str, cells_nils, cells_nilp, cells_ptr, cells_sl, cells_u8, cells_u16, cells_agg, get_upd_is, Option.isSome_some, upd_upd, ev1_nchkV, ev1_faV, nchkV_ptr, faV_ptr, ev1_extV, extV_tup, eqptr_nil, eqptr_ptr, Nat.zero_add, Nat.add_zero, qPL0, qPL1, qPL2, qPL3, qPL4, qPL5, beq_self_eq_true]
            exact congrArg some ((own_dry h2).trans q1)
          · have d0 : decide (((min l.length 8 : Nat) : Int) < (l.length : Nat)) = true := decide_eq_true (by omega)
            have d1 : decide (((min l.length 8 : Nat) : Int) < 8) = false := decide_eq_false (by omega)
            simp only [M50, M50r0, M50b0, E50t, ln, d0, d1, q2, qES0, qES1, qES2, env0, List.length_cons, List.length_nil, Nat.reduceAdd, Nat.reduceSub, List.replicate, List.cons_append, List.nil_append, opd, Env.put, Env.at, List.set_cons_zero, List.set_cons_succ, List.getD_cons_zero, List.getD_cons_succ, freezeL, resVs, oneOr, Option.map_some, Option.map_none, List.map_cons, List.map_nil, if_true, if_false, Bool.not_true, Bool.not_false, Bool.false_eq_true, reduceIte, decide_true, decide_false, Int.reduceLT, Int.reduceLE, Int.reduceGT, Int.reduceGE, Int.reduceEq, Int.reduceBEq, Int.reduceBNe, load_ptr, ldV_some, cellAt_cells, List.getElem?_cons_zero, List.getElem?_cons_succ, store_ptr, stO_some, setAt_0, setAt_1, setAt_2, setAt_3, setAt_4, setAt_5, setAt_6, setAt_7, setAt_8, setAt_9, setAt_10, setAt_11, setAt_12, cells_int, cells_bool, cells_str, cells_nils, cells_nilp, cells_ptr, cells_sl, cells_u8, cells_u16, cells_agg, get_upd_is, Option.isSome_some, upd_upd, ev1_nchkV, ev1_faV, nchkV_ptr, faV_ptr, ev1_extV, extV_tup, eqptr_nil, eqptr_ptr, Nat.zero_add, Nat.add_zero, qPL0, qPL1, qPL2, qPL3, qPL4, qPL5, beq_self_eq_true]
            exact congrArg some ((own_dry h2).trans q1)
      · by_cases g : l.length ≤ 8
        · have d0 : decide (((min l.length 8 : Nat) : Int) < (l.length : Nat)) = false := decide_eq_false (by omega)
          simp only [M50b0, E50t, ln, d0, qES0, qES1, qES2, env0, List.length_cons, List.length_nil, Nat.reduceAdd, Nat.reduceSub, List.replicate, List.cons_append, List.nil_append, opd, Env.put, Env.at, List.set_cons_zero, List.set_cons_succ, List.getD_cons_zero, List.getD_cons_succ, freezeL, resVs, oneOr, Option.map_some, Option.map_none, List.map_cons, List.map_nil, if_true, if_false, Bool.not_true, Bool.not_false, Bool.false_eq_true, reduceIte, decide_true, decide_false, Int.reduceLT, Int.reduceLE, Int.reduceGT, Int.reduceGE, Int.reduceEq, Int.reduceBEq, Int.reduceBNe, load_ptr, ldV_some, cellAt_cells, List.getElem?_cons_zero, List.getElem?_cons_succ, store_ptr, stO_some, setAt_0, setAt_1, setAt_2, setAt_3, setAt_4, setAt_5, setAt_6, setAt_7, setAt_8, setAt_9, setAt_10, setAt_11, setAt_12, cells_int, cells_bool, cells_str, cells_nils, cells_nilp, cells_ptr, cells_sl, cells_u8, cells_u16, cells_agg, get_upd_is, Option.isSome_some, upd_upd, ev1_nchkV, ev1_faV, nchkV_ptr, faV_ptr, ev1_extV, extV_tup, eqptr_nil, eqptr_ptr, Nat.zero_add, Nat.add_zero, qPL0, qPL1, qPL2, qPL3, qPL4, qPL5, beq_self_eq_true] at hh
          cases hh
        · have d0 : decide (((min l.length 8 : Nat) : Int) < (l.length : Nat)) = true := decide_eq_true (by omega)
          have d1 : decide (((min l.length 8 : Nat) : Int) < 8) = false := decide_eq_false (by omega)
          simp only [M50b0, E50t, ln, d0, d1, qES0, qES1, qES2, env0, List.length_cons, List.length_nil, Nat.reduceAdd, Nat.reduceSub, List.replicate, List.cons_append, List.nil_append, opd, Env.put, Env.at, List.set_cons_zero, List.set_cons_succ, List.getD_cons_zero, List.getD_cons_succ, freezeL, resVs, oneOr, Option.map_some, Option.map_none, List.map_cons, List.map_nil, if_true, if_false, Bool.not_true, Bool.not_false, Bool.false_eq_true, reduceIte, decide_true, decide_false, Int.reduceLT, Int.reduceLE, Int.reduceGT, Int.reduceGE, Int.reduceEq, Int.reduceBEq, Int.reduceBNe, load_ptr, ldV_some, cellAt_cells, List.getElem?_cons_zero, List.getElem?_cons_succ, store_ptr, stO_some, setAt_0, setAt_1, setAt_2, setAt_3, setAt_4, setAt_5, setAt_6, setAt_7, setAt_8, setAt_9, setAt_10, setAt_11, setAt_12, cells_int, cells_bool, cells_str, cells_nils, cells_nilp, cells_ptr, cells_sl, cells_u8, cells_u16, cells_agg, get_upd_is, Option.isSome_some, upd_upd, ev1_nchkV, ev1_faV, nchkV_ptr, faV_ptr, ev1_extV, extV_tup, eqptr_nil, eqptr_ptr, Nat.zero_add, Nat.add_zero, qPL0, qPL1, qPL2, qPL3, qPL4, qPL5, beq_self_eq_true] at hh
          cases hh
  rw [show St.nil = St.nil.pl [] from rfl]
  simp only [M50, evC_loop, qES0, qES1, qES2, env0, List.length_cons, List.length_nil, Nat.reduceAdd, Nat.reduceSub, List.replicate, List.cons_append, List.nil_append, opd, Env.put, Env.at, List.set_cons_zero, List.set_cons_succ, List.getD_cons_zero, List.getD_cons_succ, freezeL, resVs, oneOr, Option.map_some, Option.map_none, List.map_cons, List.map_nil, if_true, if_false, Bool.not_true, Bool.not_false, Bool.false_eq_true, reduceIte, decide_true, decide_false, Int.reduceLT, Int.reduceLE, Int.reduceGT, Int.reduceGE, Int.reduceEq, Int.reduceBEq, Int.reduceBNe, load_ptr, ldV_some, cellAt_cells, List.getElem?_cons_zero, List.getElem?_cons_succ, store_ptr, stO_some, setAt_0, setAt_1, setAt_2, setAt_3, setAt_4, setAt_5, setAt_6, setAt_7, setAt_8, setAt_9, setAt_10, setAt_11, setAt_12, cells_int, cells_bool, cells_str, cells_nils, cells_nilp, cells_ptr, cells_sl, cells_u8, cells_u16, cells_agg, get_upd_is, Option.isSome_some, upd_upd, ev1_nchkV, ev1_faV, nchkV_ptr, faV_ptr, ev1_extV, extV_tup, eqptr_nil, eqptr_ptr, Nat.zero_add, Nat.add_zero, qPL0, qPL1, qPL2, qPL3, qPL4, qPL5, beq_self_eq_true]
  exact key _ rfl
def hFew : List AV → St → Option AV
  | [v], _ => (toTp v).map fun l => tpV (cutT 45 (l.take 8))
  | _, _ => none
theorem puFew : PureOk (evN 1000) 50 hFew := pureOk_of (by
  intro args s v hv
  unfold hFew at hv
  split at hv
  · obtain ⟨l, h1, rfl⟩ := Option.map_eq_some_iff.1 hv
    obtain ⟨h2, h3⟩ := toTp_of h1
    exact ⟨tpV_flat _, by simp [flatL, h3], few_val h2⟩
  · cases hv)
/-! eq. -/
theorem eq2t (a : Int) (b : List UInt8) : eqAV (.flat (.many [SK.i, SK.s])) (.agg [.int .i64 a, .str b]) (.agg [.int .i64 a, .str b]) = some true := by
  simp [eqAV, eqFl, eqScL, eqSc]
def E54t (v w : AV) (z : Nat) (i : Int) : Env := [v, w, .undef, .undef, .undef, .undef, .undef, .undef, .undef, .undef, .undef, .undef, .int .i64 (z : Nat), .int .i64 i, .undef, .undef, .undef, .undef, .undef, .undef, .undef, .undef, .undef, .undef, .undef, .undef]
theorem eq_val {v w : AV} {l : List Tp} (h : IsTp v l) (g : IsTp w l) (hl : l.length ≤ 100) : valR (evN 1000 54 [v, w] St.nil) = some (.bool true) := by
  rw [show (1000 : Nat) = 999 + 1 from rfl, evN_in rfl tab54]
  have ln := h.len
  have lm := g.len
  have n0 : ((l.length : Int) != (l.length : Nat)) = false := by simp
  have key : ∀ e, maskE M54b0l e = E54t v w l.length 0 → valR (outR M54.res (seqR (blockR 0 (iter (evC tabGl (evN 999) 999 M54b0) M54b0l 999 e (St.nil.pl []))) (evC tabGl (evN 999) 999 M54r0))) = some (.bool true) := by
    intro e he
    refine iter_leave (evC tabGl (evN 999) 999 M54b0) M54b0l (fun i e s => maskE M54b0l e = E54t v w l.length (i : Int))
      (fun out => valR (outR M54.res (seqR (blockR 0 out) (evC tabGl (evN 999) 999 M54r0))) = some (.bool true)) l.length ?_ ?_ l.length 0 _ _ 999 (by omega) he (by omega)
    · rintro i e s hi h1
      rw [h1]
      left
      obtain ⟨r, hr⟩ := h.ixa i hi
      obtain ⟨r', hr'⟩ := g.ixa i hi
      obtain ⟨⟨id, val⟩, hx'⟩ : ∃ t, l[i] = t := ⟨_, rfl⟩
      rw [hx'] at hr hr'
      have d0 : decide ((i : Int) < (l.length : Nat)) = true := decide_eq_true (by omega)
      have w1 : IntKind.i64.wrap ((i : Int) + 1) = ((i + 1 : Nat) : Int) := (wrapI _ (by omega) (by omega)).trans (by omega)
      have c0 : ∀ r, Ab.cut (.int .i64 id :: .str val :: r) 0 (some 2) = some (.agg [.int .i64 id, .str val]) := fun r => by simp [Ab.cut]
      have q := eq2t id val
      rw [show s = s.pl [] from rfl]
      simp only [M54b0, E54t, hr, hr', c0, d0, w1, q, ev1_eqv, loadR_rp, qES0, qES1, qES2, env0, List.length_cons, List.length_nil, Nat.reduceAdd, Nat.reduceSub, List.replicate, List.cons_append, List.nil_append, opd, Env.put, Env.at, List.set_cons_zero, List.set_cons_succ, List.getD_cons_zero, List.getD_cons_succ, freezeL, resVs, oneOr, Option.map_some, Option.map_none, List.map_cons, List.map_nil, if_true, if_false, Bool.not_true, Bool.not_false, Bool.false_eq_true, reduceIte, decide_true, decide_false, Int.reduceLT, Int.reduceLE, Int.reduceGT, Int.reduceGE, Int.reduceEq, Int.reduceBEq, Int.reduceBNe, load_ptr, ldV_some, cellAt_cells, List.getElem?_cons_zero, List.getElem?_cons_succ, store_ptr, stO_some, setAt_0, setAt_1, setAt_2, setAt_3, setAt_4, setAt_5, setAt_6, setAt_7, setAt_8, setAt_9, setAt_10, setAt_11, setAt_12, cells_int, cells_bool, cells_str, cells_nils, cells_nilp, cells_ptr, cells_sl, cells_u8, cells_u16, cells_agg, get_upd_is, Option.isSome_some, upd_upd, ev1_nchkV, ev1_faV, nchkV_ptr, faV_ptr, ev1_extV, extV_tup, eqptr_nil, eqptr_ptr, Nat.zero_add, Nat.add_zero, qPL0, qPL1, qPL2, qPL3, qPL4, qPL5, beq_self_eq_true, qED0, qED1, placeR]
      rw [drawR_ok]; case h => simp (config := { decide := true }) [calm, calmPair, calmTwo, List.range, List.range.loop, sameO_refl, plg0]
      simp only [w1, qES0, qES1, qES2, env0, List.length_cons, List.length_nil, Nat.reduceAdd, Nat.reduceSub, List.replicate, List.cons_append, List.nil_append, opd, Env.put, Env.at, List.set_cons_zero, List.set_cons_succ, List.getD_cons_zero, List.getD_cons_succ, freezeL, resVs, oneOr, Option.map_some, Option.map_none, List.map_cons, List.map_nil, if_true, if_false, Bool.not_true, Bool.not_false, Bool.false_eq_true, reduceIte, decide_true, decide_false, Int.reduceLT, Int.reduceLE, Int.reduceGT, Int.reduceGE, Int.reduceEq, Int.reduceBEq, Int.reduceBNe, load_ptr, ldV_some, cellAt_cells, List.getElem?_cons_zero, List.getElem?_cons_succ, store_ptr, stO_some, setAt_0, setAt_1, setAt_2, setAt_3, setAt_4, setAt_5, setAt_6, setAt_7, setAt_8, setAt_9, setAt_10, setAt_11, setAt_12, cells_int, cells_bool, cells_str, cells_nils, cells_nilp, cells_ptr, cells_sl, cells_u8, cells_u16, cells_agg, get_upd_is, Option.isSome_some, upd_upd, ev1_nchkV, ev1_faV, nchkV_ptr, faV_ptr, ev1_extV, extV_tup, eqptr_nil, eqptr_ptr, Nat.zero_add, Nat.add_zero, qPL0, qPL1, qPL2, qPL3, qPL4, qPL5, beq_self_eq_true, qED0, qED1, placeR]
      exact ⟨_, _, rfl, rfl⟩
    · rintro e s h1
      rw [h1]
      have d0 : decide (((l.length : Nat) : Int) < (l.length : Nat)) = false := decide_eq_false (by omega)
      refine ⟨?_, fun e' s' hh => ?_⟩
      · simp only [M54, M54r0, M54b0, E54t, d0, qES0, qES1, qES2, env0, List.length_cons, List.length_nil, Nat.reduceAdd, Nat.reduceSub, List.replicate, List.cons_append, List.nil_append, opd, Env.put, Env.at, List.set_cons_zero, List.set_cons_succ, List.getD_cons_zero, List.getD_cons_succ, freezeL, resVs, oneOr, Option.map_some, Option.map_none, List.map_cons, List.map_nil, if_true, if_false, Bool.not_true, Bool.not_false, Bool.false_eq_true, reduceIte, decide_true, decide_false, Int.reduceLT, Int.reduceLE, Int.reduceGT, Int.reduceGE, Int.reduceEq, Int.reduceBEq, Int.reduceBNe, load_ptr, ldV_some, cellAt_cells, List.getElem?_cons_zero, List.getElem?_cons_succ, store_ptr, stO_some, setAt_0, setAt_1, setAt_2, setAt_3, setAt_4, setAt_5, setAt_6, setAt_7, setAt_8, setAt_9, setAt_10, setAt_11, setAt_12, cells_int, cells_bool, cells_str, cells_nils, cells_nilp, cells_ptr, cells_sl, cells_u8, cells_u16, cells_agg, get_upd_is, Option.isSome_some, upd_upd, ev1_nchkV, ev1_faV, nchkV_ptr, faV_ptr, ev1_extV, extV_tup, eqptr_nil, eqptr_ptr, Nat.zero_add, Nat.add_zero, qPL0, qPL1, qPL2, qPL3, qPL4, qPL5, beq_self_eq_true]
      · simp only [M54b0, E54t, d0, qES0, qES1, qES2, env0, List.length_cons, List.length_nil, Nat.reduceAdd, Nat.reduceSub, List.replicate, List.cons_append, List.nil_append, opd, Env.put, Env.at, List.set_cons_zero, List.set_cons_succ, List.getD_cons_zero, List.getD_cons_succ, freezeL, resVs, oneOr, Option.map_some, Option.map_none, List.map_cons, List.map_nil, if_true, if_false, Bool.not_true, Bool.not_false, Bool.false_eq_true, reduceIte, decide_true, decide_false, Int.reduceLT, Int.reduceLE, Int.reduceGT, Int.reduceGE, Int.reduceEq, Int.reduceBEq, Int.reduceBNe, load_ptr, ldV_some, cellAt_cells, List.getElem?_cons_zero, List.getElem?_cons_succ, store_ptr, stO_some, setAt_0, setAt_1, setAt_2, setAt_3, setAt_4, setAt_5, setAt_6, setAt_7, setAt_8, setAt_9, setAt_10, setAt_11, setAt_12, cells_int, cells_bool, cells_str, cells_nils, cells_nilp, cells_ptr, cells_sl, cells_u8, cells_u16, cells_agg, get_upd_is, Option.isSome_some, upd_upd, ev1_nchkV, ev1_faV, nchkV_ptr, faV_ptr, ev1_extV, extV_tup, eqptr_nil, eqptr_ptr, Nat.zero_add, Nat.add_zero, qPL0, qPL1, qPL2, qPL3, qPL4, qPL5, beq_self_eq_true] at hh
        cases hh
  rw [show St.nil = St.nil.pl [] from rfl]
  simp only [M54, ln, lm, n0, evC_loop, qES0, qES1, qES2, env0, List.length_cons, List.length_nil, Nat.reduceAdd, Nat.reduceSub, List.replicate, List.cons_append, List.nil_append, opd, Env.put, Env.at, List.set_cons_zero, List.set_cons_succ, List.getD_cons_zero, List.getD_cons_succ, freezeL, resVs, oneOr, Option.map_some, Option.map_none, List.map_cons, List.map_nil, if_true, if_false, Bool.not_true, Bool.not_false, Bool.false_eq_true, reduceIte, decide_true, decide_false, Int.reduceLT, Int.reduceLE, Int.reduceGT, Int.reduceGE, Int.reduceEq, Int.reduceBEq, Int.reduceBNe, load_ptr, ldV_some, cellAt_cells, List.getElem?_cons_zero, List.getElem?_cons_succ, store_ptr, stO_some, setAt_0, setAt_1, setAt_2, setAt_3, setAt_4, setAt_5, setAt_6, setAt_7, setAt_8, setAt_9, setAt_10, setAt_11, setAt_12, cells_int, cells_bool, cells_str, cells_nils, cells_nilp, cells_ptr, cells_sl, cells_u8, cells_u16, cells_agg, get_upd_is, Option.isSome_some, upd_upd, ev1_nchkV, ev1_faV, nchkV_ptr, faV_ptr, ev1_extV, extV_tup, eqptr_nil, eqptr_ptr, Nat.zero_add, Nat.add_zero, qPL0, qPL1, qPL2, qPL3, qPL4, qPL5, beq_self_eq_true]
  exact key _ rfl
def hEqT : List AV → St → Option AV
  | [v, w], _ => match toTp v, toTp w with
    | some a, some b => if a = b ∧ a.length ≤ 100 then some (.bool true) else none
    | _, _ => none
  | _, _ => none
theorem puEqT : PureOk (evN 1000) 54 hEqT := pureOk_of (by
  intro args s v hv
  unfold hEqT at hv
  split at hv
  · split at hv
    · rename_i h1 h2
      split at hv
      · rename_i hl
        cases hv
        obtain ⟨rfl, hl⟩ := hl
        obtain ⟨i1, i2⟩ := toTp_of h1
        obtain ⟨i3, i4⟩ := toTp_of h2
        exact ⟨rfl, by simp [flatL, i2, i4], eq_val i1 i3 hl⟩
      · cases hv
    · cases hv
  · cases hv)
/-! All of them. -/
def hLen : List AV → St → Option AV
  | [.str l], _ => if l.length ≤ 900 then some (.int .i64 ((rns l).length : Nat)) else none
  | _, _ => none
def hCut : List AV → St → Option AV
  | [.str l, .int .i64 m], _ => if l.length ≤ 900 then some (.str (cutR l m)) else none
  | _, _ => none
def hPlainN : List AV → St → Option AV
  | [.str l], _ => if l.length ≤ 900 then some (.str (plainR kindOf l)) else none
  | _, _ => none
theorem pureLen {F : Nat} (h : ∀ l : List UInt8, l.length ≤ 900 → valR (evN 1000 F [.str l] St.nil) = some (.int .i64 ((rns l).length : Nat))) : PureOk (evN 1000) F hLen := pureOk_of (by
  intro args s v hv
  unfold hLen at hv
  split at hv
  · split at hv
    · rename_i l hl
      cases hv
      exact ⟨rfl, rfl, h l hl⟩
    · cases hv
  · cases hv)
theorem pureCut {F : Nat} (h : ∀ (l : List UInt8) (m : Int), l.length ≤ 900 → valR (evN 1000 F [.str l, .int .i64 m] St.nil) = some (.str (cutR l m))) : PureOk (evN 1000) F hCut := pureOk_of (by
  intro args s v hv
  unfold hCut at hv
  split at hv
  · split at hv
    · rename_i l m hl
      cases hv
      exact ⟨rfl, rfl, h l m hl⟩
    · cases hv
  · cases hv)
theorem purePlainN {F : Nat} (h : ∀ l : List UInt8, l.length ≤ 900 → valR (evN 1000 F [.str l] St.nil) = some (.str (plainR kindOf l))) : PureOk (evN 1000) F hPlainN := pureOk_of (by
  intro args s v hv
  unfold hPlainN at hv
  split at hv
  · split at hv
    · rename_i l hl
      cases hv
      exact ⟨rfl, rfl, h l hl⟩
    · cases hv
  · cases hv)
theorem puLen : PureOk (evN 1000) 24 hLen := pureLen (fun l hl => by
  obtain ⟨p, hp⟩ := nlen_gen (997 - l.length) l (by omega) St.nil
  rw [show 997 - l.length + l.length + 3 = 1000 by omega] at hp
  rw [hp]; rfl)
theorem puRLen : PureOk (evN 1000) 25 hLen := pureLen (fun l hl => by
  have hp := rlen_gen (997 - l.length) l (by omega) St.nil
  rw [show 997 - l.length + l.length + 3 = 1000 by omega] at hp
  rw [hp]; rfl)
theorem puCut : PureOk (evN 1000) 26 hCut := pureCut (fun l m hl => by
  obtain ⟨p, hp⟩ := ncut_gen (997 - l.length) l m (by omega) St.nil
  rw [show 997 - l.length + l.length + 3 = 1000 by omega] at hp
  rw [hp]; rfl)
theorem puRCut : PureOk (evN 1000) 27 hCut := pureCut (fun l m hl => by
  have hp := rcut_gen (997 - l.length) l m (by omega) St.nil
  rw [show 997 - l.length + l.length + 3 = 1000 by omega] at hp
  rw [hp]; rfl)
theorem puPlainN : PureOk (evN 1000) 28 hPlainN := purePlainN (fun l hl => by
  obtain ⟨s', hp⟩ := nplain_gen (997 - l.length) l (by omega) St.nil
  rw [show 997 - l.length + l.length + 3 = 1000 by omega] at hp
  rw [hp]; rfl)
theorem puRPlainN : PureOk (evN 1000) 29 hPlainN := purePlainN (fun l hl => by
  have hp := rplain_gen (997 - l.length) l (by omega) St.nil
  rw [show 997 - l.length + l.length + 3 = 1000 by omega] at hp
  rw [hp]; rfl)
def lstP (f : Nat) : Option (List AV → St → Option AV) :=
  if f = 24 then some hLen else if f = 25 then some hLen else if f = 26 then some hCut else if f = 27 then some hCut else if f = 28 then some hPlainN else if f = 29 then some hPlainN else if f = 50 then some hFew else if f = 54 then some hEqT else none
noncomputable def extP := extWith extN lstP
theorem extP_ok : ∀ w0, ExtOk Tryd.prog tabGl w0 extP := extOk_addV (tableOf_ok _) mixed tab_flat extN_ok lstP (by
  intro f h hf
  unfold lstP at hf
  rcases some_of hf with ⟨rfl, rfl⟩ | hf
  · exact ⟨by rw [tab24]; rfl, .of 1000 puLen⟩
  rcases some_of hf with ⟨rfl, rfl⟩ | hf
  · exact ⟨by rw [tab25]; rfl, .of 1000 puRLen⟩
  rcases some_of hf with ⟨rfl, rfl⟩ | hf
  · exact ⟨by rw [tab26]; rfl, .of 1000 puCut⟩
  rcases some_of hf with ⟨rfl, rfl⟩ | hf
  · exact ⟨by rw [tab27]; rfl, .of 1000 puRCut⟩
  rcases some_of hf with ⟨rfl, rfl⟩ | hf
  · exact ⟨by rw [tab28]; rfl, .of 1000 puPlainN⟩
  rcases some_of hf with ⟨rfl, rfl⟩ | hf
  · exact ⟨by rw [tab29]; rfl, .of 1000 puRPlainN⟩
  rcases some_of hf with ⟨rfl, rfl⟩ | hf
  · exact ⟨by rw [tab50]; rfl, .of 1000 puFew⟩
  rcases some_of hf with ⟨rfl, rfl⟩ | hf
  · exact ⟨by rw [tab54]; rfl, .of 1000 puEqT⟩
  cases hf)
noncomputable def evP' : Nat → Calls' := evF tabGl (tableOf Tryd.prog) extP
theorem evP'_ok (w0 : World) (k : Nat) : CallOk Tryd.prog tabGl w0 (evP' k) := evF_sound (tableOf_ok _) (extP_ok w0) mixed k
theorem evP'_in {k f : Nat} {m : MFun} (hx : extP f = none) (hF : tableOf Tryd.prog f = some m) (args : List AV) (s : St) :
    evP' (k + 1) f args s = outR m.res (evC tabGl (evP' k) k m.body (env0 m.ntmps args) s) := evF_in hx hF args s
theorem p20 (k : Nat) (s : St) : evP' (k + 1) 20 [] s = some (.bool true, s) := evF_ext (H := hTrue) rfl rfl
theorem p21 (k : Nat) (l : List UInt8) (n : Nat) (s : St) : evP' (k + 1) 21 [.str l, .int .i64 (n : Int)] s = some (.str (l.take n), s) := evF_ext (H := hText) rfl (by
  show (if (0 : Int) ≤ (n : Int) then some (AV.str (l.take ((n : Int)).toNat)) else none) = _
  rw [if_pos (by omega), Int.toNat_natCast])
theorem p22 (k : Nat) (l : List UInt8) (h : l.length ≤ 900) (s : St) : evP' (k + 1) 22 [.str l] s = some (.bool (mayR kindOf l), s) := evF_ext (H := hNick) rfl ((if_pos h).trans (by rw [mayN_R]))
theorem p23 (k : Nat) (l : List UInt8) (h : l.length ≤ 900) (s : St) : evP' (k + 1) 23 [.str l] s = some (.bool (mayR kindOf l), s) := evF_ext (H := hNick) rfl ((if_pos h).trans (by rw [mayN_R]))
theorem p24 (k : Nat) (l : List UInt8) (h : l.length ≤ 900) (s : St) : evP' (k + 1) 24 [.str l] s = some (.int .i64 ((rns l).length : Nat), s) := evF_ext (H := hLen) rfl (if_pos h)
theorem p25 (k : Nat) (l : List UInt8) (h : l.length ≤ 900) (s : St) : evP' (k + 1) 25 [.str l] s = some (.int .i64 ((rns l).length : Nat), s) := evF_ext (H := hLen) rfl (if_pos h)
theorem p26 (k : Nat) (l : List UInt8) (m : Int) (h : l.length ≤ 900) (s : St) : evP' (k + 1) 26 [.str l, .int .i64 m] s = some (.str (cutR l m), s) := evF_ext (H := hCut) rfl (if_pos h)
theorem p27 (k : Nat) (l : List UInt8) (m : Int) (h : l.length ≤ 900) (s : St) : evP' (k + 1) 27 [.str l, .int .i64 m] s = some (.str (cutR l m), s) := evF_ext (H := hCut) rfl (if_pos h)
theorem p28 (k : Nat) (l : List UInt8) (h : l.length ≤ 900) (s : St) : evP' (k + 1) 28 [.str l] s = some (.str (plainR kindOf l), s) := evF_ext (H := hPlainN) rfl (if_pos h)
theorem p29 (k : Nat) (l : List UInt8) (h : l.length ≤ 900) (s : St) : evP' (k + 1) 29 [.str l] s = some (.str (plainR kindOf l), s) := evF_ext (H := hPlainN) rfl (if_pos h)
theorem p30 (k : Nat) (r : Int) (s : St) : evP' (k + 1) 30 [.int .i32 r] s = some (.int .i64 (kindOf r), s) := evF_ext (H := hKind32) rfl rfl
theorem p31 (k : Nat) (r : Int) (s : St) : evP' (k + 1) 31 [.int .i64 r] s = some (.int .i64 (kindOf r), s) := evF_ext (H := hKindI) rfl rfl
theorem p50 (k : Nat) {v : AV} {l : List Tp} (h : IsTp v l) (s : St) : evP' (k + 1) 50 [v] s = some (tpV (cutT 45 (l.take 8)), s) := evF_ext (H := hFew) rfl (by
  simp only [List.map_cons, List.map_nil, hFew, toTp_is h, Option.map_some])
theorem p51 (k : Nat) {v : AV} {l : List Tp} (h : IsTp v l) (hl : l.length ≤ 100) (s : St) : evP' (k + 1) 51 [v] s = some (.tup [.str (if putOk l then encL l else []), .bool (decide (putOk l))], s) := evF_ext (H := hTPut) rfl (by
  simp only [List.map_cons, List.map_nil, hTPut, toTp_is h]; rw [if_pos hl])
theorem p52 (k : Nat) {v : AV} {l : List Tp} (h : IsTp v l) (hl : l.length ≤ 100) (s : St) : evP' (k + 1) 52 [v] s = some (.tup [.str (if putOk l then encL l else []), .bool (decide (putOk l))], s) := evF_ext (H := hTPut) rfl (by
  simp only [List.map_cons, List.map_nil, hTPut, toTp_is h]; rw [if_pos hl])
theorem p53 (k : Nat) (t : List UInt8) (s : St) : evP' (k + 1) 53 [.str t] s = some (getV (getL t), s) := evF_ext (H := hTGet) rfl rfl
theorem p72 (k : Nat) (t : List UInt8) (s : St) : evP' (k + 1) 72 [.str t] s = some (getV (getL t), s) := evF_ext (H := hTGet) rfl rfl
theorem p55 (k : Nat) {v : AV} {l : List Tp} (h : IsTp v l) (hl : l.length ≤ 100) (id : Int) (s : St) : evP' (k + 1) 55 [v, .int .i64 id] s = some (findV (findT id l), s) := evF_ext (H := hFind) rfl (by
  simp only [List.map_cons, List.map_nil, hFind, toTp_is h, dry1_int]; rw [if_pos hl])
theorem p54 (k : Nat) {v w : AV} {l : List Tp} (h : IsTp v l) (g : IsTp w l) (hl : l.length ≤ 100) (s : St) : evP' (k + 1) 54 [v, w] s = some (.bool true, s) := evF_ext (H := hEqT) rfl (by
  simp only [List.map_cons, List.map_nil, hEqT, toTp_is h, toTp_is g]; rw [if_pos ⟨trivial, hl⟩])
end Go.Proofs.YthcblggiojpmcaaDoor
