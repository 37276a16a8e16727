/- tuple.Put and the document's, as the evaluator answers them. No conditions. -/
import Derived.Test.YtbeimfhodgmjhaaDoorTup
import Derived.Test.YtbeimfhodgmjhaaDoorM8b
set_option linter.unusedSimpArgs false
set_option linter.unusedVariables false
set_option maxRecDepth 100000
set_option maxHeartbeats 4000000
namespace Go.Proofs.YtbeimfhodgmjhaaDoor
open Go Go.Ab
def E41 (v : AV) (n : Nat) (acc : AV) (i : Int) : Env := [.undef, .undef, .undef, .undef, acc, .undef, .undef, v, .int .i64 (n : Nat), .int .i64 i, .undef, .undef, .undef, .undef, .undef, .undef, .undef, .undef, .undef, .undef, .undef, .undef, .undef, .undef, .undef, .undef, .undef, .undef, .undef, .undef, .undef, .undef, .undef, .undef, .undef, .undef, .undef, .undef, .undef, .undef, .undef, .undef, .undef, .undef, .undef, .undef]
theorem encL_le (l : List Tp) (h : ∀ t ∈ l, okT t) : (encL l).length ≤ 42 * l.length := by
  induction l with
  | nil => simp [encL]
  | cons t l ih =>
    have h1 := (h t (by simp)).2.2
    have h2 := ih (fun t ht => h t (by simp [ht]))
    simp only [encL, List.flatMap_cons, List.length_append, encT, List.length_cons] at h2 ⊢
    omega
section
variable {v : AV} {l : List Tp} (h : IsTp v l)
include h
theorem put_round (k : Nat) (i : Nat) (hi : i < l.length) (hl : l.length ≤ 100) (S : St) (acc : AV) (ha : Own St.nil S acc (encL (l.take i))) (he : Ext St.nil S) (hok : ∀ t ∈ l.take i, okT t) :
    (okT l[i] ∧ ∃ e' S' acc', evC tabGl (evT k) k M41b0 (E41 v l.length acc i) S = some (.nrm, e', S') ∧ maskE M41b0l e' = E41 v l.length acc' ((i + 1 : Nat) : Int) ∧ Own St.nil S' acc' (encL (l.take (i + 1))) ∧ Ext St.nil S') ∨
    (¬ okT l[i] ∧ ∃ e' S', evC tabGl (evT k) k M41b0 (E41 v l.length acc i) S = some (.ret, e', S') ∧ e'.getD 2 .undef = .str [] ∧ e'.getD 3 .undef = .bool false) := by
  obtain ⟨r, hr⟩ := h.ixa i hi
  obtain ⟨⟨id, val⟩, hx⟩ : ∃ t, l[i] = t := ⟨_, rfl⟩
  rw [hx] at hr ⊢
  have d0 : decide ((i : Int) < (l.length : Nat)) = true := decide_eq_true (by omega)
  have w1 : IntKind.i64.wrap ((i : Int) + 1) = ((i + 1 : Nat) : Int) := (wrapI _ (by omega) (by omega)).trans (by omega)
  have c2 : Ab.cut (.int .i64 id :: .str val :: r) 0 (some 2) = some (.agg [.int .i64 id, .str val]) := by simp [Ab.cut]
  rw [show S = S.pl [] from rfl]
  by_cases hk : okT (id, val)
  · left
    have hk' := hk
    obtain ⟨k1, k2, k3⟩ := hk
    simp only at k1 k2 k3
    have e1 : decide (id < 0) = false := decide_eq_false (by omega)
    have e2 : decide (id > 255) = false := decide_eq_false (by omega)
    have e3 : decide ((val.length : Int) > 40) = false := decide_eq_false (by omega)
    have b1 := u8of id k1 k2
    have b2 := u8of (val.length : Int) (by omega) (by omega)
    rw [Int.toNat_natCast] at b2
    have hle := encL_le _ hok
    simp only [List.length_take] at hle
    have e0 : Ext St.nil (S.pl [.cells 0 [.int .i64 id, .str val], .tick 1 0]) := he.trans (pl_ext S _)
    obtain ⟨z1, S1, a1, a2, a3, a4⟩ := (ha.ext (pl_ext S [.cells 0 [.int .i64 id, .str val], .tick 1 0])).appK (y := .sl [u8v (UInt8.ofNat id.toNat), u8v (UInt8.ofNat val.length)] 2 (some (S.next + 1, 0, 1))) (ys := [UInt8.ofNat id.toNat, UInt8.ofNat val.length]) rfl e0 (by simp; omega)
    have g1 : S1.get S.next = some (.cells 0 [.int .i64 id, .str val]) := a4.2 _ _ _ (by rw [pl_next]; simp) (plg0 _ _ _)
    obtain ⟨z2, S2, f1, f2, f3, f4⟩ := a2.appK (news_str S1 val) a3 (by simp; omega)
    have g2 : S2.get S.next = some (.cells 0 [.int .i64 id, .str val]) := f4.2 _ _ _ (by have := a4.1; rw [pl_next] at this; simp at this; omega) g1
    have ee : encL (l.take (i + 1)) = encL (l.take i) ++ [UInt8.ofNat id.toNat, UInt8.ofNat val.length] ++ val := by
      rw [encL_succ l i hi, hx]; simp [encT]
    refine ⟨hk', ?_⟩
    rw [ee]
    simp only [M41b0, E41, hr, c2, d0, e1, e2, e3, b1, b2, w1, a1, f1, g1, g2, conv_int, loadR_rp, qES0, qES1, qES2, env0, List.length_cons, List.length_nil, Nat.reduceAdd, Nat.reduceSub, List.replicate, List.cons_append, List.nil_append, opd, Env.put, Env.at, List.set_cons_zero, List.set_cons_succ, List.getD_cons_zero, List.getD_cons_succ, freezeL, resVs, oneOr, Option.map_some, Option.map_none, List.map_cons, List.map_nil, if_true, if_false, Bool.not_true, Bool.not_false, Bool.false_eq_true, reduceIte, decide_true, decide_false, Int.reduceLT, Int.reduceLE, Int.reduceGT, Int.reduceGE, Int.reduceEq, Int.reduceBEq, Int.reduceBNe, load_ptr, ldV_some, cellAt_cells, List.getElem?_cons_zero, List.getElem?_cons_succ, store_ptr, stO_some, setAt_0, setAt_1, setAt_2, setAt_3, setAt_4, setAt_5, setAt_6, setAt_7, setAt_8, setAt_9, setAt_10, setAt_11, setAt_12, cells_int, cells_bool, cells_str, cells_nils, cells_nilp, cells_ptr, cells_sl, cells_u8, cells_u16, cells_agg, get_upd_is, Option.isSome_some, upd_upd, ev1_nchkV, ev1_faV, nchkV_ptr, faV_ptr, ev1_extV, extV_tup, eqptr_nil, eqptr_ptr, Nat.zero_add, Nat.add_zero, qPL0, qPL1, qPL2, qPL3, qPL4, qPL5, beq_self_eq_true, qED0, qED1, placeR]
    rw [drawR_ok]; case h => simp (config := { decide := true }) [calm, calmPair, calmTwo, List.range, List.range.loop, sameO_refl, plg0, g1, g2]
    simp only [w1, qES0, qES1, qES2, env0, List.length_cons, List.length_nil, Nat.reduceAdd, Nat.reduceSub, List.replicate, List.cons_append, List.nil_append, opd, Env.put, Env.at, List.set_cons_zero, List.set_cons_succ, List.getD_cons_zero, List.getD_cons_succ, freezeL, resVs, oneOr, Option.map_some, Option.map_none, List.map_cons, List.map_nil, if_true, if_false, Bool.not_true, Bool.not_false, Bool.false_eq_true, reduceIte, decide_true, decide_false, Int.reduceLT, Int.reduceLE, Int.reduceGT, Int.reduceGE, Int.reduceEq, Int.reduceBEq, Int.reduceBNe, load_ptr, ldV_some, cellAt_cells, List.getElem?_cons_zero, List.getElem?_cons_succ, store_ptr, stO_some, setAt_0, setAt_1, setAt_2, setAt_3, setAt_4, setAt_5, setAt_6, setAt_7, setAt_8, setAt_9, setAt_10, setAt_11, setAt_12, cells_int, cells_bool, cells_str, cells_nils, cells_nilp, cells_ptr, cells_sl, cells_u8, cells_u16, cells_agg, get_upd_is, Option.isSome_some, upd_upd, ev1_nchkV, ev1_faV, nchkV_ptr, faV_ptr, ev1_extV, extV_tup, eqptr_nil, eqptr_ptr, Nat.zero_add, Nat.add_zero, qPL0, qPL1, qPL2, qPL3, qPL4, qPL5, beq_self_eq_true, qED0, qED1, placeR]
    exact ⟨_, _, _, rfl, rfl, f2, f3⟩
  · right
    refine ⟨hk, ?_⟩
    have hk' : id < 0 ∨ id > 255 ∨ (val.length : Int) > 40 := by
      unfold okT at hk; simp only at hk; omega
    by_cases e1 : id < 0
    · have e1 := decide_eq_true e1
      simp only [M41b0, E41, hr, c2, d0, e1, loadR_rp, qES0, qES1, qES2, env0, List.length_cons, List.length_nil, Nat.reduceAdd, Nat.reduceSub, List.replicate, List.cons_append, List.nil_append, opd, Env.put, Env.at, List.set_cons_zero, List.set_cons_succ, List.getD_cons_zero, List.getD_cons_succ, freezeL, resVs, oneOr, Option.map_some, Option.map_none, List.map_cons, List.map_nil, if_true, if_false, Bool.not_true, Bool.not_false, Bool.false_eq_true, reduceIte, decide_true, decide_false, Int.reduceLT, Int.reduceLE, Int.reduceGT, Int.reduceGE, Int.reduceEq, Int.reduceBEq, Int.reduceBNe, load_ptr, ldV_some, cellAt_cells, List.getElem?_cons_zero, List.getElem?_cons_succ, store_ptr, stO_some, setAt_0, setAt_1, setAt_2, setAt_3, setAt_4, setAt_5, setAt_6, setAt_7, setAt_8, setAt_9, setAt_10, setAt_11, setAt_12, cells_int, cells_bool, cells_str, cells_nils, cells_nilp, cells_ptr, cells_sl, cells_u8, cells_u16, cells_agg, get_upd_is, Option.isSome_some, upd_upd, ev1_nchkV, ev1_faV, nchkV_ptr, faV_ptr, ev1_extV, extV_tup, eqptr_nil, eqptr_ptr, Nat.zero_add, Nat.add_zero, qPL0, qPL1, qPL2, qPL3, qPL4, qPL5, beq_self_eq_true, qED0, qED1, placeR]
      exact ⟨_, _, rfl, rfl, rfl⟩
    · have e1' := decide_eq_false e1
      by_cases e2 : id > 255
      · have e2 := decide_eq_true e2
        simp only [M41b0, E41, hr, c2, d0, e1', e2, loadR_rp, qES0, qES1, qES2, env0, List.length_cons, List.length_nil, Nat.reduceAdd, Nat.reduceSub, List.replicate, List.cons_append, List.nil_append, opd, Env.put, Env.at, List.set_cons_zero, List.set_cons_succ, List.getD_cons_zero, List.getD_cons_succ, freezeL, resVs, oneOr, Option.map_some, Option.map_none, List.map_cons, List.map_nil, if_true, if_false, Bool.not_true, Bool.not_false, Bool.false_eq_true, reduceIte, decide_true, decide_false, Int.reduceLT, Int.reduceLE, Int.reduceGT, Int.reduceGE, Int.reduceEq, Int.reduceBEq, Int.reduceBNe, load_ptr, ldV_some, cellAt_cells, List.getElem?_cons_zero, List.getElem?_cons_succ, store_ptr, stO_some, setAt_0, setAt_1, setAt_2, setAt_3, setAt_4, setAt_5, setAt_6, setAt_7, setAt_8, setAt_9, setAt_10, setAt_11, setAt_12, cells_int, cells_bool, cells_str, cells_nils, cells_nilp, cells_ptr, cells_sl, cells_u8, cells_u16, cells_agg, get_upd_is, Option.isSome_some, upd_upd, ev1_nchkV, ev1_faV, nchkV_ptr, faV_ptr, ev1_extV, extV_tup, eqptr_nil, eqptr_ptr, Nat.zero_add, Nat.add_zero, qPL0, qPL1, qPL2, qPL3, qPL4, qPL5, beq_self_eq_true, qED0, qED1, placeR]
        exact ⟨_, _, rfl, rfl, rfl⟩
      · have e2' := decide_eq_false e2
        have e3 : decide ((val.length : Int) > 40) = true := decide_eq_true (by omega)
        simp only [M41b0, E41, hr, c2, d0, e1', e2', e3, loadR_rp, qES0, qES1, qES2, env0, List.length_cons, List.length_nil, Nat.reduceAdd, Nat.reduceSub, List.replicate, List.cons_append, List.nil_append, opd, Env.put, Env.at, List.set_cons_zero, List.set_cons_succ, List.getD_cons_zero, List.getD_cons_succ, freezeL, resVs, oneOr, Option.map_some, Option.map_none, List.map_cons, List.map_nil, if_true, if_false, Bool.not_true, Bool.not_false, Bool.false_eq_true, reduceIte, decide_true, decide_false, Int.reduceLT, Int.reduceLE, Int.reduceGT, Int.reduceGE, Int.reduceEq, Int.reduceBEq, Int.reduceBNe, load_ptr, ldV_some, cellAt_cells, List.getElem?_cons_zero, List.getElem?_cons_succ, store_ptr, stO_some, setAt_0, setAt_1, setAt_2, setAt_3, setAt_4, setAt_5, setAt_6, setAt_7, setAt_8, setAt_9, setAt_10, setAt_11, setAt_12, cells_int, cells_bool, cells_str, cells_nils, cells_nilp, cells_ptr, cells_sl, cells_u8, cells_u16, cells_agg, get_upd_is, Option.isSome_some, upd_upd, ev1_nchkV, ev1_faV, nchkV_ptr, faV_ptr, ev1_extV, extV_tup, eqptr_nil, eqptr_ptr, Nat.zero_add, Nat.add_zero, qPL0, qPL1, qPL2, qPL3, qPL4, qPL5, beq_self_eq_true, qED0, qED1, placeR]
        exact ⟨_, _, rfl, rfl, rfl⟩
theorem put_val (hl : l.length ≤ 100) : valR (evT 1000 41 [v] St.nil) = some (.tup [.str (if putOk l then encL l else []), .bool (decide (putOk l))]) := by
  rw [show (1000 : Nat) = 999 + 1 from rfl, evT_in rfl tab41]
  have ln := h.len
  have key : ∀ e, maskE M41b0l e = E41 v l.length .nils 0 → valR (outR M41.res (seqR (blockR 0 (iter (evC tabGl (evT 999) 999 M41b0) M41b0l 999 e St.nil)) (evC tabGl (evT 999) 999 M41r0))) = some (.tup [.str (if putOk l then encL l else []), .bool (decide (putOk l))]) := by
    intro e he
    refine iter_leave (evC tabGl (evT 999) 999 M41b0) M41b0l (fun i e st => ∃ acc, maskE M41b0l e = E41 v l.length acc (i : Int) ∧ Own St.nil st acc (encL (l.take i)) ∧ Ext St.nil st ∧ ∀ t ∈ l.take i, okT t)
      (fun out => valR (outR M41.res (seqR (blockR 0 out) (evC tabGl (evT 999) 999 M41r0))) = some (.tup [.str (if putOk l then encL l else []), .bool (decide (putOk l))])) l.length ?_ ?_ l.length 0 _ _ 999 (by omega) ⟨.nils, he, by simpa [encL] using Own.nil _ _, Ext.refl _, by simp⟩ (by omega)
    · rintro i e st hi ⟨acc, h1, h2, h3, h4⟩
      rw [h1]
      rcases put_round h 999 i hi hl st acc h2 h3 h4 with ⟨k1, e', S', acc', k2, k3, k4, k5⟩ | ⟨k1, e', S', k2, k3, k4⟩
      · left
        refine ⟨e', S', k2, acc', k3, k4, k5, fun t ht => ?_⟩
        rw [List.take_succ_eq_append_getElem hi] at ht
        rcases List.mem_append.1 ht with ht | ht
        · exact h4 t ht
        · rw [List.mem_singleton.1 ht]; exact k1
      · right
        rw [k2]
        have hn : ¬ putOk l := fun hh => k1 (hh.1 _ (List.getElem_mem hi))
        rw [if_neg hn, decide_eq_false hn]
        refine ⟨?_, fun _ _ h => by cases h⟩
        simp only [M41, k3, k4, qES0, qES1, qES2, env0, List.length_cons, List.length_nil, Nat.reduceAdd, Nat.reduceSub, List.replicate, List.cons_append, List.nil_append, opd, Env.put, Env.at, List.set_cons_zero, List.set_cons_succ, List.getD_cons_zero, List.getD_cons_succ, freezeL, resVs, oneOr, Option.map_some, Option.map_none, List.map_cons, List.map_nil, if_true, if_false, Bool.not_true, Bool.not_false, Bool.false_eq_true, reduceIte, decide_true, decide_false, Int.reduceLT, Int.reduceLE, Int.reduceGT, Int.reduceGE, Int.reduceEq, Int.reduceBEq, Int.reduceBNe, load_ptr, ldV_some, cellAt_cells, List.getElem?_cons_zero, List.getElem?_cons_succ, store_ptr, stO_some, setAt_0, setAt_1, setAt_2, setAt_3, setAt_4, setAt_5, setAt_6, setAt_7, setAt_8, setAt_9, setAt_10, setAt_11, setAt_12, cells_int, cells_bool, cells_str, cells_nils, cells_nilp, cells_ptr, cells_sl, cells_u8, cells_u16, cells_agg, get_upd_is, Option.isSome_some, upd_upd, ev1_nchkV, ev1_faV, nchkV_ptr, faV_ptr, ev1_extV, extV_tup, eqptr_nil, eqptr_ptr, Nat.zero_add, Nat.add_zero, qPL0, qPL1, qPL2, qPL3, qPL4, qPL5, beq_self_eq_true]
    · rintro e st ⟨acc, h1, h2, h3, h4⟩
      rw [h1]
      rw [List.take_length] at h2 h4
      have d0 : decide (((l.length : Nat) : Int) < ((l.length : Nat) : Int)) = false := decide_eq_false (by omega)
      have al := h2.bys.len
      have ac := h2.bys.str
      refine ⟨?_, fun e' s' hh => ?_⟩
      · by_cases g : (encL l).length ≤ 64
        · have hp : putOk l := ⟨h4, g⟩
          rw [if_pos hp, decide_eq_true hp]
          have d1 : decide (((encL l).length : Int) > 64) = false := decide_eq_false (by omega)
          simp only [M41, M41r0, M41b0, E41, d0, d1, al, ac, qES0, qES1, qES2, env0, List.length_cons, List.length_nil, Nat.reduceAdd, Nat.reduceSub, List.replicate, List.cons_append, List.nil_append, opd, Env.put, Env.at, List.set_cons_zero, List.set_cons_succ, List.getD_cons_zero, List.getD_cons_succ, freezeL, resVs, oneOr, Option.map_some, Option.map_none, List.map_cons, List.map_nil, if_true, if_false, Bool.not_true, Bool.not_false, Bool.false_eq_true, reduceIte, decide_true, decide_false, Int.reduceLT, Int.reduceLE, Int.reduceGT, Int.reduceGE, Int.reduceEq, Int.reduceBEq, Int.reduceBNe, load_ptr, ldV_some, cellAt_cells, List.getElem?_cons_zero, List.getElem?_cons_succ, store_ptr, stO_some, setAt_0, setAt_1, setAt_2, setAt_3, setAt_4, setAt_5, setAt_6, setAt_7, setAt_8, setAt_9, setAt_10, setAt_11, setAt_12, cells_int, cells_bool, cells_str, cells_nils, cells_nilp, cells_ptr, cells_sl, cells_u8, cells_u16, cells_agg, get_upd_is, Option.isSome_some, upd_upd, ev1_nchkV, ev1_faV, nchkV_ptr, faV_ptr, ev1_extV, extV_tup, eqptr_nil, eqptr_ptr, Nat.zero_add, Nat.add_zero, qPL0, qPL1, qPL2, qPL3, qPL4, qPL5, beq_self_eq_true]
        · have hp : ¬ putOk l := fun hh => g hh.2
          rw [if_neg hp, decide_eq_false hp]
          have d1 : decide (((encL l).length : Int) > 64) = true := decide_eq_true (by omega)
          simp only [M41, M41r0, M41b0, E41, d0, d1, al, ac, qES0, qES1, qES2, env0, List.length_cons, List.length_nil, Nat.reduceAdd, Nat.reduceSub, List.replicate, List.cons_append, List.nil_append, opd, Env.put, Env.at, List.set_cons_zero, List.set_cons_succ, List.getD_cons_zero, List.getD_cons_succ, freezeL, resVs, oneOr, Option.map_some, Option.map_none, List.map_cons, List.map_nil, if_true, if_false, Bool.not_true, Bool.not_false, Bool.false_eq_true, reduceIte, decide_true, decide_false, Int.reduceLT, Int.reduceLE, Int.reduceGT, Int.reduceGE, Int.reduceEq, Int.reduceBEq, Int.reduceBNe, load_ptr, ldV_some, cellAt_cells, List.getElem?_cons_zero, List.getElem?_cons_succ, store_ptr, stO_some, setAt_0, setAt_1, setAt_2, setAt_3, setAt_4, setAt_5, setAt_6, setAt_7, setAt_8, setAt_9, setAt_10, setAt_11, setAt_12, cells_int, cells_bool, cells_str, cells_nils, cells_nilp, cells_ptr, cells_sl, cells_u8, cells_u16, cells_agg, get_upd_is, Option.isSome_some, upd_upd, ev1_nchkV, ev1_faV, nchkV_ptr, faV_ptr, ev1_extV, extV_tup, eqptr_nil, eqptr_ptr, Nat.zero_add, Nat.add_zero, qPL0, qPL1, qPL2, qPL3, qPL4, qPL5, beq_self_eq_true]
      · simp only [M41b0, E41, d0, qES0, qES1, qES2, env0, List.length_cons, List.length_nil, Nat.reduceAdd, Nat.reduceSub, List.replicate, List.cons_append, List.nil_append, opd, Env.put, Env.at, List.set_cons_zero, List.set_cons_succ, List.getD_cons_zero, List.getD_cons_succ, freezeL, resVs, oneOr, Option.map_some, Option.map_none, List.map_cons, List.map_nil, if_true, if_false, Bool.not_true, Bool.not_false, Bool.false_eq_true, reduceIte, decide_true, decide_false, Int.reduceLT, Int.reduceLE, Int.reduceGT, Int.reduceGE, Int.reduceEq, Int.reduceBEq, Int.reduceBNe, load_ptr, ldV_some, cellAt_cells, List.getElem?_cons_zero, List.getElem?_cons_succ, store_ptr, stO_some, setAt_0, setAt_1, setAt_2, setAt_3, setAt_4, setAt_5, setAt_6, setAt_7, setAt_8, setAt_9, setAt_10, setAt_11, setAt_12, cells_int, cells_bool, cells_str, cells_nils, cells_nilp, cells_ptr, cells_sl, cells_u8, cells_u16, cells_agg, get_upd_is, Option.isSome_some, upd_upd, ev1_nchkV, ev1_faV, nchkV_ptr, faV_ptr, ev1_extV, extV_tup, eqptr_nil, eqptr_ptr, Nat.zero_add, Nat.add_zero, qPL0, qPL1, qPL2, qPL3, qPL4, qPL5, beq_self_eq_true] at hh
        cases hh
  simp only [M41, ln, evC_loop, qES0, qES1, qES2, env0, List.length_cons, List.length_nil, Nat.reduceAdd, Nat.reduceSub, List.replicate, List.cons_append, List.nil_append, opd, Env.put, Env.at, List.set_cons_zero, List.set_cons_succ, List.getD_cons_zero, List.getD_cons_succ, freezeL, resVs, oneOr, Option.map_some, Option.map_none, List.map_cons, List.map_nil, if_true, if_false, Bool.not_true, Bool.not_false, Bool.false_eq_true, reduceIte, decide_true, decide_false, Int.reduceLT, Int.reduceLE, Int.reduceGT, Int.reduceGE, Int.reduceEq, Int.reduceBEq, Int.reduceBNe, load_ptr, ldV_some, cellAt_cells, List.getElem?_cons_zero, List.getElem?_cons_succ, store_ptr, stO_some, setAt_0, setAt_1, setAt_2, setAt_3, setAt_4, setAt_5, setAt_6, setAt_7, setAt_8, setAt_9, setAt_10, setAt_11, setAt_12, cells_int, cells_bool, cells_str, cells_nils, cells_nilp, cells_ptr, cells_sl, cells_u8, cells_u16, cells_agg, get_upd_is, Option.isSome_some, upd_upd, ev1_nchkV, ev1_faV, nchkV_ptr, faV_ptr, ev1_extV, extV_tup, eqptr_nil, eqptr_ptr, Nat.zero_add, Nat.add_zero, qPL0, qPL1, qPL2, qPL3, qPL4, qPL5, beq_self_eq_true]
  exact key _ rfl
end
end Go.Proofs.YtbeimfhodgmjhaaDoor
