/- tuple.Put and the document's, as the evaluator answers them. No conditions. -/
import Derived.Test.YthcblggiojpmcaaDoorTup
import Derived.Test.YthcblggiojpmcaaDoorM4n
set_option linter.unusedSimpArgs false
set_option linter.unusedVariables false
set_option maxRecDepth 100000
set_option maxHeartbeats 4000000
namespace Go.Proofs.YthcblggiojpmcaaDoor
open Go Go.Ab
def E41 (v : AV) (n : Nat) (acc : AV) (i : Int) : Env := [.undef, .undef, .undef, .undef, acc, .undef, .undef, v, .int .i64 (n : Nat), .int .i64 i, .undef, .undef, .undef, .undef, .undef, .undef, .undef, .undef, .undef, .undef, .undef, .undef, .undef, .undef, .undef, .undef, .undef, .undef, .undef, .undef, .undef, .undef, .undef, .undef, .undef, .undef, .undef, .undef, .undef, .undef, .undef, .undef, .undef, .undef, .undef, .undef]
theorem encL_le (l : List Tp) (h : ∀ t ∈ l, okT t) : (encL l).length ≤ 42 * l.length := by
  induction l with
  | nil => simp [encL]
  | cons t l ih =>
    have h1 := (h t (by simp)).2.2
    have h2 := ih (fun t ht => h t (by simp [ht]))
    simp only [encL, List.flatMap_cons, List.length_append, encT, List.length_cons] at h2 ⊢
    omega
section
variable {v : AV} {l : List Tp} (h : IsTp v l)
include h
theorem put_round (k : Nat) (i : Nat) (hi : i < l.length) (hl : l.length ≤ 100) (S : St) (acc : AV) (ha : Own St.nil S acc (encL (l.take i))) (he : Ext St.nil S) (hok : ∀ t ∈ l.take i, okT t) :
    (okT l[i] ∧ ∃ e' S' acc', evC tabGl (evT k) k M51b0 (E41 v l.length acc i) S = some (.nrm, e', S') ∧ maskE M51b0l e' = E41 v l.length acc' ((i + 1 : Nat) : Int) ∧ Own St.nil S' acc' (encL (l.take (i + 1))) ∧ Ext St.nil S') ∨
    (¬ okT l[i] ∧ ∃ e' S', evC tabGl (evT k) k M51b0 (E41 v l.length acc i) S = some (.ret, e', S') ∧ e'.getD 2 .undef = .str [] ∧ e'.getD 3 .undef = .bool false) := by
  obtain ⟨r, hr⟩ := h.ixa i hi
  obtain ⟨⟨id, val⟩, hx⟩ : ∃ t, l[i] = t := ⟨_, rfl⟩
  rw [hx] at hr ⊢
  have d0 : decide ((i : Int) < (l.length : Nat)) = true := decide_eq_true (by omega)
  have w1 : IntKind.i64.wrap ((i : Int) + 1) = ((i + 1 : Nat) : Int) := (wrapI _ (by omega) (by omega)).trans (by omega)
  have c2 : Ab.cut (.int .i64 id :: .str val :: r) 0 (some 2) = some (.agg [.int .i64 id, .str val]) := by simp [Ab.cut]
  rw [show S = S.pl [] from rfl]
  by_cases hk : okT (id, val)
  · left
    have hk' := hk
    obtain ⟨k1, k2, k3⟩ := hk
    simp only at k1 k2 k3
    have e1 : decide (id < 0) = false := decide_eq_false (by omega)
    have e2 : decide (id > 255) = false := decide_eq_false (by omega)
    have e3 : decide ((val.length : Int) > 40) = false := decide_eq_false (by omega)
    have b1 := u8of id k1 k2
    have b2 := u8of (val.length : Int) (by omega) (by omega)
    rw [Int.toNat_natCast] at b2
    have hle := encL_le _ hok
    simp only [List.length_take] at hle
    have e0 : Ext St.nil (S.pl [.cells 0 [.int .i64 id, .str val], .tick 1 0]) := he.trans (pl_ext S _)
    obtain ⟨z1, S1, a1, a2, a3, a4⟩ := (ha.ext (pl_ext S [.cells 0 [.int .i64 id, .str val], .tick 1 0])).appK (y := .sl [u8v (UInt8.ofNat id.toNat), u8v (UInt8.ofNat val.length)] 2 (some (S.next + 1, 0, 1))) (ys := [UInt8.ofNat id.toNat, UInt8.ofNat val.length]) rfl e0 (by simp; omega)
    have g1 : S1.get S.next = some (.cells 0 [.int .i64 id, .str val]) := a4.2 _ _ _ (by rw [pl_next]; simp) (plg0 _ _ _)
    obtain ⟨z2, S2, f1, f2, f3, f4⟩ := a2.appK (news_str S1 val) a3 (by simp; omega)
    have g2 : S2.get S.next = some (.cells 0 [.int .i64 id, .str val]) := f4.2 _ _ _ (by have := a4.1; rw [pl_next] at this; simp at this; omega) g1
    have ee : encL (l.take (i + 1)) = encL (l.take i) ++ [UInt8.ofNat id.toNat, UInt8.ofNat val.length] ++ val := by
      rw [encL_succ l i hi, hx]; simp [encT]
    refine ⟨hk', ?_⟩
    rw [ee]
    simp only [M51b0, E41, hr, c2, d0, e1, e2, e3, b1, b2, w1, a1, f1, g1, g2, conv_int, loadR_rp, qES0, qES1, qES2, env0, List.length_cons, List.length_nil, Nat.reduceAdd, Nat.reduceSub, List.replicate, List.cons_append, List.nil_append, opd, Env.put, Env.at, List.set_cons_zero, List.set_cons_succ, List.getD_cons_zero, List.getD_cons_succ, freezeL, resVs, oneOr, Option.map_some, Option.map_none, List.map_cons, List.map_nil, if_true, if_false, Bool.not_true, Bool.not_false, Bool.false_eq_true, reduceIte, decide_true, decide_false, Int.reduceLT, Int.reduceLE, Int.reduceGT, Int.reduceGE, Int.reduceEq, Int.reduceBEq, Int.reduceBNe, load_ptr, ldV_some, cellAt_cells, List.getElem?_cons_zero, List.getElem?_cons_succ, store_ptr, stO_some, setAt_0, setAt_1, setAt_2, setAt_3, setAt_4, setAt_5, setAt_6, setAt_7, setAt_8, setAt_9, setAt_10, setAt_11, setAt_12, cells_int, cells_bool, cells_str, cells_nils, cells_nilp, cells_ptr, cells_sl, cells_u8, cells_u16, cells_agg, get_upd_is, Option.isSome_some, upd_upd, ev1_nchkV, ev1_faV, nchkV_ptr, faV_ptr, ev1_extV, extV_tup, eqptr_nil, eqptr_ptr, Nat.zero_add, Nat.add_zero, qPL0, qPL1, qPL2, qPL3, qPL4, qPL5, beq_self_eq_true, qED0, qED1, placeR]
    rw [drawR_ok]; case h => simp (config := { decide := true }) [calm, calmPair, calmTwo, List.range, List.range.loop, sameO_refl, plg0, g1, g2]
    simp only [w1, qES0, qES1, qES2, env0, List.length_cons, List.length_nil, Nat.reduceAdd, Nat.reduceSub, List.replicate, List.cons_append, List.nil_append, opd, Env.put, Env.at, List.set_cons_zero, List.set_cons_succ, List.getD_cons_zero, List.getD_cons_succ, freezeL, resVs, oneOr, Option.map_some, Option.map_none, List.map_cons, List.map_nil, if_true, if_false, Bool.not_true, Bool.not_false, Bool.false_eq_true, reduceIte, decide_true, decide_false, Int.reduceLT, Int.reduceLE, Int.reduceGT, Int.reduceGE, Int.reduceEq, Int.reduceBEq, Int.reduceBNe, load_ptr, ldV_some, cellAt_cells, List.getElem?_cons_zero, List.getElem?_cons_succ, store_ptr, stO_some, setAt_0, setAt_1, setAt_2, setAt_3, setAt_4, setAt_5, setAt_6, setAt_7, setAt_8, setAt_9, setAt_10, setAt_11, setAt_12, cells_int, cells_bool, cells_str, cells_nils, cells_nilp, cells_ptr, cells_sl, cells_u8, cells_u16, cells_agg, get_upd_is, Option.isSome_some, upd_upd, ev1_nchkV, ev1_faV, nchkV_ptr, faV_ptr, ev1_extV, extV_tup, eqptr_nil, eqptr_ptr, Nat.zero_add, Nat.add_zero, qPL0, qPL1, qPL2, qPL3, qPL4, qPL5, beq_self_eq_true, qED0, qED1, placeR]
    exact ⟨_, _, _, rfl, rfl, f2, f3⟩
  · right
    refine ⟨hk, ?_⟩
    have hk' : id < 0 ∨ id > 255 ∨ (val.length : Int) > 40 := by
      unfold okT at hk; simp only at hk; omega
    by_cases e1 : id < 0
    · have e1 := decide_eq_true e1
      simp only [M51b0, E41, hr, c2, d0, e1, loadR_rp, qES0, qES1, qES2, env0, List.length_cons, List.length_nil, Nat.reduceAdd, Nat.reduceSub, List.replicate, List.cons_append, List.nil_append, opd, Env.put, Env.at, List.set_cons_zero, List.set_cons_succ, List.getD_cons_zero, List.getD_cons_succ, freezeL, resVs, oneOr, Option.map_some, Option.map_none, List.map_cons, List.map_nil, if_true, if_false, Bool.not_true, Bool.not_false, Bool.false_eq_true, reduceIte, decide_true, decide_false, Int.reduceLT, Int.reduceLE, Int.reduceGT, Int.reduceGE, Int.reduceEq, Int.reduceBEq, Int.reduceBNe, load_ptr, ldV_some, cellAt_cells, List.getElem?_cons_zero, List.getElem?_cons_succ, store_ptr, stO_some, setAt_0, setAt_1, setAt_2, setAt_3, setAt_4, setAt_5, setAt_6, setAt_7, setAt_8, setAt_9, setAt_10, setAt_11, setAt_12, cells_int, cells_bool, cells_str, cells_nils, cells_nilp, cells_ptr, cells_sl, cells_u8, cells_u16, cells_agg, get_upd_is, Option.isSome_some, upd_upd, ev1_nchkV, ev1_faV, nchkV_ptr, faV_ptr, ev1_extV, extV_tup, eqptr_nil, eqptr_ptr, Nat.zero_add, Nat.add_zero, qPL0, qPL1, qPL2, qPL3, qPL4, qPL5, beq_self_eq_true, qED0, qED1, placeR]
      exact ⟨_, _, rfl, rfl, rfl⟩
    · have e1' := decide_eq_false e1
      by_cases e2 : id > 255
      · have e2 := decide_eq_true e2
        simp only [M51b0, E41, hr, c2, d0, e1', e2, loadR_rp, qES0, qES1, qES2, env0, List.length_cons, List.length_nil, Nat.reduceAdd, Nat.reduceSub, List.replicate, List.cons_append, List.nil_append, opd, Env.put, Env.at, List.set_cons_zero, List.set_cons_succ, List.getD_cons_zero, List.getD_cons_succ, freezeL, resVs, oneOr, Option.map_some, Option.map_none, List.map_cons, List.map_nil, if_true, if_false, Bool.not_true, Bool.not_false, Bool.false_eq_true, reduceIte, decide_true, decide_false, Int.reduceLT, Int.reduceLE, Int.reduceGT, Int.reduceGE, Int.reduceEq, Int.reduceBEq, Int.reduceBNe, load_ptr, ldV_some, cellAt_cells, List.getElem?_cons_zero, List.getElem?_cons_succ, store_ptr, stO_some, setAt_0, setAt_1, setAt_2, setAt_3, setAt_4, setAt_5, setAt_6, setAt_7, setAt_8, setAt_9, setAt_10, setAt_11, setAt_12, cells_int, cells_bool, cells_str, cells_nils, cells_nilp, cells_ptr, cells_sl, cells_u8, cells_u16, cells_agg, get_upd_is, Option.isSome_some, upd_upd, ev1_nchkV, ev1_faV, nchkV_ptr, faV_ptr, ev1_extV, extV_tup, eqptr_nil, eqptr_ptr, Nat.zero_add, Nat.add_zero, qPL0, qPL1, qPL2, qPL3, qPL4, qPL5, beq_self_eq_true, qED0, qED1, placeR]
        exact ⟨_, _, rfl, rfl, rfl⟩
      · have e2' := decide_eq_false e2
        have e3 : decide ((val.length : Int) > 40) = true := decide_eq_true (by omega)
        simp only [M51b0, E41, hr, c2, d0, e1', e2', e3, loadR_rp, qES0, qES1, qES2, env0, List.length_cons, List.length_nil, Nat.reduceAdd, Nat.reduceSub, List.replicate, List.cons_append, List.nil_append, opd, Env.put, Env.at, List.set_cons_zero, List.set_cons_succ, List.getD_cons_zero, List.getD_cons_succ, freezeL, resVs, oneOr, Option.map_some, Option.map_none, List.map_cons, List.map_nil, if_true, if_false, Bool.not_true, Bool.not_false, Bool.false_eq_true, reduceIte, decide_true, decide_false, Int.reduceLT, Int.reduceLE, Int.reduceGT, Int.reduceGE, Int.reduceEq, Int.reduceBEq, Int.reduceBNe, load_ptr, ldV_some, cellAt_cells, List.getElem?_cons_zero, List.getElem?_cons_succ, store_ptr, stO_some, setAt_0, setAt_1, setAt_2, setAt_3, setAt_4, setAt_5, setAt_6, setAt_7, setAt_8, setAt_9, setAt_10, setAt_11, setAt_12, cells_int, cells_bool, cells_str, cells_nils, cells_nilp, cells_ptr, cells_sl, cells_u8, cells_u16, cells_agg, get_upd_is, Option.isSome_some, upd_upd, ev1_nchkV, ev1_faV, nchkV_ptr, faV_ptr, ev1_extV, extV_tup, eqptr_nil, eqptr_ptr, Nat.zero_add, Nat.add_zero, qPL0, qPL1, qPL2, qPL3, qPL4, qPL5, beq_self_eq_true, qED0, qED1, placeR]
        exact ⟨_, _, rfl, rfl, rfl⟩
theorem put_val (hl : l.length ≤ 100) : valR (evT 1000 51 [v] St.nil) = some (.tup [.str (if putOk l then encL l else []), .bool (decide (putOk l))]) := by
  rw [show (1000 : Nat) = 999 + 1 from rfl, evT_in rfl tab51]
  have ln := h.len
  have key : ∀ e, maskE M51b0l e = E41 v l.length .nils 0 → valR (outR M51.res (seqR (blockR 0 (iter (evC tabGl (evT 999) 999 M51b0) M51b0l 999 e St.nil)) (evC tabGl (evT 999) 999 M51r0))) = some (.tup [.str (if putOk l then encL l else []), .bool (decide (putOk l))]) := by
    intro e he
    refine iter_leave (evC tabGl (evT 999) 999 M51b0) M51b0l (fun i e st => ∃ acc, maskE M51b0l e = E41 v l.length acc (i : Int) ∧ Own St.nil st acc (encL (l.take i)) ∧ Ext St.nil st ∧ ∀ t ∈ l.take i, okT t)
      (fun out => valR (outR M51.res (seqR (blockR 0 out) (evC tabGl (evT 999) 999 M51r0))) = some (.tup [.str (if putOk l then encL l else []), .bool (decide (putOk l))])) l.length ?_ ?_ l.length 0 _ _ 999 (by omega) ⟨.nils, he, by simpa [encL] using Own.nil _ _, Ext.refl _, by simp⟩ (by omega)
    · rintro i e st hi ⟨acc, h1, h2, h3, h4⟩
      rw [h1]
      rcases put_round h 999 i hi hl st acc h2 h3 h4 with ⟨k1, e', S', acc', k2, k3, k4, k5⟩ | ⟨k1, e', S', k2, k3, k4⟩
      · left
        refine ⟨e', S', k2, acc', k3, k4, k5, fun t ht => ?_⟩
        rw [List.take_succ_eq_append_getElem hi] at ht
        rcases List.mem_append.1 ht with ht | ht
        · exact h4 t ht
        · rw [List.mem_singleton.1 ht]; exact k1
      · right
        rw [k2]
        have hn : ¬ putOk l := fun hh => k1 (hh.1 _ (List.getElem_mem hi))
        rw [if_neg hn, decide_eq_false hn]
        refine ⟨?_, fun _ _ h => by cases h⟩
        simp only [M51, k3, k4, qES0, qES1, qES2, env0, List.length_cons, List.length_nil, Nat.reduceAdd, Nat.reduceSub, List.replicate, List.cons_append, List.nil_append, opd, Env.put, Env.at, List.set_cons_zero, List.set_cons_succ, List.getD_cons_zero, List.getD_cons_succ, freezeL, resVs, oneOr, Option.map_some, Option.map_none, List.map_cons, List.map_nil, if_true, if_false, Bool.not_true, Bool.not_false, Bool.false_eq_true, reduceIte, decide_true, decide_false, Int.reduceLT, Int.reduceLE, Int.reduceGT, Int.reduceGE, Int.reduceEq, Int.reduceBEq, Int.reduceBNe, load_ptr, ldV_some, cellAt_cells, List.getElem?_cons_zero, List.getElem?_cons_succ, store_ptr, stO_some, setAt_0, setAt_1, setAt_2, setAt_3, setAt_4, setAt_5, setAt_6, setAt_7, setAt_8, setAt_9, setAt_10, setAt_11, setAt_12, cells_int, cells_bool, cells_str, cells_nils, cells_nilp, cells_ptr, cells_sl, cells_u8, cells_u16, cells_agg, get_upd_is, Option.isSome_some, upd_upd, ev1_nchkV, ev1_faV, nchkV_ptr, faV_ptr, ev1_extV, extV_tup, eqptr_nil, eqptr_ptr, Nat.zero_add, Nat.add_zero, qPL0, qPL1, qPL2, qPL3, qPL4, qPL5, beq_self_eq_true]
    · rintro e st ⟨acc, h1, h2, h3, h4⟩
      rw [h1]
      rw [List.take_length] at h2 h4
      have d0 : decide (((l.length : Nat) : Int) < ((l.length : Nat) : Int)) = false := decide_eq_false (by omega)
      have al := h2.bys.len
      have ac := h2.bys.str
      refine ⟨?_, fun e' s' hh => ?_⟩
      · by_cases g : (encL l).length ≤ 64
        · have hp : putOk l := ⟨h4, g⟩
          rw [if_pos hp, decide_eq_true hp]
          have d1 : decide (((encL l).length : Int) > 64) = false := decide_eq_false (by omega)
          simp only [M51, M51r0, M51b0, E41, d0, d1, al, ac, qES0, qES1, qES2, env0, List.length_cons, List.length_nil, Nat.reduceAdd, Nat.reduceSub, List.replicate, List.cons_append, List.nil_append, opd, Env.put, Env.at, List.set_cons_zero, List.set_cons_succ, List.getD_cons_zero, List.getD_cons_succ, freezeL, resVs, oneOr, Option.map_some, Option.map_none, List.map_cons, List.map_nil, if_true, if_false, Bool.not_true, Bool.not_false, Bool.false_eq_true, reduceIte, decide_true, decide_false, Int.reduceLT, Int.reduceLE, Int.reduceGT, Int.reduceGE, Int.reduceEq, Int.reduceBEq, Int.reduceBNe, load_ptr, ldV_some, cellAt_cells, List.getElem?_cons_zero, List.getElem?_cons_succ, store_ptr, stO_some, setAt_0, setAt_1, setAt_2, setAt_3, setAt_4, setAt_5, setAt_6, setAt_7, setAt_8, setAt_9, setAt_10, setAt_11, setAt_12, cells_int, cells_bool, cells_str, cells_nils, cells_nilp, cells_ptr, cells_sl, cells_u8, cells_u16, cells_agg, get_upd_is, Option.isSome_some, upd_upd, ev1_nchkV, ev1_faV, nchkV_ptr, faV_ptr, ev1_extV, extV_tup, eqptr_nil, eqptr_ptr, Nat.zero_add, Nat.add_zero, qPL0, qPL1, qPL2, qPL3, qPL4, qPL5, beq_self_eq_true]
        · have hp : ¬ putOk l := fun hh => g hh.2
          rw [if_neg hp, decide_eq_false hp]
          have d1 : decide (((encL l).length : Int) > 64) = true := decide_eq_true (by omega)
          simp only [M51, M51r0, M51b0, E41, d0, d1, al, ac, qES0, qES1, qES2, env0, List.length_cons, List.length_nil, Nat.reduceAdd, Nat.reduceSub, List.replicate, List.cons_append, List.nil_append, opd, Env.put, Env.at, List.set_cons_zero, List.set_cons_succ, List.getD_cons_zero, List.getD_cons_succ, freezeL, resVs, oneOr, Option.map_some, Option.map_none, List.map_cons, List.map_nil, if_true, if_false, Bool.not_true, Bool.not_false, Bool.false_eq_true, reduceIte, decide_true, decide_false, Int.reduceLT, Int.reduceLE, Int.reduceGT, Int.reduceGE, Int.reduceEq, Int.reduceBEq, Int.reduceBNe, load_ptr, ldV_some, cellAt_cells, List.getElem?_cons_zero, List.getElem?_cons_succ, store_ptr, stO_some, setAt_0, setAt_1, setAt_2, setAt_3, setAt_4, setAt_5, setAt_6, setAt_7, setAt_8, setAt_9, setAt_10, setAt_11, setAt_12, cells_int, cells_bool, cells_str, cells_nils, cells_nilp, cells_ptr, cells_sl, cells_u8, cells_u16, cells_agg, get_upd_is, Option.isSome_some, upd_upd, ev1_nchkV, ev1_faV, nchkV_ptr, faV_ptr, ev1_extV, extV_tup, eqptr_nil, eqptr_ptr, Nat.zero_add, Nat.add_zero, qPL0, qPL1, qPL2, qPL3, qPL4, qPL5, beq_self_eq_true]
      · simp only [M51b0, E41, d0, qES0, qES1, qES2, env0, List.length_cons, List.length_nil, Nat.reduceAdd, Nat.reduceSub, List.replicate, List.cons_append, List.nil_append, opd, Env.put, Env.at, List.set_cons_zero, List.set_cons_succ, List.getD_cons_zero, List.getD_cons_succ, freezeL, resVs, oneOr, Option.map_some, Option.map_none, List.map_cons, List.map_nil, if_true, if_false, Bool.not_true, Bool.not_false, Bool.false_eq_true, reduceIte, decide_true, decide_false, Int.reduceLT, Int.reduceLE, Int.reduceGT, Int.reduceGE, Int.reduceEq, Int.reduceBEq, Int.reduceBNe, load_ptr, ldV_some, cellAt_cells, List.getElem?_cons_zero, List.getElem?_cons_succ, store_ptr, stO_some, setAt_0, setAt_1, setAt_2, setAt_3, setAt_4, setAt_5, setAt_6, setAt_7, setAt_8, setAt_9, setAt_10, setAt_11, setAt_12, cells_int, cells_bool, cells_str, cells_nils, cells_nilp, cells_ptr, cells_sl, cells_u8, cells_u16, cells_agg, get_upd_is, Option.isSome_some, upd_upd, ev1_nchkV, ev1_faV, nchkV_ptr, faV_ptr, ev1_extV, extV_tup, eqptr_nil, eqptr_ptr, Nat.zero_add, Nat.add_zero, qPL0, qPL1, qPL2, qPL3, qPL4, qPL5, beq_self_eq_true] at hh
        cases hh
  simp only [M51, ln, evC_loop, qES0, qES1, qES2, env0, List.length_cons, List.length_nil, Nat.reduceAdd, Nat.reduceSub, List.replicate, List.cons_append, List.nil_append, opd, Env.put, Env.at, List.set_cons_zero, List.set_cons_succ, List.getD_cons_zero, List.getD_cons_succ, freezeL, resVs, oneOr, Option.map_some, Option.map_none, List.map_cons, List.map_nil, if_true, if_false, Bool.not_true, Bool.not_false, Bool.false_eq_true, reduceIte, decide_true, decide_false, Int.reduceLT, Int.reduceLE, Int.reduceGT, Int.reduceGE, Int.reduceEq, Int.reduceBEq, Int.reduceBNe, load_ptr, ldV_some, cellAt_cells, List.getElem?_cons_zero, List.getElem?_cons_succ, store_ptr, stO_some, setAt_0, setAt_1, setAt_2, setAt_3, setAt_4, setAt_5, setAt_6, setAt_7, setAt_8, setAt_9, setAt_10, setAt_11, setAt_12, cells_int, cells_bool, cells_str, cells_nils, cells_nilp, cells_ptr, cells_sl, cells_u8, cells_u16, cells_agg, get_upd_is, Option.isSome_some, upd_upd, ev1_nchkV, ev1_faV, nchkV_ptr, faV_ptr, ev1_extV, extV_tup, eqptr_nil, eqptr_ptr, Nat.zero_add, Nat.add_zero, qPL0, qPL1, qPL2, qPL3, qPL4, qPL5, beq_self_eq_true]
  exact key _ rfl
end
end Go.Proofs.YthcblggiojpmcaaDoor
/- The document's PutTuples, as the evaluator answers it. No conditions. -/
set_option linter.unusedSimpArgs false
set_option linter.unusedVariables false
set_option maxRecDepth 100000
set_option maxHeartbeats 4000000
namespace Go.Ab
open Go
theorem str_add (a b : List UInt8) (h : a.length + b.length ≤ 1000000000) : binV .add (.str a) (.str b) = some (.str (a ++ b)) := by
  show (if a.length + b.length ≤ 140737488355328 then some (AV.str (a ++ b)) else none) = _
  rw [if_pos (by omega)]
theorem faV_rp (o : Nat) (cs : List AV) (h : o ≤ cs.length) : faV o (.rp cs) = some (.rp (cs.drop o)) := by
  show (if o ≤ cs.length then some (AV.rp (cs.drop o)) else none) = _
  rw [if_pos h]
theorem b2s_two (a b : UInt8) (tk) : convP .b2s (.sl [u8v a, u8v b] 2 tk) = some (.str [a, b]) := by
  show (toBytes (bytesAV [a, b])).map AV.str = _
  rw [toBytes_bytesAV]; rfl
end Go.Ab
namespace Go.Proofs.YthcblggiojpmcaaDoor
open Go Go.Ab
def E60 (v : AV) (acc : List UInt8) (i : Int) : Env := [v, .undef, .undef, .undef, .str acc, .int .i64 i, .undef, .undef, .undef, .undef, .undef, .undef, .undef, .undef, .undef, .undef, .undef, .undef, .undef, .undef, .undef, .undef, .undef, .undef, .undef, .undef, .undef, .undef, .undef, .undef, .undef, .undef, .undef, .undef, .undef, .undef, .undef, .undef, .undef, .undef, .undef, .undef, .undef, .undef, .undef, .undef, .undef, .undef, .undef, .undef, .undef, .undef, .undef, .undef, .undef, .undef, .undef, .undef, .undef, .undef, .undef, .undef]
section
variable {v : AV} {l : List Tp} (h : IsTp v l)
include h
theorem rput_round (k : Nat) (i : Nat) (hi : i < l.length) (hl : l.length ≤ 100) (S : St) (hok : ∀ t ∈ l.take i, okT t) :
    (okT l[i] ∧ ∃ e' S', evC tabGl (evT k) k M52b0 (E60 v (encL (l.take i)) i) S = some (.nrm, e', S') ∧ maskE M52b0l e' = E60 v (encL (l.take (i + 1))) ((i + 1 : Nat) : Int)) ∨
    (¬ okT l[i] ∧ ∃ e' S', evC tabGl (evT k) k M52b0 (E60 v (encL (l.take i)) i) S = some (.ret, e', S') ∧ e'.getD 2 .undef = .str [] ∧ e'.getD 3 .undef = .bool false) := by
  obtain ⟨r, hr⟩ := h.ixa i hi
  have ln := h.len
  obtain ⟨⟨id, val⟩, hx⟩ : ∃ t, l[i] = t := ⟨_, rfl⟩
  rw [hx] at hr ⊢
  have d0 : decide ((i : Int) < (l.length : Nat)) = true := decide_eq_true (by omega)
  have w1 : IntKind.i64.wrap ((i : Int) + 1) = ((i + 1 : Nat) : Int) := (wrapI _ (by omega) (by omega)).trans (by omega)
  have c0 : Ab.cut (.int .i64 id :: .str val :: r) 0 none = some (.int .i64 id) := by simp [Ab.cut]
  have c1 : Ab.cut (.str val :: r) 0 none = some (.str val) := by simp [Ab.cut]
  have f0 : faV 0 (.rp (.int .i64 id :: .str val :: r)) = some (.rp (.int .i64 id :: .str val :: r)) := faV_rp _ _ (by simp)
  have f1 : faV 1 (.rp (.int .i64 id :: .str val :: r)) = some (.rp (.str val :: r)) := faV_rp _ _ (by simp)
  rw [show S = S.pl [] from rfl]
  by_cases hk : okT (id, val)
  · left
    have hk' := hk
    obtain ⟨k1, k2, k3⟩ := hk
    simp only at k1 k2 k3
    have e1 : decide (id < 0) = false := decide_eq_false (by omega)
    have e2 : decide (id > 255) = false := decide_eq_false (by omega)
    have e3 : decide ((val.length : Int) > 40) = false := decide_eq_false (by omega)
    have b1 := u8of id k1 k2
    have b2 := u8of (val.length : Int) (by omega) (by omega)
    rw [Int.toNat_natCast] at b2
    have hle := encL_le _ hok
    simp only [List.length_take] at hle
    have a1 := str_add [UInt8.ofNat id.toNat, UInt8.ofNat val.length] val (by simp; omega)
    have a2 := str_add (encL (l.take i)) ([UInt8.ofNat id.toNat, UInt8.ofNat val.length] ++ val) (by simp; omega)
    have b3 := b2s_two (UInt8.ofNat id.toNat) (UInt8.ofNat val.length)
    have ee : encL (l.take (i + 1)) = encL (l.take i) ++ ([UInt8.ofNat id.toNat, UInt8.ofNat val.length] ++ val) := by
      rw [encL_succ l i hi, hx]; simp [encT]
    refine ⟨hk', ?_⟩
    rw [ee]
    generalize [UInt8.ofNat id.toNat, UInt8.ofNat val.length] ++ val = w at a1 a2 ⊢
    simp only [M52b0, E60, hr, ln, c0, c1, f0, f1, d0, e1, e2, e3, b1, b2, b3, w1, a1, a2, conv_int, loadR_rp, qES0, qES1, qES2, env0, List.length_cons, List.length_nil, Nat.reduceAdd, Nat.reduceSub, List.replicate, List.cons_append, List.nil_append, opd, Env.put, Env.at, List.set_cons_zero, List.set_cons_succ, List.getD_cons_zero, List.getD_cons_succ, freezeL, resVs, oneOr, Option.map_some, Option.map_none, List.map_cons, List.map_nil, if_true, if_false, Bool.not_true, Bool.not_false, Bool.false_eq_true, reduceIte, decide_true, decide_false, Int.reduceLT, Int.reduceLE, Int.reduceGT, Int.reduceGE, Int.reduceEq, Int.reduceBEq, Int.reduceBNe, load_ptr, ldV_some, cellAt_cells, List.getElem?_cons_zero, List.getElem?_cons_succ, store_ptr, stO_some, setAt_0, setAt_1, setAt_2, setAt_3, setAt_4, setAt_5, setAt_6, setAt_7, setAt_8, setAt_9, setAt_10, setAt_11, setAt_12, cells_int, cells_bool, cells_str, cells_nils, cells_nilp, cells_ptr, cells_sl, cells_u8, cells_u16, cells_agg, get_upd_is, Option.isSome_some, upd_upd, ev1_nchkV, ev1_faV, nchkV_ptr, faV_ptr, ev1_extV, extV_tup, eqptr_nil, eqptr_ptr, Nat.zero_add, Nat.add_zero, qPL0, qPL1, qPL2, qPL3, qPL4, qPL5, beq_self_eq_true, qED0, qED1, placeR]
    rw [drawR_ok]; case h => simp (config := { decide := true }) [calm, calmPair, calmTwo, List.range, List.range.loop, sameO_refl, plg0]
    simp only [w1, qES0, qES1, qES2, env0, List.length_cons, List.length_nil, Nat.reduceAdd, Nat.reduceSub, List.replicate, List.cons_append, List.nil_append, opd, Env.put, Env.at, List.set_cons_zero, List.set_cons_succ, List.getD_cons_zero, List.getD_cons_succ, freezeL, resVs, oneOr, Option.map_some, Option.map_none, List.map_cons, List.map_nil, if_true, if_false, Bool.not_true, Bool.not_false, Bool.false_eq_true, reduceIte, decide_true, decide_false, Int.reduceLT, Int.reduceLE, Int.reduceGT, Int.reduceGE, Int.reduceEq, Int.reduceBEq, Int.reduceBNe, load_ptr, ldV_some, cellAt_cells, List.getElem?_cons_zero, List.getElem?_cons_succ, store_ptr, stO_some, setAt_0, setAt_1, setAt_2, setAt_3, setAt_4, setAt_5, setAt_6, setAt_7, setAt_8, setAt_9, setAt_10, setAt_11, setAt_12, cells_int, cells_bool, cells_str, cells_nils, cells_nilp, cells_ptr, cells_sl, cells_u8, cells_u16, cells_agg, get_upd_is, Option.isSome_some, upd_upd, ev1_nchkV, ev1_faV, nchkV_ptr, faV_ptr, ev1_extV, extV_tup, eqptr_nil, eqptr_ptr, Nat.zero_add, Nat.add_zero, qPL0, qPL1, qPL2, qPL3, qPL4, qPL5, beq_self_eq_true, qED0, qED1, placeR]
    exact ⟨_, _, rfl, rfl⟩
  · right
    refine ⟨hk, ?_⟩
    have hk' : id < 0 ∨ id > 255 ∨ (val.length : Int) > 40 := by
      unfold okT at hk; simp only at hk; omega
    by_cases e1 : id < 0
    · have e1 := decide_eq_true e1
      simp only [M52b0, E60, hr, ln, c0, c1, f0, f1, d0, e1, loadR_rp, qES0, qES1, qES2, env0, List.length_cons, List.length_nil, Nat.reduceAdd, Nat.reduceSub, List.replicate, List.cons_append, List.nil_append, opd, Env.put, Env.at, List.set_cons_zero, List.set_cons_succ, List.getD_cons_zero, List.getD_cons_succ, freezeL, resVs, oneOr, Option.map_some, Option.map_none, List.map_cons, List.map_nil, if_true, if_false, Bool.not_true, Bool.not_false, Bool.false_eq_true, reduceIte, decide_true, decide_false, Int.reduceLT, Int.reduceLE, Int.reduceGT, Int.reduceGE, Int.reduceEq, Int.reduceBEq, Int.reduceBNe, load_ptr, ldV_some, cellAt_cells, List.getElem?_cons_zero, List.getElem?_cons_succ, store_ptr, stO_some, setAt_0, setAt_1, setAt_2, setAt_3, setAt_4, setAt_5, setAt_6, setAt_7, setAt_8, setAt_9, setAt_10, setAt_11, setAt_12, cells_int, cells_bool, cells_str, cells_nils, cells_nilp, cells_ptr, cells_sl, cells_u8, cells_u16, cells_agg, get_upd_is, Option.isSome_some, upd_upd, ev1_nchkV, ev1_faV, nchkV_ptr, faV_ptr, ev1_extV, extV_tup, eqptr_nil, eqptr_ptr, Nat.zero_add, Nat.add_zero, qPL0, qPL1, qPL2, qPL3, qPL4, qPL5, beq_self_eq_true, qED0, qED1, placeR]
      exact ⟨_, _, rfl, rfl, rfl⟩
    · have e1' := decide_eq_false e1
      by_cases e2 : id > 255
      · have e2 := decide_eq_true e2
        simp only [M52b0, E60, hr, ln, c0, c1, f0, f1, d0, e1', e2, loadR_rp, qES0, qES1, qES2, env0, List.length_cons, List.length_nil, Nat.reduceAdd, Nat.reduceSub, List.replicate, List.cons_append, List.nil_append, opd, Env.put, Env.at, List.set_cons_zero, List.set_cons_succ, List.getD_cons_zero, List.getD_cons_succ, freezeL, resVs, oneOr, Option.map_some, Option.map_none, List.map_cons, List.map_nil, if_true, if_false, Bool.not_true, Bool.not_false, Bool.false_eq_true, reduceIte, decide_true, decide_false, Int.reduceLT, Int.reduceLE, Int.reduceGT, Int.reduceGE, Int.reduceEq, Int.reduceBEq, Int.reduceBNe, load_ptr, ldV_some, cellAt_cells, List.getElem?_cons_zero, List.getElem?_cons_succ, store_ptr, stO_some, setAt_0, setAt_1, setAt_2, setAt_3, setAt_4, setAt_5, setAt_6, setAt_7, setAt_8, setAt_9, setAt_10, setAt_11, setAt_12, cells_int, cells_bool, cells_str, cells_nils, cells_nilp, cells_ptr, cells_sl, cells_u8, cells_u16, cells_agg, get_upd_is, Option.isSome_some, upd_upd, ev1_nchkV, ev1_faV, nchkV_ptr, faV_ptr, ev1_extV, extV_tup, eqptr_nil, eqptr_ptr, Nat.zero_add, Nat.add_zero, qPL0, qPL1, qPL2, qPL3, qPL4, qPL5, beq_self_eq_true, qED0, qED1, placeR]
        exact ⟨_, _, rfl, rfl, rfl⟩
      · have e2' := decide_eq_false e2
        have e3 : decide ((val.length : Int) > 40) = true := decide_eq_true (by omega)
        simp only [M52b0, E60, hr, ln, c0, c1, f0, f1, d0, e1', e2', e3, loadR_rp, qES0, qES1, qES2, env0, List.length_cons, List.length_nil, Nat.reduceAdd, Nat.reduceSub, List.replicate, List.cons_append, List.nil_append, opd, Env.put, Env.at, List.set_cons_zero, List.set_cons_succ, List.getD_cons_zero, List.getD_cons_succ, freezeL, resVs, oneOr, Option.map_some, Option.map_none, List.map_cons, List.map_nil, if_true, if_false, Bool.not_true, Bool.not_false, Bool.false_eq_true, reduceIte, decide_true, decide_false, Int.reduceLT, Int.reduceLE, Int.reduceGT, Int.reduceGE, Int.reduceEq, Int.reduceBEq, Int.reduceBNe, load_ptr, ldV_some, cellAt_cells, List.getElem?_cons_zero, List.getElem?_cons_succ, store_ptr, stO_some, setAt_0, setAt_1, setAt_2, setAt_3, setAt_4, setAt_5, setAt_6, setAt_7, setAt_8, setAt_9, setAt_10, setAt_11, setAt_12, cells_int, cells_bool, cells_str, cells_nils, cells_nilp, cells_ptr, cells_sl, cells_u8, cells_u16, cells_agg, get_upd_is, Option.isSome_some, upd_upd, ev1_nchkV, ev1_faV, nchkV_ptr, faV_ptr, ev1_extV, extV_tup, eqptr_nil, eqptr_ptr, Nat.zero_add, Nat.add_zero, qPL0, qPL1, qPL2, qPL3, qPL4, qPL5, beq_self_eq_true, qED0, qED1, placeR]
        exact ⟨_, _, rfl, rfl, rfl⟩
theorem rput_val (hl : l.length ≤ 100) : valR (evT 1000 52 [v] St.nil) = some (.tup [.str (if putOk l then encL l else []), .bool (decide (putOk l))]) := by
  rw [show (1000 : Nat) = 999 + 1 from rfl, evT_in rfl tab52]
  have ln := h.len
  have key : ∀ e, maskE M52b0l e = E60 v [] 0 → valR (outR M52.res (seqR (blockR 0 (iter (evC tabGl (evT 999) 999 M52b0) M52b0l 999 e St.nil)) (evC tabGl (evT 999) 999 M52r0))) = some (.tup [.str (if putOk l then encL l else []), .bool (decide (putOk l))]) := by
    intro e he
    refine iter_leave (evC tabGl (evT 999) 999 M52b0) M52b0l (fun i e st => maskE M52b0l e = E60 v (encL (l.take i)) (i : Int) ∧ ∀ t ∈ l.take i, okT t)
      (fun out => valR (outR M52.res (seqR (blockR 0 out) (evC tabGl (evT 999) 999 M52r0))) = some (.tup [.str (if putOk l then encL l else []), .bool (decide (putOk l))])) l.length ?_ ?_ l.length 0 _ _ 999 (by omega) ⟨he, by simp⟩ (by omega)
    · rintro i e st hi ⟨h1, h4⟩
      rw [h1]
      rcases rput_round h 999 i hi hl st h4 with ⟨k1, e', S', k2, k3⟩ | ⟨k1, e', S', k2, k3, k4⟩
      · left
        refine ⟨e', S', k2, k3, fun t ht => ?_⟩
        rw [List.take_succ_eq_append_getElem hi] at ht
        rcases List.mem_append.1 ht with ht | ht
        · exact h4 t ht
        · rw [List.mem_singleton.1 ht]; exact k1
      · right
        rw [k2]
        have hn : ¬ putOk l := fun hh => k1 (hh.1 _ (List.getElem_mem hi))
        rw [if_neg hn, decide_eq_false hn]
        refine ⟨?_, fun _ _ h => by cases h⟩
        simp only [M52, k3, k4, qES0, qES1, qES2, env0, List.length_cons, List.length_nil, Nat.reduceAdd, Nat.reduceSub, List.replicate, List.cons_append, List.nil_append, opd, Env.put, Env.at, List.set_cons_zero, List.set_cons_succ, List.getD_cons_zero, List.getD_cons_succ, freezeL, resVs, oneOr, Option.map_some, Option.map_none, List.map_cons, List.map_nil, if_true, if_false, Bool.not_true, Bool.not_false, Bool.false_eq_true, reduceIte, decide_true, decide_false, Int.reduceLT, Int.reduceLE, Int.reduceGT, Int.reduceGE, Int.reduceEq, Int.reduceBEq, Int.reduceBNe, load_ptr, ldV_some, cellAt_cells, List.getElem?_cons_zero, List.getElem?_cons_succ, store_ptr, stO_some, setAt_0, setAt_1, setAt_2, setAt_3, setAt_4, setAt_5, setAt_6, setAt_7, setAt_8, setAt_9, setAt_10, setAt_11, setAt_12, cells_int, cells_bool, cells_str, cells_nils, cells_nilp, cells_ptr, cells_sl, cells_u8, cells_u16, cells_agg, get_upd_is, Option.isSome_some, upd_upd, ev1_nchkV, ev1_faV, nchkV_ptr, faV_ptr, ev1_extV, extV_tup, eqptr_nil, eqptr_ptr, Nat.zero_add, Nat.add_zero, qPL0, qPL1, qPL2, qPL3, qPL4, qPL5, beq_self_eq_true]
    · rintro e st ⟨h1, h4⟩
      rw [h1]
      rw [List.take_length] at h4 ⊢
      have d0 : decide (((l.length : Nat) : Int) < ((l.length : Nat) : Int)) = false := decide_eq_false (by omega)
      refine ⟨?_, fun e' s' hh => ?_⟩
      · by_cases g : (encL l).length ≤ 64
        · have hp : putOk l := ⟨h4, g⟩
          rw [if_pos hp, decide_eq_true hp]
          have d1 : decide (((encL l).length : Int) > 64) = false := decide_eq_false (by omega)
          simp only [M52, M52r0, M52b0, E60, ln, d0, d1, qES0, qES1, qES2, env0, List.length_cons, List.length_nil, Nat.reduceAdd, Nat.reduceSub, List.replicate, List.cons_append, List.nil_append, opd, Env.put, Env.at, List.set_cons_zero, List.set_cons_succ, List.getD_cons_zero, List.getD_cons_succ, freezeL, resVs, oneOr, Option.map_some, Option.map_none, List.map_cons, List.map_nil, if_true, if_false, Bool.not_true, Bool.not_false, Bool.false_eq_true, reduceIte, decide_true, decide_false, Int.reduceLT, Int.reduceLE, Int.reduceGT, Int.reduceGE, Int.reduceEq, Int.reduceBEq, Int.reduceBNe, load_ptr, ldV_some, cellAt_cells, List.getElem?_cons_zero, List.getElem?_cons_succ, store_ptr, stO_some, setAt_0, setAt_1, setAt_2, setAt_3, setAt_4, setAt_5, setAt_6, setAt_7, setAt_8, setAt_9, setAt_10, setAt_11, setAt_12, cells_int, cells_bool, cells_str, cells_nils, cells_nilp, cells_ptr, cells_sl, cells_u8, cells_u16, cells_agg, get_upd_is, Option.isSome_some, upd_upd, ev1_nchkV, ev1_faV, nchkV_ptr, faV_ptr, ev1_extV, extV_tup, eqptr_nil, eqptr_ptr, Nat.zero_add, Nat.add_zero, qPL0, qPL1, qPL2, qPL3, qPL4, qPL5, beq_self_eq_true]
        · have hp : ¬ putOk l := fun hh => g hh.2
          rw [if_neg hp, decide_eq_false hp]
          have d1 : decide (((encL l).length : Int) > 64) = true := decide_eq_true (by omega)
          simp only [M52, M52r0, M52b0, E60, ln, d0, d1, qES0, qES1, qES2, env0, List.length_cons, List.length_nil, Nat.reduceAdd, Nat.reduceSub, List.replicate, List.cons_append, List.nil_append, opd, Env.put, Env.at, List.set_cons_zero, List.set_cons_succ, List.getD_cons_zero, List.getD_cons_succ, freezeL, resVs, oneOr, Option.map_some, Option.map_none, List.map_cons, List.map_nil, if_true, if_false, Bool.not_true, Bool.not_false, Bool.false_eq_true, reduceIte, decide_true, decide_false, Int.reduceLT, Int.reduceLE, Int.reduceGT, Int.reduceGE, Int.reduceEq, Int.reduceBEq, Int.reduceBNe, load_ptr, ldV_some, cellAt_cells, List.getElem?_cons_zero, List.getElem?_cons_succ, store_ptr, stO_some, setAt_0, setAt_1, setAt_2, setAt_3, setAt_4, setAt_5, setAt_6, setAt_7, setAt_8, setAt_9, setAt_10, setAt_11, setAt_12, cells_int, cells_bool, cells_str, cells_nils, cells_nilp, cells_ptr, cells_sl, cells_u8, cells_u16, cells_agg, get_upd_is, Option.isSome_some, upd_upd, ev1_nchkV, ev1_faV, nchkV_ptr, faV_ptr, ev1_extV, extV_tup, eqptr_nil, eqptr_ptr, Nat.zero_add, Nat.add_zero, qPL0, qPL1, qPL2, qPL3, qPL4, qPL5, beq_self_eq_true]
      · simp only [M52b0, E60, ln, d0, qES0, qES1, qES2, env0, List.length_cons, List.length_nil, Nat.reduceAdd, Nat.reduceSub, List.replicate, List.cons_append, List.nil_append, opd, Env.put, Env.at, List.set_cons_zero, List.set_cons_succ, List.getD_cons_zero, List.getD_cons_succ, freezeL, resVs, oneOr, Option.map_some, Option.map_none, List.map_cons, List.map_nil, if_true, if_false, Bool.not_true, Bool.not_false, Bool.false_eq_true, reduceIte, decide_true, decide_false, Int.reduceLT, Int.reduceLE, Int.reduceGT, Int.reduceGE, Int.reduceEq, Int.reduceBEq, Int.reduceBNe, load_ptr, ldV_some, cellAt_cells, List.getElem?_cons_zero, List.getElem?_cons_succ, store_ptr, stO_some, setAt_0, setAt_1, setAt_2, setAt_3, setAt_4, setAt_5, setAt_6, setAt_7, setAt_8, setAt_9, setAt_10, setAt_11, setAt_12, cells_int, cells_bool, cells_str, cells_nils, cells_nilp, cells_ptr, cells_sl, cells_u8, cells_u16, cells_agg, get_upd_is, Option.isSome_some, upd_upd, ev1_nchkV, ev1_faV, nchkV_ptr, faV_ptr, ev1_extV, extV_tup, eqptr_nil, eqptr_ptr, Nat.zero_add, Nat.add_zero, qPL0, qPL1, qPL2, qPL3, qPL4, qPL5, beq_self_eq_true] at hh
        cases hh
  simp only [M52, ln, evC_loop, qES0, qES1, qES2, env0, List.length_cons, List.length_nil, Nat.reduceAdd, Nat.reduceSub, List.replicate, List.cons_append, List.nil_append, opd, Env.put, Env.at, List.set_cons_zero, List.set_cons_succ, List.getD_cons_zero, List.getD_cons_succ, freezeL, resVs, oneOr, Option.map_some, Option.map_none, List.map_cons, List.map_nil, if_true, if_false, Bool.not_true, Bool.not_false, Bool.false_eq_true, reduceIte, decide_true, decide_false, Int.reduceLT, Int.reduceLE, Int.reduceGT, Int.reduceGE, Int.reduceEq, Int.reduceBEq, Int.reduceBNe, load_ptr, ldV_some, cellAt_cells, List.getElem?_cons_zero, List.getElem?_cons_succ, store_ptr, stO_some, setAt_0, setAt_1, setAt_2, setAt_3, setAt_4, setAt_5, setAt_6, setAt_7, setAt_8, setAt_9, setAt_10, setAt_11, setAt_12, cells_int, cells_bool, cells_str, cells_nils, cells_nilp, cells_ptr, cells_sl, cells_u8, cells_u16, cells_agg, get_upd_is, Option.isSome_some, upd_upd, ev1_nchkV, ev1_faV, nchkV_ptr, faV_ptr, ev1_extV, extV_tup, eqptr_nil, eqptr_ptr, Nat.zero_add, Nat.add_zero, qPL0, qPL1, qPL2, qPL3, qPL4, qPL5, beq_self_eq_true]
  exact key _ rfl
end
end Go.Proofs.YthcblggiojpmcaaDoor
/- tuple.Get and the document's, as the evaluator answers them. No conditions. -/
set_option linter.unusedSimpArgs false
set_option linter.unusedVariables false
set_option maxRecDepth 100000
set_option maxHeartbeats 4000000
namespace Go.Ab
open Go
/-- Cells that one has made oneself, with their ticket. -/
def OwnG (size : Nat) (s : St) (x : AV) (cs : List AV) (n : Nat) : Prop := (x = .nils ∧ n = 0 ∧ cs = []) ∨ 0 < n ∧ ∃ t v, x = .sl cs n (some (t, v, size)) ∧ cs.length = n * size ∧ t < s.next ∧ s.get t = some (.tick size v)
theorem OwnG.nil (size : Nat) (s : St) : OwnG size s .nils [] 0 := .inl ⟨rfl, rfl, rfl⟩
theorem OwnG.ext {size : Nat} {s s' : St} {x : AV} {cs : List AV} {n : Nat} (h : OwnG size s x cs n) (e : Ext s s') : OwnG size s' x cs n := by
  rcases h with h | ⟨hp, t, v, h, h0, h1, h2⟩
  · exact .inl h
  · exact .inr ⟨hp, t, v, h, h0, Nat.lt_of_lt_of_le h1 e.le, (e.get t h1).trans h2⟩
theorem OwnG.app {size bytes : Nat} {s : St} {x y : AV} {cs ds : List AV} {n m : Nat} (h : OwnG size s x cs n) (g : newsOf size s y = some (ds, m)) (hd : ds.length = m * size) (hm : m ≠ 0) (hf : fits (n + m) bytes = true) :
    ∃ z s', appV false size bytes s x y = some (z, s') ∧ OwnG size s' z (cs ++ ds) (n + m) ∧ KeepC s s' := by
  rcases h with ⟨rfl, rfl, rfl⟩ | ⟨hp, t, v, rfl, h0, h1, h2⟩
  · refine ⟨_, _, by simp only [appV, g, appS, hm, Bool.false_and, if_false, Bool.false_eq_true]; rw [if_pos (by simpa using hf)], .inr ⟨by omega, s.next, 0, by simp, by simpa using hd, by simp [St.new], get_new_eq _ _⟩, KeepC.new _ _⟩
  · refine ⟨.sl (cs ++ ds) (n + m) (some (t, v + 1, size)), s.upd t (.tick size (v + 1)), ?_, .inr ⟨by omega, t, v + 1, rfl, by rw [List.length_append, h0, hd, Nat.add_mul], h1, get_upd_eq _ _ h2⟩, KeepC.tick _ h2⟩
    simp only [appV, g, appS, h2, Bool.false_and, if_false, Bool.false_eq_true]
    rw [if_pos ⟨trivial, trivial, h0, hf⟩]
theorem slcS_mid (l : List UInt8) (a b : Nat) (h : a ≤ b) (hb : b ≤ l.length) : slcS (.str l) (some (.int .i64 (a : Int))) (some (.int .i64 (b : Int))) = some (.str ((l.take b).drop a)) := by
  have h1 : bnd l.length (.int .i64 (b : Int)) = some b := by simp [bnd]; omega
  have h2 : bnd b (.int .i64 (a : Int)) = some a := by simp [bnd]; omega
  simp only [slcS, bndO, h1, h2]
theorem slcS_from (l : List UInt8) (a : Nat) (h : a ≤ l.length) : slcS (.str l) (some (.int .i64 (a : Int))) none = some (.str (l.drop a)) := by
  have h2 : bnd l.length (.int .i64 (a : Int)) = some a := by simp [bnd]; omega
  simp only [slcS, bndO, h2, List.take_length]
theorem ixsV_at (l : List UInt8) (i : Nat) (h : i < l.length) : ixsV (.str l) (.int .i64 (i : Int)) = some (.int .u8 (l[i].toNat : Int)) := by
  have h1 : idx l.length (.int .i64 (i : Int)) = some i := by simp [idx]; omega
  simp only [ixsV, h1, List.getElem?_eq_getElem h]
theorem u8_gtr (a b : Int) : binV .gtr (.int .u8 a) (.int .u8 b) = some (.bool (decide (a > b))) := (id rfl)
theorem str_ne_nil (l : List UInt8) : binV .neq (.str l) (.str []) = some (.bool (!l.isEmpty)) := by
  show some (AV.bool (!(l == []))) = _
  cases l <;> rfl
end Go.Ab
namespace Go.Proofs.YthcblggiojpmcaaDoor
open Go Go.Ab
/-- Parameters read one behind the other. -/
def getT : Nat → List UInt8 → Option (List Tp)
  | 0, _ => none
  | _ + 1, [] => some []
  | _ + 1, [_] => none
  | n + 1, a :: b :: r => if b.toNat > 40 ∨ r.length < b.toNat then none else (getT n (r.drop b.toNat)).map (((a.toNat : Int), r.take b.toNat) :: ·)
def getL (s : List UInt8) : Option (List Tp) := if s.length > 64 then none else getT 65 s
def tpV (l : List Tp) : AV := if l = [] then .nils else .sl (tpC l) l.length none
def getV (r : Option (List Tp)) : AV := match r with
  | some l => .tup [tpV l, .bool true]
  | none => .tup [.nils, .bool false]
theorem tpV_own {S : St} {x : AV} {l : List Tp} (h : OwnG 2 S x (tpC l) l.length) : dry1 x = tpV l ∧ ∀ s n, Ab.freeze n s x = some (x, s) := by
  rcases h with ⟨rfl, h1, _⟩ | ⟨hp, t, v, rfl, h0, h1, h2⟩
  · have : l = [] := List.length_eq_zero_iff.1 h1
    subst this
    exact ⟨rfl, fun _ _ => rfl⟩
  · unfold tpV
    rw [if_neg (fun hl => by rw [hl] at hp; simp at hp)]
    exact ⟨rfl, fun _ _ => rfl⟩
def E67 (t : List UInt8) (acc : AV) : Env := [.str t, .undef, .undef, .undef, acc, .undef, .undef, .undef, .undef, .undef, .undef, .undef, .undef, .undef, .undef, .undef, .undef, .undef, .undef, .undef, .undef, .undef, .undef, .undef, .undef, .undef, .undef, .undef, .undef, .undef, .undef, .undef, .undef, .undef, .undef, .undef, .undef, .undef, .undef, .undef, .undef, .undef, .undef, .undef, .undef, .undef]
theorem get67_round (k : Nat) (a b : UInt8) (r : List UInt8) (hl : r.length ≤ 100) (S : St) (acc : AV) (done : List Tp) (hn : done.length ≤ 100) (ha : OwnG 2 S acc (tpC done) done.length) :
    (b.toNat ≤ 40 ∧ b.toNat ≤ r.length ∧ ∃ e' S' acc', evC tabGl (evT k) k M53b0 (E67 (a :: b :: r) acc) S = some (.nrm, e', S') ∧ maskE M53b0l e' = E67 (r.drop b.toNat) acc' ∧ OwnG 2 S' acc' (tpC (done ++ [((a.toNat : Int), r.take b.toNat)])) (done ++ [((a.toNat : Int), r.take b.toNat)]).length) ∨
    ((b.toNat > 40 ∨ r.length < b.toNat) ∧ ∃ e' S', evC tabGl (evT k) k M53b0 (E67 (a :: b :: r) acc) S = some (.ret, e', S') ∧ e'.getD 2 .undef = .nils ∧ e'.getD 3 .undef = .bool false) := by
  have hb := b.toNat_lt
  have n0 := str_ne_nil (a :: b :: r)
  rw [show (!(a :: b :: r).isEmpty) = true from rfl] at n0
  have x1 : ixsV (.str (a :: b :: r)) (.int .i64 1) = some (.int .u8 (b.toNat : Int)) := ixsV_at (a :: b :: r) 1 (by simp)
  have x0 : ixsV (.str (a :: b :: r)) (.int .i64 0) = some (.int .u8 (a.toNat : Int)) := ixsV_at (a :: b :: r) 0 (by simp)
  obtain ⟨B, hB⟩ : ∃ B, b.toNat = B := ⟨_, rfl⟩
  rw [hB] at x1 hb ⊢
  have wb : IntKind.i64.wrap (B : Int) = (B : Int) := wrapI _ (by omega) (by omega)
  have wa : IntKind.i64.wrap (a.toNat : Int) = (a.toNat : Int) := wrapI _ (by omega) (by have := a.toNat_lt; omega)
  have w2 : IntKind.i64.wrap (2 + (B : Int)) = ((2 + B : Nat) : Int) := (wrapI _ (by omega) (by omega)).trans (by omega)
  have ll : (((a :: b :: r).length : Nat) : Int) = (r.length : Int) + 2 := by simp; omega
  have w3 : IntKind.i64.wrap ((r.length : Int) + 2 - 2) = (r.length : Int) := (wrapI _ (by omega) (by omega)).trans (by omega)
  have d0 : decide ((r.length : Int) + 2 < 2) = false := decide_eq_false (by omega)
  have lst : lensV' (.str (a :: b :: r)) = some (.int .i64 ((r.length : Int) + 2)) := by rw [← ll]; rfl
  generalize hs : a :: b :: r = s at n0 x1 x0 lst
  rw [show S = S.pl [] from rfl]
  by_cases g1 : B > 40
  · right
    have d1 : decide ((B : Int) > 40) = true := decide_eq_true (by omega)
    refine ⟨.inl g1, ?_⟩
    simp only [M53b0, E67, n0, x1, lst, d0, d1, u8_gtr, ev1_ixsV, ev1_lensV', qES0, qES1, qES2, env0, List.length_cons, List.length_nil, Nat.reduceAdd, Nat.reduceSub, List.replicate, List.cons_append, List.nil_append, opd, Env.put, Env.at, List.set_cons_zero, List.set_cons_succ, List.getD_cons_zero, List.getD_cons_succ, freezeL, resVs, oneOr, Option.map_some, Option.map_none, List.map_cons, List.map_nil, if_true, if_false, Bool.not_true, Bool.not_false, Bool.false_eq_true, reduceIte, decide_true, decide_false, Int.reduceLT, Int.reduceLE, Int.reduceGT, Int.reduceGE, Int.reduceEq, Int.reduceBEq, Int.reduceBNe, load_ptr, ldV_some, cellAt_cells, List.getElem?_cons_zero, List.getElem?_cons_succ, store_ptr, stO_some, setAt_0, setAt_1, setAt_2, setAt_3, setAt_4, setAt_5, setAt_6, setAt_7, setAt_8, setAt_9, setAt_10, setAt_11, setAt_12, cells_int, cells_bool, cells_str, cells_nils, cells_nilp, cells_ptr, cells_sl, cells_u8, cells_u16, cells_agg, get_upd_is, Option.isSome_some, upd_upd, ev1_nchkV, ev1_faV, nchkV_ptr, faV_ptr, ev1_extV, extV_tup, eqptr_nil, eqptr_ptr, Nat.zero_add, Nat.add_zero, qPL0, qPL1, qPL2, qPL3, qPL4, qPL5, beq_self_eq_true, qED0, qED1, placeR]
    exact ⟨_, _, rfl, rfl, rfl⟩
  · have d1 : decide ((B : Int) > 40) = false := decide_eq_false (by omega)
    by_cases g2 : r.length < B
    · right
      have d2 : decide ((r.length : Int) + 2 < ((2 + B : Nat) : Int)) = true := decide_eq_true (by omega)
      have d3 : decide ((r.length : Int) < (B : Int)) = true := decide_eq_true (by omega)
      refine ⟨.inr g2, ?_⟩
      simp only [M53b0, E67, n0, x1, lst, d0, d1, d2, d3, wb, w2, w3, u8_gtr, conv_int, ev1_ixsV, ev1_lensV', qES0, qES1, qES2, env0, List.length_cons, List.length_nil, Nat.reduceAdd, Nat.reduceSub, List.replicate, List.cons_append, List.nil_append, opd, Env.put, Env.at, List.set_cons_zero, List.set_cons_succ, List.getD_cons_zero, List.getD_cons_succ, freezeL, resVs, oneOr, Option.map_some, Option.map_none, List.map_cons, List.map_nil, if_true, if_false, Bool.not_true, Bool.not_false, Bool.false_eq_true, reduceIte, decide_true, decide_false, Int.reduceLT, Int.reduceLE, Int.reduceGT, Int.reduceGE, Int.reduceEq, Int.reduceBEq, Int.reduceBNe, load_ptr, ldV_some, cellAt_cells, List.getElem?_cons_zero, List.getElem?_cons_succ, store_ptr, stO_some, setAt_0, setAt_1, setAt_2, setAt_3, setAt_4, setAt_5, setAt_6, setAt_7, setAt_8, setAt_9, setAt_10, setAt_11, setAt_12, cells_int, cells_bool, cells_str, cells_nils, cells_nilp, cells_ptr, cells_sl, cells_u8, cells_u16, cells_agg, get_upd_is, Option.isSome_some, upd_upd, ev1_nchkV, ev1_faV, nchkV_ptr, faV_ptr, ev1_extV, extV_tup, eqptr_nil, eqptr_ptr, Nat.zero_add, Nat.add_zero, qPL0, qPL1, qPL2, qPL3, qPL4, qPL5, beq_self_eq_true, qED0, qED1, placeR]
      exact ⟨_, _, rfl, rfl, rfl⟩
    · left
      have d2 : decide ((r.length : Int) + 2 < ((2 + B : Nat) : Int)) = false := decide_eq_false (by omega)
      have d3 : decide ((r.length : Int) < (B : Int)) = false := decide_eq_false (by omega)
      refine ⟨by omega, by omega, ?_⟩
      have s1 : slcS (.str s) (some (.int .i64 2)) (some (.int .i64 ((2 + B : Nat) : Int))) = some (.str (r.take B)) := by
        have := slcS_mid s 2 (2 + B) (by omega) (by rw [← hs]; simp; omega)
        rw [← hs, show (a :: b :: r).take (2 + B) = a :: b :: r.take B by rw [Nat.add_comm]; rfl] at this
        rw [← hs]
        exact this
      have s2 : slcS (.str s) (some (.int .i64 ((2 + B : Nat) : Int))) none = some (.str (r.drop B)) := by
        have := slcS_from s (2 + B) (by rw [← hs]; simp; omega)
        rw [← hs, show (a :: b :: r).drop (2 + B) = r.drop B by rw [Nat.add_comm]; rfl] at this
        rw [← hs]
        exact this
      have f0 : ∀ (n : Int) (l : List UInt8), fill1 [.int .i64 0, .str []] 0 1 (.int .i64 n) = some [.int .i64 n, .str []] := fun n l => fill_2_0i _ _ _ _
      obtain ⟨z1, S1, a1, a2, a3⟩ := (ha.ext (pl_ext S [.tick 2 0])).app (bytes := 24) (y := .sl [.int .i64 (a.toNat : Int), .str (r.take B)] 1 (some (S.next, 0, 2))) (ds := [.int .i64 (a.toNat : Int), .str (r.take B)]) (m := 1) rfl rfl (by decide) (by simp [fits]; omega)
      have ee : tpC (done ++ [((a.toNat : Int), r.take B)]) = tpC done ++ [.int .i64 (a.toNat : Int), .str (r.take B)] := by rw [tpC_append]; rfl
      simp only [M53b0, E67, n0, x0, x1, lst, d0, d1, d2, d3, wa, wb, w2, w3, s1, s2, a1, u8_gtr, conv_int, ev1_build, ev1_ixsV, ev1_slsV, ev1_lensV', qES0, qES1, qES2, env0, List.length_cons, List.length_nil, Nat.reduceAdd, Nat.reduceSub, List.replicate, List.cons_append, List.nil_append, opd, Env.put, Env.at, List.set_cons_zero, List.set_cons_succ, List.getD_cons_zero, List.getD_cons_succ, freezeL, resVs, oneOr, Option.map_some, Option.map_none, List.map_cons, List.map_nil, if_true, if_false, Bool.not_true, Bool.not_false, Bool.false_eq_true, reduceIte, decide_true, decide_false, Int.reduceLT, Int.reduceLE, Int.reduceGT, Int.reduceGE, Int.reduceEq, Int.reduceBEq, Int.reduceBNe, load_ptr, ldV_some, cellAt_cells, List.getElem?_cons_zero, List.getElem?_cons_succ, store_ptr, stO_some, setAt_0, setAt_1, setAt_2, setAt_3, setAt_4, setAt_5, setAt_6, setAt_7, setAt_8, setAt_9, setAt_10, setAt_11, setAt_12, cells_int, cells_bool, cells_str, cells_nils, cells_nilp, cells_ptr, cells_sl, cells_u8, cells_u16, cells_agg, get_upd_is, Option.isSome_some, upd_upd, ev1_nchkV, ev1_faV, nchkV_ptr, faV_ptr, ev1_extV, extV_tup, eqptr_nil, eqptr_ptr, Nat.zero_add, Nat.add_zero, qPL0, qPL1, qPL2, qPL3, qPL4, qPL5, beq_self_eq_true, qED0, qED1, placeR]
      rw [drawR_ok]; case h => simp (config := { decide := true }) [calm, calmPair, calmTwo, List.range, List.range.loop, sameO_refl, plg0]
      simp only [x1, wb, w2, s2, conv_int, ev1_ixsV, ev1_slsV, qES0, qES1, qES2, env0, List.length_cons, List.length_nil, Nat.reduceAdd, Nat.reduceSub, List.replicate, List.cons_append, List.nil_append, opd, Env.put, Env.at, List.set_cons_zero, List.set_cons_succ, List.getD_cons_zero, List.getD_cons_succ, freezeL, resVs, oneOr, Option.map_some, Option.map_none, List.map_cons, List.map_nil, if_true, if_false, Bool.not_true, Bool.not_false, Bool.false_eq_true, reduceIte, decide_true, decide_false, Int.reduceLT, Int.reduceLE, Int.reduceGT, Int.reduceGE, Int.reduceEq, Int.reduceBEq, Int.reduceBNe, load_ptr, ldV_some, cellAt_cells, List.getElem?_cons_zero, List.getElem?_cons_succ, store_ptr, stO_some, setAt_0, setAt_1, setAt_2, setAt_3, setAt_4, setAt_5, setAt_6, setAt_7, setAt_8, setAt_9, setAt_10, setAt_11, setAt_12, cells_int, cells_bool, cells_str, cells_nils, cells_nilp, cells_ptr, cells_sl, cells_u8, cells_u16, cells_agg, get_upd_is, Option.isSome_some, upd_upd, ev1_nchkV, ev1_faV, nchkV_ptr, faV_ptr, ev1_extV, extV_tup, eqptr_nil, eqptr_ptr, Nat.zero_add, Nat.add_zero, qPL0, qPL1, qPL2, qPL3, qPL4, qPL5, beq_self_eq_true, qED0, qED1, placeR]
      refine ⟨_, _, _, rfl, rfl, ?_⟩
      rw [ee, List.length_append]
      exact a2
theorem get67_val (s : List UInt8) : valR (evT 1000 53 [.str s] St.nil) = some (getV (getL s)) := by
  rw [show (1000 : Nat) = 999 + 1 from rfl, evT_in rfl tab53]
  have lst : lensV' (.str s) = some (.int .i64 (s.length : Nat)) := rfl
  by_cases g : s.length > 64
  · have d0 : decide (((s.length : Nat) : Int) > 64) = true := decide_eq_true (by omega)
    unfold getL
    rw [if_pos g]
    simp only [M53, lst, d0, ev1_lensV', qES0, qES1, qES2, env0, List.length_cons, List.length_nil, Nat.reduceAdd, Nat.reduceSub, List.replicate, List.cons_append, List.nil_append, opd, Env.put, Env.at, List.set_cons_zero, List.set_cons_succ, List.getD_cons_zero, List.getD_cons_succ, freezeL, resVs, oneOr, Option.map_some, Option.map_none, List.map_cons, List.map_nil, if_true, if_false, Bool.not_true, Bool.not_false, Bool.false_eq_true, reduceIte, decide_true, decide_false, Int.reduceLT, Int.reduceLE, Int.reduceGT, Int.reduceGE, Int.reduceEq, Int.reduceBEq, Int.reduceBNe, load_ptr, ldV_some, cellAt_cells, List.getElem?_cons_zero, List.getElem?_cons_succ, store_ptr, stO_some, setAt_0, setAt_1, setAt_2, setAt_3, setAt_4, setAt_5, setAt_6, setAt_7, setAt_8, setAt_9, setAt_10, setAt_11, setAt_12, cells_int, cells_bool, cells_str, cells_nils, cells_nilp, cells_ptr, cells_sl, cells_u8, cells_u16, cells_agg, get_upd_is, Option.isSome_some, upd_upd, ev1_nchkV, ev1_faV, nchkV_ptr, faV_ptr, ev1_extV, extV_tup, eqptr_nil, eqptr_ptr, Nat.zero_add, Nat.add_zero, qPL0, qPL1, qPL2, qPL3, qPL4, qPL5, beq_self_eq_true]
    rfl
  · have d0 : decide (((s.length : Nat) : Int) > 64) = false := decide_eq_false (by omega)
    unfold getL
    rw [if_neg g]
    obtain ⟨R, hR⟩ : ∃ R, getT 65 s = R := ⟨_, rfl⟩
    rw [hR]
    have key : ∀ e, maskE M53b0l e = E67 s .nils → valR (outR M53.res (seqR (blockR 0 (iter (evC tabGl (evT 999) 999 M53b0) M53b0l 999 e St.nil)) (evC tabGl (evT 999) 999 M53r0))) = some (getV R) := by
      intro e he
      refine iter_leave (evC tabGl (evT 999) 999 M53b0) M53b0l (fun i e st => ∃ t acc done, maskE M53b0l e = E67 t acc ∧ OwnG 2 st acc (tpC done) done.length ∧ t.length + 2 * i ≤ 64 ∧ done.length = i ∧ R = (getT (65 - i) t).map (done ++ ·))
        (fun out => valR (outR M53.res (seqR (blockR 0 out) (evC tabGl (evT 999) 999 M53r0))) = some (getV R)) 33 ?_ ?_ 33 0 _ _ 999 (by omega) ⟨s, .nils, [], he, OwnG.nil _ _, by omega, rfl, by rw [← hR]; simp⟩ (by omega)
      · rintro i e st hi ⟨t, acc, done, h1, h2, h3, h4, h5⟩
        rw [h1]
        obtain ⟨f, hf⟩ : ∃ f, 65 - i = f + 1 := ⟨64 - i, by omega⟩
        rw [hf] at h5
        match t, h3, h5 with
        | [], h3, h5 =>
          right
          have n0 := str_ne_nil []
          rw [show (!([] : List UInt8).isEmpty) = false from rfl] at n0
          obtain ⟨q1, q2⟩ := tpV_own h2
          have hRR : R = some done := by rw [h5]; simp [getT]
          refine ⟨?_, fun e' s' hh => ?_⟩
          · rw [hRR]
            simp only [M53, M53r0, M53b0, E67, n0, q2, getV, qES0, qES1, qES2, env0, List.length_cons, List.length_nil, Nat.reduceAdd, Nat.reduceSub, List.replicate, List.cons_append, List.nil_append, opd, Env.put, Env.at, List.set_cons_zero, List.set_cons_succ, List.getD_cons_zero, List.getD_cons_succ, freezeL, resVs, oneOr, Option.map_some, Option.map_none, List.map_cons, List.map_nil, if_true, if_false, Bool.not_true, Bool.not_false, Bool.false_eq_true, reduceIte, decide_true, decide_false, Int.reduceLT, Int.reduceLE, Int.reduceGT, Int.reduceGE, Int.reduceEq, Int.reduceBEq, Int.reduceBNe, load_ptr, ldV_some, cellAt_cells, List.getElem?_cons_zero, List.getElem?_cons_succ, store_ptr, stO_some, setAt_0, setAt_1, setAt_2, setAt_3, setAt_4, setAt_5, setAt_6, setAt_7, setAt_8, setAt_9, setAt_10, setAt_11, setAt_12, cells_int, cells_bool, cells_str, cells_nils, cells_nilp, cells_ptr, cells_sl, cells_u8, cells_u16, cells_agg, get_upd_is, Option.isSome_some, upd_upd, ev1_nchkV, ev1_faV, nchkV_ptr, faV_ptr, ev1_extV, extV_tup, eqptr_nil, eqptr_ptr, Nat.zero_add, Nat.add_zero, qPL0, qPL1, qPL2, qPL3, qPL4, qPL5, beq_self_eq_true]
            simp only [dryV, List.map_cons, List.map_nil, q1, dry1_bool]
          · simp only [M53b0, E67, n0, qES0, qES1, qES2, env0, List.length_cons, List.length_nil, Nat.reduceAdd, Nat.reduceSub, List.replicate, List.cons_append, List.nil_append, opd, Env.put, Env.at, List.set_cons_zero, List.set_cons_succ, List.getD_cons_zero, List.getD_cons_succ, freezeL, resVs, oneOr, Option.map_some, Option.map_none, List.map_cons, List.map_nil, if_true, if_false, Bool.not_true, Bool.not_false, Bool.false_eq_true, reduceIte, decide_true, decide_false, Int.reduceLT, Int.reduceLE, Int.reduceGT, Int.reduceGE, Int.reduceEq, Int.reduceBEq, Int.reduceBNe, load_ptr, ldV_some, cellAt_cells, List.getElem?_cons_zero, List.getElem?_cons_succ, store_ptr, stO_some, setAt_0, setAt_1, setAt_2, setAt_3, setAt_4, setAt_5, setAt_6, setAt_7, setAt_8, setAt_9, setAt_10, setAt_11, setAt_12, cells_int, cells_bool, cells_str, cells_nils, cells_nilp, cells_ptr, cells_sl, cells_u8, cells_u16, cells_agg, get_upd_is, Option.isSome_some, upd_upd, ev1_nchkV, ev1_faV, nchkV_ptr, faV_ptr, ev1_extV, extV_tup, eqptr_nil, eqptr_ptr, Nat.zero_add, Nat.add_zero, qPL0, qPL1, qPL2, qPL3, qPL4, qPL5, beq_self_eq_true] at hh
            cases hh
        | [a], h3, h5 =>
          right
          have n0 := str_ne_nil [a]
          rw [show (!([a] : List UInt8).isEmpty) = true from rfl] at n0
          have l1 : lensV' (.str [a]) = some (.int .i64 1) := rfl
          have d1 : decide ((1 : Int) < 2) = true := rfl
          have hRR : R = none := by rw [h5]; simp [getT]
          refine ⟨?_, fun e' s' hh => ?_⟩
          · rw [hRR]
            simp only [M53, M53b0, E67, n0, l1, d1, getV, ev1_lensV', qES0, qES1, qES2, env0, List.length_cons, List.length_nil, Nat.reduceAdd, Nat.reduceSub, List.replicate, List.cons_append, List.nil_append, opd, Env.put, Env.at, List.set_cons_zero, List.set_cons_succ, List.getD_cons_zero, List.getD_cons_succ, freezeL, resVs, oneOr, Option.map_some, Option.map_none, List.map_cons, List.map_nil, if_true, if_false, Bool.not_true, Bool.not_false, Bool.false_eq_true, reduceIte, decide_true, decide_false, Int.reduceLT, Int.reduceLE, Int.reduceGT, Int.reduceGE, Int.reduceEq, Int.reduceBEq, Int.reduceBNe, load_ptr, ldV_some, cellAt_cells, List.getElem?_cons_zero, List.getElem?_cons_succ, store_ptr, stO_some, setAt_0, setAt_1, setAt_2, setAt_3, setAt_4, setAt_5, setAt_6, setAt_7, setAt_8, setAt_9, setAt_10, setAt_11, setAt_12, cells_int, cells_bool, cells_str, cells_nils, cells_nilp, cells_ptr, cells_sl, cells_u8, cells_u16, cells_agg, get_upd_is, Option.isSome_some, upd_upd, ev1_nchkV, ev1_faV, nchkV_ptr, faV_ptr, ev1_extV, extV_tup, eqptr_nil, eqptr_ptr, Nat.zero_add, Nat.add_zero, qPL0, qPL1, qPL2, qPL3, qPL4, qPL5, beq_self_eq_true]
          · simp only [M53b0, E67, n0, l1, d1, ev1_lensV', qES0, qES1, qES2, env0, List.length_cons, List.length_nil, Nat.reduceAdd, Nat.reduceSub, List.replicate, List.cons_append, List.nil_append, opd, Env.put, Env.at, List.set_cons_zero, List.set_cons_succ, List.getD_cons_zero, List.getD_cons_succ, freezeL, resVs, oneOr, Option.map_some, Option.map_none, List.map_cons, List.map_nil, if_true, if_false, Bool.not_true, Bool.not_false, Bool.false_eq_true, reduceIte, decide_true, decide_false, Int.reduceLT, Int.reduceLE, Int.reduceGT, Int.reduceGE, Int.reduceEq, Int.reduceBEq, Int.reduceBNe, load_ptr, ldV_some, cellAt_cells, List.getElem?_cons_zero, List.getElem?_cons_succ, store_ptr, stO_some, setAt_0, setAt_1, setAt_2, setAt_3, setAt_4, setAt_5, setAt_6, setAt_7, setAt_8, setAt_9, setAt_10, setAt_11, setAt_12, cells_int, cells_bool, cells_str, cells_nils, cells_nilp, cells_ptr, cells_sl, cells_u8, cells_u16, cells_agg, get_upd_is, Option.isSome_some, upd_upd, ev1_nchkV, ev1_faV, nchkV_ptr, faV_ptr, ev1_extV, extV_tup, eqptr_nil, eqptr_ptr, Nat.zero_add, Nat.add_zero, qPL0, qPL1, qPL2, qPL3, qPL4, qPL5, beq_self_eq_true] at hh
            cases hh
        | a :: b :: r, h3, h5 =>
          simp only [List.length_cons] at h3
          rcases get67_round 999 a b r (by omega) st acc done (by omega) h2 with ⟨k1, k2, e', S', acc', k3, k4, k5⟩ | ⟨k1, e', S', k3, k4, k5⟩
          · left
            refine ⟨e', S', k3, r.drop b.toNat, acc', _, k4, k5, by rw [List.length_drop]; omega, by simp [h4], ?_⟩
            rw [h5, show 65 - (i + 1) = f by omega]
            show ((if b.toNat > 40 ∨ r.length < b.toNat then none else (getT f (r.drop b.toNat)).map (((a.toNat : Int), r.take b.toNat) :: ·))).map (done ++ ·) = _
            rw [if_neg (by omega), Option.map_map]
            congr 1
            funext x
            simp
          · right
            rw [k3]
            have hRR : R = none := by
              rw [h5]
              show ((if b.toNat > 40 ∨ r.length < b.toNat then none else (getT f (r.drop b.toNat)).map (((a.toNat : Int), r.take b.toNat) :: ·))).map (done ++ ·) = _
              rw [if_pos k1]; rfl
            rw [hRR]
            refine ⟨?_, fun _ _ h => by cases h⟩
            simp only [M53, k4, k5, getV, qES0, qES1, qES2, env0, List.length_cons, List.length_nil, Nat.reduceAdd, Nat.reduceSub, List.replicate, List.cons_append, List.nil_append, opd, Env.put, Env.at, List.set_cons_zero, List.set_cons_succ, List.getD_cons_zero, List.getD_cons_succ, freezeL, resVs, oneOr, Option.map_some, Option.map_none, List.map_cons, List.map_nil, if_true, if_false, Bool.not_true, Bool.not_false, Bool.false_eq_true, reduceIte, decide_true, decide_false, Int.reduceLT, Int.reduceLE, Int.reduceGT, Int.reduceGE, Int.reduceEq, Int.reduceBEq, Int.reduceBNe, load_ptr, ldV_some, cellAt_cells, List.getElem?_cons_zero, List.getElem?_cons_succ, store_ptr, stO_some, setAt_0, setAt_1, setAt_2, setAt_3, setAt_4, setAt_5, setAt_6, setAt_7, setAt_8, setAt_9, setAt_10, setAt_11, setAt_12, cells_int, cells_bool, cells_str, cells_nils, cells_nilp, cells_ptr, cells_sl, cells_u8, cells_u16, cells_agg, get_upd_is, Option.isSome_some, upd_upd, ev1_nchkV, ev1_faV, nchkV_ptr, faV_ptr, ev1_extV, extV_tup, eqptr_nil, eqptr_ptr, Nat.zero_add, Nat.add_zero, qPL0, qPL1, qPL2, qPL3, qPL4, qPL5, beq_self_eq_true]
      · rintro e st ⟨t, acc, done, h1, h2, h3, h4, h5⟩
        omega
    simp only [M53, lst, d0, evC_loop, ev1_lensV', qES0, qES1, qES2, env0, List.length_cons, List.length_nil, Nat.reduceAdd, Nat.reduceSub, List.replicate, List.cons_append, List.nil_append, opd, Env.put, Env.at, List.set_cons_zero, List.set_cons_succ, List.getD_cons_zero, List.getD_cons_succ, freezeL, resVs, oneOr, Option.map_some, Option.map_none, List.map_cons, List.map_nil, if_true, if_false, Bool.not_true, Bool.not_false, Bool.false_eq_true, reduceIte, decide_true, decide_false, Int.reduceLT, Int.reduceLE, Int.reduceGT, Int.reduceGE, Int.reduceEq, Int.reduceBEq, Int.reduceBNe, load_ptr, ldV_some, cellAt_cells, List.getElem?_cons_zero, List.getElem?_cons_succ, store_ptr, stO_some, setAt_0, setAt_1, setAt_2, setAt_3, setAt_4, setAt_5, setAt_6, setAt_7, setAt_8, setAt_9, setAt_10, setAt_11, setAt_12, cells_int, cells_bool, cells_str, cells_nils, cells_nilp, cells_ptr, cells_sl, cells_u8, cells_u16, cells_agg, get_upd_is, Option.isSome_some, upd_upd, ev1_nchkV, ev1_faV, nchkV_ptr, faV_ptr, ev1_extV, extV_tup, eqptr_nil, eqptr_ptr, Nat.zero_add, Nat.add_zero, qPL0, qPL1, qPL2, qPL3, qPL4, qPL5, beq_self_eq_true]
    exact key _ rfl
def E40 (t : List UInt8) (acc : AV) : Env := [.str t, .undef, .undef, .undef, acc, .undef, .undef, .undef, .undef, .undef, .undef, .undef, .undef, .undef, .undef, .undef, .undef, .undef, .undef, .undef, .undef, .undef, .undef, .undef, .undef, .undef, .undef, .undef, .undef, .undef, .undef, .undef, .undef, .undef, .undef, .undef, .undef, .undef, .undef, .undef, .undef, .undef, .undef, .undef, .undef, .undef, .undef]
theorem get40_round (k : Nat) (a b : UInt8) (r : List UInt8) (hl : r.length ≤ 100) (S : St) (acc : AV) (done : List Tp) (hn : done.length ≤ 100) (ha : OwnG 2 S acc (tpC done) done.length) :
    (b.toNat ≤ 40 ∧ b.toNat ≤ r.length ∧ ∃ e' S' acc', evC tabGl (evT k) k M72b0 (E40 (a :: b :: r) acc) S = some (.nrm, e', S') ∧ maskE M72b0l e' = E40 (r.drop b.toNat) acc' ∧ OwnG 2 S' acc' (tpC (done ++ [((a.toNat : Int), r.take b.toNat)])) (done ++ [((a.toNat : Int), r.take b.toNat)]).length) ∨
    ((b.toNat > 40 ∨ r.length < b.toNat) ∧ ∃ e' S', evC tabGl (evT k) k M72b0 (E40 (a :: b :: r) acc) S = some (.ret, e', S') ∧ e'.getD 2 .undef = .nils ∧ e'.getD 3 .undef = .bool false) := by
  have hb := b.toNat_lt
  have n0 := str_ne_nil (a :: b :: r)
  rw [show (!(a :: b :: r).isEmpty) = true from rfl] at n0
  have x1 : ixsV (.str (a :: b :: r)) (.int .i64 1) = some (.int .u8 (b.toNat : Int)) := ixsV_at (a :: b :: r) 1 (by simp)
  have x0 : ixsV (.str (a :: b :: r)) (.int .i64 0) = some (.int .u8 (a.toNat : Int)) := ixsV_at (a :: b :: r) 0 (by simp)
  obtain ⟨B, hB⟩ : ∃ B, b.toNat = B := ⟨_, rfl⟩
  rw [hB] at x1 hb ⊢
  have wb : IntKind.i64.wrap (B : Int) = (B : Int) := wrapI _ (by omega) (by omega)
  have wa : IntKind.i64.wrap (a.toNat : Int) = (a.toNat : Int) := wrapI _ (by omega) (by have := a.toNat_lt; omega)
  have w2 : IntKind.i64.wrap (2 + (B : Int)) = ((2 + B : Nat) : Int) := (wrapI _ (by omega) (by omega)).trans (by omega)
  have ll : (((a :: b :: r).length : Nat) : Int) = (r.length : Int) + 2 := by simp; omega
  have w3 : IntKind.i64.wrap ((r.length : Int) + 2 - 2) = (r.length : Int) := (wrapI _ (by omega) (by omega)).trans (by omega)
  have d0 : decide ((r.length : Int) + 2 < 2) = false := decide_eq_false (by omega)
  have lst : lensV' (.str (a :: b :: r)) = some (.int .i64 ((r.length : Int) + 2)) := by rw [← ll]; rfl
  generalize hs : a :: b :: r = s at n0 x1 x0 lst
  rw [show S = S.pl [] from rfl]
  by_cases g1 : B > 40
  · right
    have d1 : decide ((B : Int) > 40) = true := decide_eq_true (by omega)
    refine ⟨.inl g1, ?_⟩
    simp only [M72b0, E40, n0, x1, lst, d0, d1, u8_gtr, ev1_ixsV, ev1_lensV', qES0, qES1, qES2, env0, List.length_cons, List.length_nil, Nat.reduceAdd, Nat.reduceSub, List.replicate, List.cons_append, List.nil_append, opd, Env.put, Env.at, List.set_cons_zero, List.set_cons_succ, List.getD_cons_zero, List.getD_cons_succ, freezeL, resVs, oneOr, Option.map_some, Option.map_none, List.map_cons, List.map_nil, if_true, if_false, Bool.not_true, Bool.not_false, Bool.false_eq_true, reduceIte, decide_true, decide_false, Int.reduceLT, Int.reduceLE, Int.reduceGT, Int.reduceGE, Int.reduceEq, Int.reduceBEq, Int.reduceBNe, load_ptr, ldV_some, cellAt_cells, List.getElem?_cons_zero, List.getElem?_cons_succ, store_ptr, stO_some, setAt_0, setAt_1, setAt_2, setAt_3, setAt_4, setAt_5, setAt_6, setAt_7, setAt_8, setAt_9, setAt_10, setAt_11, setAt_12, cells_int, cells_bool, cells_str, cells_nils, cells_nilp, cells_ptr, cells_sl, cells_u8, cells_u16, cells_agg, get_upd_is, Option.isSome_some, upd_upd, ev1_nchkV, ev1_faV, nchkV_ptr, faV_ptr, ev1_extV, extV_tup, eqptr_nil, eqptr_ptr, Nat.zero_add, Nat.add_zero, qPL0, qPL1, qPL2, qPL3, qPL4, qPL5, beq_self_eq_true, qED0, qED1, placeR]
    exact ⟨_, _, rfl, rfl, rfl⟩
  · have d1 : decide ((B : Int) > 40) = false := decide_eq_false (by omega)
    by_cases g2 : r.length < B
    · right
      have d2 : decide ((r.length : Int) + 2 < ((2 + B : Nat) : Int)) = true := decide_eq_true (by omega)
      have d3 : decide ((r.length : Int) < (B : Int)) = true := decide_eq_true (by omega)
      refine ⟨.inr g2, ?_⟩
      simp only [M72b0, E40, n0, x1, lst, d0, d1, d2, d3, wb, w2, w3, u8_gtr, conv_int, ev1_ixsV, ev1_lensV', qES0, qES1, qES2, env0, List.length_cons, List.length_nil, Nat.reduceAdd, Nat.reduceSub, List.replicate, List.cons_append, List.nil_append, opd, Env.put, Env.at, List.set_cons_zero, List.set_cons_succ, List.getD_cons_zero, List.getD_cons_succ, freezeL, resVs, oneOr, Option.map_some, Option.map_none, List.map_cons, List.map_nil, if_true, if_false, Bool.not_true, Bool.not_false, Bool.false_eq_true, reduceIte, decide_true, decide_false, Int.reduceLT, Int.reduceLE, Int.reduceGT, Int.reduceGE, Int.reduceEq, Int.reduceBEq, Int.reduceBNe, load_ptr, ldV_some, cellAt_cells, List.getElem?_cons_zero, List.getElem?_cons_succ, store_ptr, stO_some, setAt_0, setAt_1, setAt_2, setAt_3, setAt_4, setAt_5, setAt_6, setAt_7, setAt_8, setAt_9, setAt_10, setAt_11, setAt_12, cells_int, cells_bool, cells_str, cells_nils, cells_nilp, cells_ptr, cells_sl, cells_u8, cells_u16, cells_agg, get_upd_is, Option.isSome_some, upd_upd, ev1_nchkV, ev1_faV, nchkV_ptr, faV_ptr, ev1_extV, extV_tup, eqptr_nil, eqptr_ptr, Nat.zero_add, Nat.add_zero, qPL0, qPL1, qPL2, qPL3, qPL4, qPL5, beq_self_eq_true, qED0, qED1, placeR]
      exact ⟨_, _, rfl, rfl, rfl⟩
    · left
      have d2 : decide ((r.length : Int) + 2 < ((2 + B : Nat) : Int)) = false := decide_eq_false (by omega)
      have d3 : decide ((r.length : Int) < (B : Int)) = false := decide_eq_false (by omega)
      refine ⟨by omega, by omega, ?_⟩
      have s1 : slcS (.str s) (some (.int .i64 2)) (some (.int .i64 ((2 + B : Nat) : Int))) = some (.str (r.take B)) := by
        have := slcS_mid s 2 (2 + B) (by omega) (by rw [← hs]; simp; omega)
        rw [← hs, show (a :: b :: r).take (2 + B) = a :: b :: r.take B by rw [Nat.add_comm]; rfl] at this
        rw [← hs]
        exact this
      have s2 : slcS (.str s) (some (.int .i64 ((2 + B : Nat) : Int))) none = some (.str (r.drop B)) := by
        have := slcS_from s (2 + B) (by rw [← hs]; simp; omega)
        rw [← hs, show (a :: b :: r).drop (2 + B) = r.drop B by rw [Nat.add_comm]; rfl] at this
        rw [← hs]
        exact this
      have f0 : ∀ (n : Int) (l : List UInt8), fill1 [.int .i64 0, .str []] 0 1 (.int .i64 n) = some [.int .i64 n, .str []] := fun n l => fill_2_0i _ _ _ _
      obtain ⟨z1, S1, a1, a2, a3⟩ := (ha.ext (pl_ext S [.tick 2 0])).app (bytes := 24) (y := .sl [.int .i64 (a.toNat : Int), .str (r.take B)] 1 (some (S.next, 0, 2))) (ds := [.int .i64 (a.toNat : Int), .str (r.take B)]) (m := 1) rfl rfl (by decide) (by simp [fits]; omega)
      have ee : tpC (done ++ [((a.toNat : Int), r.take B)]) = tpC done ++ [.int .i64 (a.toNat : Int), .str (r.take B)] := by rw [tpC_append]; rfl
      simp only [M72b0, E40, n0, x0, x1, lst, d0, d1, d2, d3, wa, wb, w2, w3, s1, s2, a1, u8_gtr, conv_int, ev1_build, ev1_ixsV, ev1_slsV, ev1_lensV', qES0, qES1, qES2, env0, List.length_cons, List.length_nil, Nat.reduceAdd, Nat.reduceSub, List.replicate, List.cons_append, List.nil_append, opd, Env.put, Env.at, List.set_cons_zero, List.set_cons_succ, List.getD_cons_zero, List.getD_cons_succ, freezeL, resVs, oneOr, Option.map_some, Option.map_none, List.map_cons, List.map_nil, if_true, if_false, Bool.not_true, Bool.not_false, Bool.false_eq_true, reduceIte, decide_true, decide_false, Int.reduceLT, Int.reduceLE, Int.reduceGT, Int.reduceGE, Int.reduceEq, Int.reduceBEq, Int.reduceBNe, load_ptr, ldV_some, cellAt_cells, List.getElem?_cons_zero, List.getElem?_cons_succ, store_ptr, stO_some, setAt_0, setAt_1, setAt_2, setAt_3, setAt_4, setAt_5, setAt_6, setAt_7, setAt_8, setAt_9, setAt_10, setAt_11, setAt_12, cells_int, cells_bool, cells_str, cells_nils, cells_nilp, cells_ptr, cells_sl, cells_u8, cells_u16, cells_agg, get_upd_is, Option.isSome_some, upd_upd, ev1_nchkV, ev1_faV, nchkV_ptr, faV_ptr, ev1_extV, extV_tup, eqptr_nil, eqptr_ptr, Nat.zero_add, Nat.add_zero, qPL0, qPL1, qPL2, qPL3, qPL4, qPL5, beq_self_eq_true, qED0, qED1, placeR]
      rw [drawR_ok]; case h => simp (config := { decide := true }) [calm, calmPair, calmTwo, List.range, List.range.loop, sameO_refl, plg0]
      simp only [x1, wb, w2, s2, conv_int, ev1_ixsV, ev1_slsV, qES0, qES1, qES2, env0, List.length_cons, List.length_nil, Nat.reduceAdd, Nat.reduceSub, List.replicate, List.cons_append, List.nil_append, opd, Env.put, Env.at, List.set_cons_zero, List.set_cons_succ, List.getD_cons_zero, List.getD_cons_succ, freezeL, resVs, oneOr, Option.map_some, Option.map_none, List.map_cons, List.map_nil, if_true, if_false, Bool.not_true, Bool.not_false, Bool.false_eq_true, reduceIte, decide_true, decide_false, Int.reduceLT, Int.reduceLE, Int.reduceGT, Int.reduceGE, Int.reduceEq, Int.reduceBEq, Int.reduceBNe, load_ptr, ldV_some, cellAt_cells, List.getElem?_cons_zero, List.getElem?_cons_succ, store_ptr, stO_some, setAt_0, setAt_1, setAt_2, setAt_3, setAt_4, setAt_5, setAt_6, setAt_7, setAt_8, setAt_9, setAt_10, setAt_11, setAt_12, cells_int, cells_bool, cells_str, cells_nils, cells_nilp, cells_ptr, cells_sl, cells_u8, cells_u16, cells_agg, get_upd_is, Option.isSome_some, upd_upd, ev1_nchkV, ev1_faV, nchkV_ptr, faV_ptr, ev1_extV, extV_tup, eqptr_nil, eqptr_ptr, Nat.zero_add, Nat.add_zero, qPL0, qPL1, qPL2, qPL3, qPL4, qPL5, beq_self_eq_true, qED0, qED1, placeR]
      refine ⟨_, _, _, rfl, rfl, ?_⟩
      rw [ee, List.length_append]
      exact a2
theorem get40_val (s : List UInt8) : valR (evT 1000 72 [.str s] St.nil) = some (getV (getL s)) := by
  rw [show (1000 : Nat) = 999 + 1 from rfl, evT_in rfl tab72]
  have lst : lensV' (.str s) = some (.int .i64 (s.length : Nat)) := rfl
  by_cases g : s.length > 64
  · have d0 : decide (((s.length : Nat) : Int) > 64) = true := decide_eq_true (by omega)
    unfold getL
    rw [if_pos g]
    simp only [M72, lst, d0, ev1_lensV', qES0, qES1, qES2, env0, List.length_cons, List.length_nil, Nat.reduceAdd, Nat.reduceSub, List.replicate, List.cons_append, List.nil_append, opd, Env.put, Env.at, List.set_cons_zero, List.set_cons_succ, List.getD_cons_zero, List.getD_cons_succ, freezeL, resVs, oneOr, Option.map_some, Option.map_none, List.map_cons, List.map_nil, if_true, if_false, Bool.not_true, Bool.not_false, Bool.false_eq_true, reduceIte, decide_true, decide_false, Int.reduceLT, Int.reduceLE, Int.reduceGT, Int.reduceGE, Int.reduceEq, Int.reduceBEq, Int.reduceBNe, load_ptr, ldV_some, cellAt_cells, List.getElem?_cons_zero, List.getElem?_cons_succ, store_ptr, stO_some, setAt_0, setAt_1, setAt_2, setAt_3, setAt_4, setAt_5, setAt_6, setAt_7, setAt_8, setAt_9, setAt_10, setAt_11, setAt_12, cells_int, cells_bool, cells_str, cells_nils, cells_nilp, cells_ptr, cells_sl, cells_u8, cells_u16, cells_agg, get_upd_is, Option.isSome_some, upd_upd, ev1_nchkV, ev1_faV, nchkV_ptr, faV_ptr, ev1_extV, extV_tup, eqptr_nil, eqptr_ptr, Nat.zero_add, Nat.add_zero, qPL0, qPL1, qPL2, qPL3, qPL4, qPL5, beq_self_eq_true]
    rfl
  · have d0 : decide (((s.length : Nat) : Int) > 64) = false := decide_eq_false (by omega)
    unfold getL
    rw [if_neg g]
    obtain ⟨R, hR⟩ : ∃ R, getT 65 s = R := ⟨_, rfl⟩
    rw [hR]
    have key : ∀ e, maskE M72b0l e = E40 s .nils → valR (outR M72.res (seqR (blockR 0 (iter (evC tabGl (evT 999) 999 M72b0) M72b0l 999 e St.nil)) (evC tabGl (evT 999) 999 M72r0))) = some (getV R) := by
      intro e he
      refine iter_leave (evC tabGl (evT 999) 999 M72b0) M72b0l (fun i e st => ∃ t acc done, maskE M72b0l e = E40 t acc ∧ OwnG 2 st acc (tpC done) done.length ∧ t.length + 2 * i ≤ 64 ∧ done.length = i ∧ R = (getT (65 - i) t).map (done ++ ·))
        (fun out => valR (outR M72.res (seqR (blockR 0 out) (evC tabGl (evT 999) 999 M72r0))) = some (getV R)) 33 ?_ ?_ 33 0 _ _ 999 (by omega) ⟨s, .nils, [], he, OwnG.nil _ _, by omega, rfl, by rw [← hR]; simp⟩ (by omega)
      · rintro i e st hi ⟨t, acc, done, h1, h2, h3, h4, h5⟩
        rw [h1]
        obtain ⟨f, hf⟩ : ∃ f, 65 - i = f + 1 := ⟨64 - i, by omega⟩
        rw [hf] at h5
        match t, h3, h5 with
        | [], h3, h5 =>
          right
          have n0 := str_ne_nil []
          rw [show (!([] : List UInt8).isEmpty) = false from rfl] at n0
          obtain ⟨q1, q2⟩ := tpV_own h2
          have hRR : R = some done := by rw [h5]; simp [getT]
          refine ⟨?_, fun e' s' hh => ?_⟩
          · rw [hRR]
            simp only [M72, M72r0, M72b0, E40, n0, q2, getV, qES0, qES1, qES2, env0, List.length_cons, List.length_nil, Nat.reduceAdd, Nat.reduceSub, List.replicate, List.cons_append, List.nil_append, opd, Env.put, Env.at, List.set_cons_zero, List.set_cons_succ, List.getD_cons_zero, List.getD_cons_succ, freezeL, resVs, oneOr, Option.map_some, Option.map_none, List.map_cons, List.map_nil, if_true, if_false, Bool.not_true, Bool.not_false, Bool.false_eq_true, reduceIte, decide_true, decide_false, Int.reduceLT, Int.reduceLE, Int.reduceGT, Int.reduceGE, Int.reduceEq, Int.reduceBEq, Int.reduceBNe, load_ptr, ldV_some, cellAt_cells, List.getElem?_cons_zero, List.getElem?_cons_succ, store_ptr, stO_some, setAt_0, setAt_1, setAt_2, setAt_3, setAt_4, setAt_5, setAt_6, setAt_7, setAt_8, setAt_9, setAt_10, setAt_11, setAt_12, cells_int, cells_bool, cells_str, cells_nils, cells_nilp, cells_ptr, cells_sl, cells_u8, cells_u16, cells_agg, get_upd_is, Option.isSome_some, upd_upd, ev1_nchkV, ev1_faV, nchkV_ptr, faV_ptr, ev1_extV, extV_tup, eqptr_nil, eqptr_ptr, Nat.zero_add, Nat.add_zero, qPL0, qPL1, qPL2, qPL3, qPL4, qPL5, beq_self_eq_true]
            simp only [dryV, List.map_cons, List.map_nil, q1, dry1_bool]
          · simp only [M72b0, E40, n0, qES0, qES1, qES2, env0, List.length_cons, List.length_nil, Nat.reduceAdd, Nat.reduceSub, List.replicate, List.cons_append, List.nil_append, opd, Env.put, Env.at, List.set_cons_zero, List.set_cons_succ, List.getD_cons_zero, List.getD_cons_succ, freezeL, resVs, oneOr, Option.map_some, Option.map_none, List.map_cons, List.map_nil, if_true, if_false, Bool.not_true, Bool.not_false, Bool.false_eq_true, reduceIte, decide_true, decide_false, Int.reduceLT, Int.reduceLE, Int.reduceGT, Int.reduceGE, Int.reduceEq, Int.reduceBEq, Int.reduceBNe, load_ptr, ldV_some, cellAt_cells, List.getElem?_cons_zero, List.getElem?_cons_succ, store_ptr, stO_some, setAt_0, setAt_1, setAt_2, setAt_3, setAt_4, setAt_5, setAt_6, setAt_7, setAt_8, setAt_9, setAt_10, setAt_11, setAt_12, cells_int, cells_bool, cells_str, cells_nils, cells_nilp, cells_ptr, cells_sl, cells_u8, cells_u16, cells_agg, get_upd_is, Option.isSome_some, upd_upd, ev1_nchkV, ev1_faV, nchkV_ptr, faV_ptr, ev1_extV, extV_tup, eqptr_nil, eqptr_ptr, Nat.zero_add, Nat.add_zero, qPL0, qPL1, qPL2, qPL3, qPL4, qPL5, beq_self_eq_true] at hh
            cases hh
        | [a], h3, h5 =>
          right
          have n0 := str_ne_nil [a]
          rw [show (!([a] : List UInt8).isEmpty) = true from rfl] at n0
          have l1 : lensV' (.str [a]) = some (.int .i64 1) := rfl
          have d1 : decide ((1 : Int) < 2) = true := rfl
          have hRR : R = none := by rw [h5]; simp [getT]
          refine ⟨?_, fun e' s' hh => ?_⟩
          · rw [hRR]
            simp only [M72, M72b0, E40, n0, l1, d1, getV, ev1_lensV', qES0, qES1, qES2, env0, List.length_cons, List.length_nil, Nat.reduceAdd, Nat.reduceSub, List.replicate, List.cons_append, List.nil_append, opd, Env.put, Env.at, List.set_cons_zero, List.set_cons_succ, List.getD_cons_zero, List.getD_cons_succ, freezeL, resVs, oneOr, Option.map_some, Option.map_none, List.map_cons, List.map_nil, if_true, if_false, Bool.not_true, Bool.not_false, Bool.false_eq_true, reduceIte, decide_true, decide_false, Int.reduceLT, Int.reduceLE, Int.reduceGT, Int.reduceGE, Int.reduceEq, Int.reduceBEq, Int.reduceBNe, load_ptr, ldV_some, cellAt_cells, List.getElem?_cons_zero, List.getElem?_cons_succ, store_ptr, stO_some, setAt_0, setAt_1, setAt_2, setAt_3, setAt_4, setAt_5, setAt_6, setAt_7, setAt_8, setAt_9, setAt_10, setAt_11, setAt_12, cells_int, cells_bool, cells_str, cells_nils, cells_nilp, cells_ptr, cells_sl, cells_u8, cells_u16, cells_agg, get_upd_is, Option.isSome_some, upd_upd, ev1_nchkV, ev1_faV, nchkV_ptr, faV_ptr, ev1_extV, extV_tup, eqptr_nil, eqptr_ptr, Nat.zero_add, Nat.add_zero, qPL0, qPL1, qPL2, qPL3, qPL4, qPL5, beq_self_eq_true]
          · simp only [M72b0, E40, n0, l1, d1, ev1_lensV', qES0, qES1, qES2, env0, List.length_cons, List.length_nil, Nat.reduceAdd, Nat.reduceSub, List.replicate, List.cons_append, List.nil_append, opd, Env.put, Env.at, List.set_cons_zero, List.set_cons_succ, List.getD_cons_zero, List.getD_cons_succ, freezeL, resVs, oneOr, Option.map_some, Option.map_none, List.map_cons, List.map_nil, if_true, if_false, Bool.not_true, Bool.not_false, Bool.false_eq_true, reduceIte, decide_true, decide_false, Int.reduceLT, Int.reduceLE, Int.reduceGT, Int.reduceGE, Int.reduceEq, Int.reduceBEq, Int.reduceBNe, load_ptr, ldV_some, cellAt_cells, List.getElem?_cons_zero, List.getElem?_cons_succ, store_ptr, stO_some, setAt_0, setAt_1, setAt_2, setAt_3, setAt_4, setAt_5, setAt_6, setAt_7, setAt_8, setAt_9, setAt_10, setAt_11, setAt_12, cells_int, cells_bool, cells_str, cells_nils, cells_nilp, cells_ptr, cells_sl, cells_u8, cells_u16, cells_agg, get_upd_is, Option.isSome_some, upd_upd, ev1_nchkV, ev1_faV, nchkV_ptr, faV_ptr, ev1_extV, extV_tup, eqptr_nil, eqptr_ptr, Nat.zero_add, Nat.add_zero, qPL0, qPL1, qPL2, qPL3, qPL4, qPL5, beq_self_eq_true] at hh
            cases hh
        | a :: b :: r, h3, h5 =>
          simp only [List.length_cons] at h3
          rcases get40_round 999 a b r (by omega) st acc done (by omega) h2 with ⟨k1, k2, e', S', acc', k3, k4, k5⟩ | ⟨k1, e', S', k3, k4, k5⟩
          · left
            refine ⟨e', S', k3, r.drop b.toNat, acc', _, k4, k5, by rw [List.length_drop]; omega, by simp [h4], ?_⟩
            rw [h5, show 65 - (i + 1) = f by omega]
            show ((if b.toNat > 40 ∨ r.length < b.toNat then none else (getT f (r.drop b.toNat)).map (((a.toNat : Int), r.take b.toNat) :: ·))).map (done ++ ·) = _
            rw [if_neg (by omega), Option.map_map]
            congr 1
            funext x
            simp
          · right
            rw [k3]
            have hRR : R = none := by
              rw [h5]
              show ((if b.toNat > 40 ∨ r.length < b.toNat then none else (getT f (r.drop b.toNat)).map (((a.toNat : Int), r.take b.toNat) :: ·))).map (done ++ ·) = _
              rw [if_pos k1]; rfl
            rw [hRR]
            refine ⟨?_, fun _ _ h => by cases h⟩
            simp only [M72, k4, k5, getV, qES0, qES1, qES2, env0, List.length_cons, List.length_nil, Nat.reduceAdd, Nat.reduceSub, List.replicate, List.cons_append, List.nil_append, opd, Env.put, Env.at, List.set_cons_zero, List.set_cons_succ, List.getD_cons_zero, List.getD_cons_succ, freezeL, resVs, oneOr, Option.map_some, Option.map_none, List.map_cons, List.map_nil, if_true, if_false, Bool.not_true, Bool.not_false, Bool.false_eq_true, reduceIte, decide_true, decide_false, Int.reduceLT, Int.reduceLE, Int.reduceGT, Int.reduceGE, Int.reduceEq, Int.reduceBEq, Int.reduceBNe, load_ptr, ldV_some, cellAt_cells, List.getElem?_cons_zero, List.getElem?_cons_succ, store_ptr, stO_some, setAt_0, setAt_1, setAt_2, setAt_3, setAt_4, setAt_5, setAt_6, setAt_7, setAt_8, setAt_9, setAt_10, setAt_11, setAt_12, cells_int, cells_bool, cells_str, cells_nils, cells_nilp, cells_ptr, cells_sl, cells_u8, cells_u16, cells_agg, get_upd_is, Option.isSome_some, upd_upd, ev1_nchkV, ev1_faV, nchkV_ptr, faV_ptr, ev1_extV, extV_tup, eqptr_nil, eqptr_ptr, Nat.zero_add, Nat.add_zero, qPL0, qPL1, qPL2, qPL3, qPL4, qPL5, beq_self_eq_true]
      · rintro e st ⟨t, acc, done, h1, h2, h3, h4, h5⟩
        omega
    simp only [M72, lst, d0, evC_loop, ev1_lensV', qES0, qES1, qES2, env0, List.length_cons, List.length_nil, Nat.reduceAdd, Nat.reduceSub, List.replicate, List.cons_append, List.nil_append, opd, Env.put, Env.at, List.set_cons_zero, List.set_cons_succ, List.getD_cons_zero, List.getD_cons_succ, freezeL, resVs, oneOr, Option.map_some, Option.map_none, List.map_cons, List.map_nil, if_true, if_false, Bool.not_true, Bool.not_false, Bool.false_eq_true, reduceIte, decide_true, decide_false, Int.reduceLT, Int.reduceLE, Int.reduceGT, Int.reduceGE, Int.reduceEq, Int.reduceBEq, Int.reduceBNe, load_ptr, ldV_some, cellAt_cells, List.getElem?_cons_zero, List.getElem?_cons_succ, store_ptr, stO_some, setAt_0, setAt_1, setAt_2, setAt_3, setAt_4, setAt_5, setAt_6, setAt_7, setAt_8, setAt_9, setAt_10, setAt_11, setAt_12, cells_int, cells_bool, cells_str, cells_nils, cells_nilp, cells_ptr, cells_sl, cells_u8, cells_u16, cells_agg, get_upd_is, Option.isSome_some, upd_upd, ev1_nchkV, ev1_faV, nchkV_ptr, faV_ptr, ev1_extV, extV_tup, eqptr_nil, eqptr_ptr, Nat.zero_add, Nat.add_zero, qPL0, qPL1, qPL2, qPL3, qPL4, qPL5, beq_self_eq_true]
    exact key _ rfl
end Go.Proofs.YthcblggiojpmcaaDoor
/- tuple.Find, as the evaluator answers it; lists of parameters read out of values. No conditions. -/
set_option linter.unusedSimpArgs false
set_option linter.unusedVariables false
set_option maxRecDepth 100000
set_option maxHeartbeats 4000000
namespace Go.Proofs.YthcblggiojpmcaaDoor
open Go Go.Ab
def findT (id : Int) : List Tp → Option (List UInt8)
  | [] => none
  | t :: l => if t.1 = id then some t.2 else findT id l
def findV (r : Option (List UInt8)) : AV := match r with
  | some x => .tup [.str x, .bool true]
  | none => .tup [.str [], .bool false]
theorem findT_skip (id : Int) (l : List Tp) : ∀ i, (∀ j (hj : j < l.length), j < i → l[j].1 ≠ id) → findT id l = findT id (l.drop i) := by
  intro i
  induction i generalizing l with
  | zero => intro _; rfl
  | succ i ih =>
    intro h
    cases l with
    | nil => rfl
    | cons t l =>
      have h0 : t.1 ≠ id := h 0 (by simp) (by omega)
      show (if t.1 = id then some t.2 else findT id l) = _
      rw [if_neg h0]
      exact ih l (fun j hj hi => h (j + 1) (by simpa using hj) (by omega))
def E68 (v : AV) (id : Int) (n : Nat) (i : Int) : Env := [.undef, .int .i64 id, .undef, .undef, .undef, .undef, .undef, .undef, v, .int .i64 (n : Nat), .int .i64 i, .undef, .undef, .undef, .undef, .undef, .undef, .undef, .undef, .undef, .undef]
theorem find_val {v : AV} {l : List Tp} (h : IsTp v l) (id : Int) (hl : l.length ≤ 100) : valR (evT 1000 55 [v, .int .i64 id] St.nil) = some (findV (findT id l)) := by
  rw [show (1000 : Nat) = 999 + 1 from rfl, evT_in rfl tab55]
  have ln := h.len
  have key : ∀ e, maskE M55b0l e = E68 v id l.length 0 → valR (outR M55.res (seqR (blockR 0 (iter (evC tabGl (evT 999) 999 M55b0) M55b0l 999 e St.nil)) (evC tabGl (evT 999) 999 M55r0))) = some (findV (findT id l)) := by
    intro e he
    refine iter_leave (evC tabGl (evT 999) 999 M55b0) M55b0l (fun i e st => maskE M55b0l e = E68 v id l.length (i : Int) ∧ ∀ j (hj : j < l.length), j < i → l[j].1 ≠ id)
      (fun out => valR (outR M55.res (seqR (blockR 0 out) (evC tabGl (evT 999) 999 M55r0))) = some (findV (findT id l))) l.length ?_ ?_ l.length 0 _ _ 999 (by omega) ⟨he, fun j _ hj => by omega⟩ (by omega)
    · rintro i e st hi ⟨h1, h4⟩
      rw [h1]
      obtain ⟨r, hr⟩ := h.ixa i hi
      have hs := findT_skip id l i h4
      rw [List.drop_eq_getElem_cons hi] at hs
      have hne : ∀ (hx : l[i].1 ≠ id) j (hj : j < l.length), j < i + 1 → l[j].1 ≠ id := by
        intro hx j hj hji
        by_cases hji' : j < i
        · exact h4 j hj hji'
        · have : j = i := by omega
          subst this; exact hx
      obtain ⟨⟨a, val⟩, hx⟩ : ∃ t, l[i] = t := ⟨_, rfl⟩
      rw [hx] at hr hs hne
      have d0 : decide ((i : Int) < (l.length : Nat)) = true := decide_eq_true (by omega)
      have w1 : IntKind.i64.wrap ((i : Int) + 1) = ((i + 1 : Nat) : Int) := (wrapI _ (by omega) (by omega)).trans (by omega)
      have c2 : Ab.cut (.int .i64 a :: .str val :: r) 0 (some 2) = some (.agg [.int .i64 a, .str val]) := by simp [Ab.cut]
      rw [show st = st.pl [] from rfl]
      by_cases g : a = id
      · right
        have q : (a == id) = true := by simp [g]
        have hf : findT id l = some val := by
          rw [hs]; show (if a = id then some val else _) = _; rw [if_pos g]
        rw [hf]
        refine ⟨?_, fun e' s' hh => ?_⟩
        · simp only [M55, M55b0, E68, hr, c2, d0, q, w1, findV, loadR_rp, qES0, qES1, qES2, env0, List.length_cons, List.length_nil, Nat.reduceAdd, Nat.reduceSub, List.replicate, List.cons_append, List.nil_append, opd, Env.put, Env.at, List.set_cons_zero, List.set_cons_succ, List.getD_cons_zero, List.getD_cons_succ, freezeL, resVs, oneOr, Option.map_some, Option.map_none, List.map_cons, List.map_nil, if_true, if_false, Bool.not_true, Bool.not_false, Bool.false_eq_true, reduceIte, decide_true, decide_false, Int.reduceLT, Int.reduceLE, Int.reduceGT, Int.reduceGE, Int.reduceEq, Int.reduceBEq, Int.reduceBNe, load_ptr, ldV_some, cellAt_cells, List.getElem?_cons_zero, List.getElem?_cons_succ, store_ptr, stO_some, setAt_0, setAt_1, setAt_2, setAt_3, setAt_4, setAt_5, setAt_6, setAt_7, setAt_8, setAt_9, setAt_10, setAt_11, setAt_12, cells_int, cells_bool, cells_str, cells_nils, cells_nilp, cells_ptr, cells_sl, cells_u8, cells_u16, cells_agg, get_upd_is, Option.isSome_some, upd_upd, ev1_nchkV, ev1_faV, nchkV_ptr, faV_ptr, ev1_extV, extV_tup, eqptr_nil, eqptr_ptr, Nat.zero_add, Nat.add_zero, qPL0, qPL1, qPL2, qPL3, qPL4, qPL5, beq_self_eq_true]
        · simp only [M55b0, E68, hr, c2, d0, q, w1, loadR_rp, qES0, qES1, qES2, env0, List.length_cons, List.length_nil, Nat.reduceAdd, Nat.reduceSub, List.replicate, List.cons_append, List.nil_append, opd, Env.put, Env.at, List.set_cons_zero, List.set_cons_succ, List.getD_cons_zero, List.getD_cons_succ, freezeL, resVs, oneOr, Option.map_some, Option.map_none, List.map_cons, List.map_nil, if_true, if_false, Bool.not_true, Bool.not_false, Bool.false_eq_true, reduceIte, decide_true, decide_false, Int.reduceLT, Int.reduceLE, Int.reduceGT, Int.reduceGE, Int.reduceEq, Int.reduceBEq, Int.reduceBNe, load_ptr, ldV_some, cellAt_cells, List.getElem?_cons_zero, List.getElem?_cons_succ, store_ptr, stO_some, setAt_0, setAt_1, setAt_2, setAt_3, setAt_4, setAt_5, setAt_6, setAt_7, setAt_8, setAt_9, setAt_10, setAt_11, setAt_12, cells_int, cells_bool, cells_str, cells_nils, cells_nilp, cells_ptr, cells_sl, cells_u8, cells_u16, cells_agg, get_upd_is, Option.isSome_some, upd_upd, ev1_nchkV, ev1_faV, nchkV_ptr, faV_ptr, ev1_extV, extV_tup, eqptr_nil, eqptr_ptr, Nat.zero_add, Nat.add_zero, qPL0, qPL1, qPL2, qPL3, qPL4, qPL5, beq_self_eq_true] at hh
          cases hh
      · left
        have q : (a == id) = false := by simp [g]
        simp only [M55b0, E68, hr, c2, d0, q, w1, loadR_rp, qES0, qES1, qES2, env0, List.length_cons, List.length_nil, Nat.reduceAdd, Nat.reduceSub, List.replicate, List.cons_append, List.nil_append, opd, Env.put, Env.at, List.set_cons_zero, List.set_cons_succ, List.getD_cons_zero, List.getD_cons_succ, freezeL, resVs, oneOr, Option.map_some, Option.map_none, List.map_cons, List.map_nil, if_true, if_false, Bool.not_true, Bool.not_false, Bool.false_eq_true, reduceIte, decide_true, decide_false, Int.reduceLT, Int.reduceLE, Int.reduceGT, Int.reduceGE, Int.reduceEq, Int.reduceBEq, Int.reduceBNe, load_ptr, ldV_some, cellAt_cells, List.getElem?_cons_zero, List.getElem?_cons_succ, store_ptr, stO_some, setAt_0, setAt_1, setAt_2, setAt_3, setAt_4, setAt_5, setAt_6, setAt_7, setAt_8, setAt_9, setAt_10, setAt_11, setAt_12, cells_int, cells_bool, cells_str, cells_nils, cells_nilp, cells_ptr, cells_sl, cells_u8, cells_u16, cells_agg, get_upd_is, Option.isSome_some, upd_upd, ev1_nchkV, ev1_faV, nchkV_ptr, faV_ptr, ev1_extV, extV_tup, eqptr_nil, eqptr_ptr, Nat.zero_add, Nat.add_zero, qPL0, qPL1, qPL2, qPL3, qPL4, qPL5, beq_self_eq_true]
        exact ⟨_, _, rfl, rfl, hne g⟩
    · rintro e st ⟨h1, h4⟩
      rw [h1]
      have hs := findT_skip id l l.length (fun j hj _ => h4 j hj hj)
      rw [List.drop_length] at hs
      have d0 : decide (((l.length : Nat) : Int) < ((l.length : Nat) : Int)) = false := decide_eq_false (by omega)
      rw [hs]
      refine ⟨?_, fun e' s' hh => ?_⟩
      · simp only [M55, M55r0, M55b0, E68, d0, findT, findV, qES0, qES1, qES2, env0, List.length_cons, List.length_nil, Nat.reduceAdd, Nat.reduceSub, List.replicate, List.cons_append, List.nil_append, opd, Env.put, Env.at, List.set_cons_zero, List.set_cons_succ, List.getD_cons_zero, List.getD_cons_succ, freezeL, resVs, oneOr, Option.map_some, Option.map_none, List.map_cons, List.map_nil, if_true, if_false, Bool.not_true, Bool.not_false, Bool.false_eq_true, reduceIte, decide_true, decide_false, Int.reduceLT, Int.reduceLE, Int.reduceGT, Int.reduceGE, Int.reduceEq, Int.reduceBEq, Int.reduceBNe, load_ptr, ldV_some, cellAt_cells, List.getElem?_cons_zero, List.getElem?_cons_succ, store_ptr, stO_some, setAt_0, setAt_1, setAt_2, setAt_3, setAt_4, setAt_5, setAt_6, setAt_7, setAt_8, setAt_9, setAt_10, setAt_11, setAt_12, cells_int, cells_bool, cells_str, cells_nils, cells_nilp, cells_ptr, cells_sl, cells_u8, cells_u16, cells_agg, get_upd_is, Option.isSome_some, upd_upd, ev1_nchkV, ev1_faV, nchkV_ptr, faV_ptr, ev1_extV, extV_tup, eqptr_nil, eqptr_ptr, Nat.zero_add, Nat.add_zero, qPL0, qPL1, qPL2, qPL3, qPL4, qPL5, beq_self_eq_true]
      · simp only [M55b0, E68, d0, qES0, qES1, qES2, env0, List.length_cons, List.length_nil, Nat.reduceAdd, Nat.reduceSub, List.replicate, List.cons_append, List.nil_append, opd, Env.put, Env.at, List.set_cons_zero, List.set_cons_succ, List.getD_cons_zero, List.getD_cons_succ, freezeL, resVs, oneOr, Option.map_some, Option.map_none, List.map_cons, List.map_nil, if_true, if_false, Bool.not_true, Bool.not_false, Bool.false_eq_true, reduceIte, decide_true, decide_false, Int.reduceLT, Int.reduceLE, Int.reduceGT, Int.reduceGE, Int.reduceEq, Int.reduceBEq, Int.reduceBNe, load_ptr, ldV_some, cellAt_cells, List.getElem?_cons_zero, List.getElem?_cons_succ, store_ptr, stO_some, setAt_0, setAt_1, setAt_2, setAt_3, setAt_4, setAt_5, setAt_6, setAt_7, setAt_8, setAt_9, setAt_10, setAt_11, setAt_12, cells_int, cells_bool, cells_str, cells_nils, cells_nilp, cells_ptr, cells_sl, cells_u8, cells_u16, cells_agg, get_upd_is, Option.isSome_some, upd_upd, ev1_nchkV, ev1_faV, nchkV_ptr, faV_ptr, ev1_extV, extV_tup, eqptr_nil, eqptr_ptr, Nat.zero_add, Nat.add_zero, qPL0, qPL1, qPL2, qPL3, qPL4, qPL5, beq_self_eq_true] at hh
        cases hh
  simp only [M55, ln, evC_loop, qES0, qES1, qES2, env0, List.length_cons, List.length_nil, Nat.reduceAdd, Nat.reduceSub, List.replicate, List.cons_append, List.nil_append, opd, Env.put, Env.at, List.set_cons_zero, List.set_cons_succ, List.getD_cons_zero, List.getD_cons_succ, freezeL, resVs, oneOr, Option.map_some, Option.map_none, List.map_cons, List.map_nil, if_true, if_false, Bool.not_true, Bool.not_false, Bool.false_eq_true, reduceIte, decide_true, decide_false, Int.reduceLT, Int.reduceLE, Int.reduceGT, Int.reduceGE, Int.reduceEq, Int.reduceBEq, Int.reduceBNe, load_ptr, ldV_some, cellAt_cells, List.getElem?_cons_zero, List.getElem?_cons_succ, store_ptr, stO_some, setAt_0, setAt_1, setAt_2, setAt_3, setAt_4, setAt_5, setAt_6, setAt_7, setAt_8, setAt_9, setAt_10, setAt_11, setAt_12, cells_int, cells_bool, cells_str, cells_nils, cells_nilp, cells_ptr, cells_sl, cells_u8, cells_u16, cells_agg, get_upd_is, Option.isSome_some, upd_upd, ev1_nchkV, ev1_faV, nchkV_ptr, faV_ptr, ev1_extV, extV_tup, eqptr_nil, eqptr_ptr, Nat.zero_add, Nat.add_zero, qPL0, qPL1, qPL2, qPL3, qPL4, qPL5, beq_self_eq_true]
  exact key _ rfl
/-! Read out of values. -/
def toPairs : List AV → Option (List Tp)
  | [] => some []
  | .int .i64 a :: .str b :: r => (toPairs r).map ((a, b) :: ·)
  | _ => none
theorem toPairs_tpC (l : List Tp) : toPairs (tpC l) = some l := by
  induction l with
  | nil => rfl
  | cons t l ih =>
    show (toPairs (tpC l)).map ((t.1, t.2) :: ·) = _
    rw [ih]; rfl
theorem toPairs_of : ∀ (cs : List AV) (l : List Tp), toPairs cs = some l → cs = tpC l
  | [], l, h => by cases h; rfl
  | .int .i64 a :: .str b :: r, l, h => by
    obtain ⟨m, h1, rfl⟩ := Option.map_eq_some_iff.1 (show (toPairs r).map ((a, b) :: ·) = some l from h)
    rw [toPairs_of r m h1]; rfl
def toTp : AV → Option (List Tp)
  | .nils => some []
  | .sl cs n none => match toPairs cs with
    | some l => if l.length = n then some l else none
    | none => none
  | _ => none
theorem toTp_of {v : AV} {l : List Tp} (h : toTp v = some l) : IsTp v l ∧ Ab.flat v = true := by
  unfold toTp at h
  split at h
  · cases h; exact ⟨.inl ⟨rfl, rfl⟩, rfl⟩
  · rename_i cs n
    split at h
    · rename_i m hm
      split at h
      · rename_i hn
        cases h
        have := toPairs_of cs l hm
        subst this
        refine ⟨.inr ⟨none, by rw [hn]⟩, ?_⟩
        have hf : ∀ l : List Tp, flatL (tpC l) = true := by
          intro l
          induction l with
          | nil => rfl
          | cons t l ih => simpa [tpC, flatL, Ab.flat] using ih
        simp [Ab.flat, hf]
      · cases h
    · cases h
  · cases h
theorem toTp_is {v : AV} {l : List Tp} (h : IsTp v l) : toTp (dry1 v) = some l := by
  rcases h with ⟨rfl, rfl⟩ | ⟨tk, rfl⟩
  · rfl
  · show (match toPairs (tpC l) with
      | some m => if m.length = l.length then some m else none
      | none => none) = some l
    rw [toPairs_tpC]
    exact if_pos rfl
theorem tpV_is (l : List Tp) : IsTp (tpV l) l := by
  unfold tpV
  split
  · rename_i h; exact .inl ⟨rfl, h⟩
  · exact .inr ⟨none, rfl⟩
theorem tpV_flat (l : List Tp) : Ab.flat (tpV l) = true := by
  have h := toTp_is (tpV_is l)
  have hd : dry1 (tpV l) = tpV l := by unfold tpV; split <;> rfl
  rw [hd] at h
  exact (toTp_of h).2
/-! The functions as what they answer. -/
def hTPut : List AV → St → Option AV
  | [v], _ => match toTp v with
    | some l => if l.length ≤ 100 then some (.tup [.str (if putOk l then encL l else []), .bool (decide (putOk l))]) else none
    | none => none
  | _, _ => none
def hTGet : List AV → St → Option AV
  | [.str s], _ => some (getV (getL s))
  | _, _ => none
def hFind : List AV → St → Option AV
  | [v, .int .i64 id], _ => match toTp v with
    | some l => if l.length ≤ 100 then some (findV (findT id l)) else none
    | none => none
  | _, _ => none
theorem getV_flat (r : Option (List Tp)) : Ab.flat (getV r) = true := by
  cases r with
  | none => rfl
  | some l => simp [getV, Ab.flat, flatL, tpV_flat]
theorem pureTPut {call : Calls'} {F : Nat} (h : ∀ v l, IsTp v l → l.length ≤ 100 → valR (call F [v] St.nil) = some (.tup [.str (if putOk l then encL l else []), .bool (decide (putOk l))])) : PureOk call F hTPut := pureOk_of (by
  intro args s v hv
  unfold hTPut at hv
  split at hv
  · split at hv
    · rename_i l hl
      obtain ⟨h1, h2⟩ := toTp_of hl
      split at hv
      · rename_i hn
        cases hv
        exact ⟨rfl, by simp [flatL, h2], h _ _ h1 hn⟩
      · cases hv
    · cases hv
  · cases hv)
theorem pureTGet {call : Calls'} {F : Nat} (h : ∀ s, valR (call F [.str s] St.nil) = some (getV (getL s))) : PureOk call F hTGet := pureOk_of (by
  intro args s v hv
  unfold hTGet at hv
  split at hv
  · cases hv; exact ⟨getV_flat _, rfl, h _⟩
  · cases hv)
theorem pureFind {call : Calls'} {F : Nat} (h : ∀ v l id, IsTp v l → l.length ≤ 100 → valR (call F [v, .int .i64 id] St.nil) = some (findV (findT id l))) : PureOk call F hFind := pureOk_of (by
  intro args s v hv
  unfold hFind at hv
  split at hv
  · split at hv
    · rename_i l hl
      obtain ⟨h1, h2⟩ := toTp_of hl
      split at hv
      · rename_i hn
        cases hv
        refine ⟨?_, by simp [flatL, h2, Ab.flat], h _ _ _ h1 hn⟩
        cases findT _ l <;> rfl
      · cases hv
    · cases hv
  · cases hv)
end Go.Proofs.YthcblggiojpmcaaDoor
