/- The document's PutTuples, as the evaluator answers it. No conditions. -/
import Derived.Test.YtbeimfhodgmjhaaDoorTupPut
set_option linter.unusedSimpArgs false
set_option linter.unusedVariables false
set_option maxRecDepth 100000
set_option maxHeartbeats 4000000
namespace Go.Ab
open Go
theorem str_add (a b : List UInt8) (h : a.length + b.length ≤ 1000000000) : binV .add (.str a) (.str b) = some (.str (a ++ b)) := by
  show (if a.length + b.length ≤ 140737488355328 then some (AV.str (a ++ b)) else none) = _
  rw [if_pos (by omega)]
theorem faV_rp (o : Nat) (cs : List AV) (h : o ≤ cs.length) : faV o (.rp cs) = some (.rp (cs.drop o)) := by
  show (if o ≤ cs.length then some (AV.rp (cs.drop o)) else none) = _
  rw [if_pos h]
theorem b2s_two (a b : UInt8) (tk) : convP .b2s (.sl [u8v a, u8v b] 2 tk) = some (.str [a, b]) := by
  show (toBytes (bytesAV [a, b])).map AV.str = _
  rw [toBytes_bytesAV]; rfl
end Go.Ab
namespace Go.Proofs.YtbeimfhodgmjhaaDoor
open Go Go.Ab
def E60 (v : AV) (acc : List UInt8) (i : Int) : Env := [v, .undef, .undef, .undef, .str acc, .int .i64 i, .undef, .undef, .undef, .undef, .undef, .undef, .undef, .undef, .undef, .undef, .undef, .undef, .undef, .undef, .undef, .undef, .undef, .undef, .undef, .undef, .undef, .undef, .undef, .undef, .undef, .undef, .undef, .undef, .undef, .undef, .undef, .undef, .undef, .undef, .undef, .undef, .undef, .undef, .undef, .undef, .undef, .undef, .undef, .undef, .undef, .undef, .undef, .undef, .undef, .undef, .undef, .undef, .undef, .undef, .undef, .undef]
section
variable {v : AV} {l : List Tp} (h : IsTp v l)
include h
theorem rput_round (k : Nat) (i : Nat) (hi : i < l.length) (hl : l.length ≤ 100) (S : St) (hok : ∀ t ∈ l.take i, okT t) :
    (okT l[i] ∧ ∃ e' S', evC tabGl (evT k) k M60b0 (E60 v (encL (l.take i)) i) S = some (.nrm, e', S') ∧ maskE M60b0l e' = E60 v (encL (l.take (i + 1))) ((i + 1 : Nat) : Int)) ∨
    (¬ okT l[i] ∧ ∃ e' S', evC tabGl (evT k) k M60b0 (E60 v (encL (l.take i)) i) S = some (.ret, e', S') ∧ e'.getD 2 .undef = .str [] ∧ e'.getD 3 .undef = .bool false) := by
  obtain ⟨r, hr⟩ := h.ixa i hi
  have ln := h.len
  obtain ⟨⟨id, val⟩, hx⟩ : ∃ t, l[i] = t := ⟨_, rfl⟩
  rw [hx] at hr ⊢
  have d0 : decide ((i : Int) < (l.length : Nat)) = true := decide_eq_true (by omega)
  have w1 : IntKind.i64.wrap ((i : Int) + 1) = ((i + 1 : Nat) : Int) := (wrapI _ (by omega) (by omega)).trans (by omega)
  have c0 : Ab.cut (.int .i64 id :: .str val :: r) 0 none = some (.int .i64 id) := by simp [Ab.cut]
  have c1 : Ab.cut (.str val :: r) 0 none = some (.str val) := by simp [Ab.cut]
  have f0 : faV 0 (.rp (.int .i64 id :: .str val :: r)) = some (.rp (.int .i64 id :: .str val :: r)) := faV_rp _ _ (by simp)
  have f1 : faV 1 (.rp (.int .i64 id :: .str val :: r)) = some (.rp (.str val :: r)) := faV_rp _ _ (by simp)
  rw [show S = S.pl [] from rfl]
  by_cases hk : okT (id, val)
  · left
    have hk' := hk
    obtain ⟨k1, k2, k3⟩ := hk
    simp only at k1 k2 k3
    have e1 : decide (id < 0) = false := decide_eq_false (by omega)
    have e2 : decide (id > 255) = false := decide_eq_false (by omega)
    have e3 : decide ((val.length : Int) > 40) = false := decide_eq_false (by omega)
    have b1 := u8of id k1 k2
    have b2 := u8of (val.length : Int) (by omega) (by omega)
    rw [Int.toNat_natCast] at b2
    have hle := encL_le _ hok
    simp only [List.length_take] at hle
    have a1 := str_add [UInt8.ofNat id.toNat, UInt8.ofNat val.length] val (by simp; omega)
    have a2 := str_add (encL (l.take i)) ([UInt8.ofNat id.toNat, UInt8.ofNat val.length] ++ val) (by simp; omega)
    have b3 := b2s_two (UInt8.ofNat id.toNat) (UInt8.ofNat val.length)
    have ee : encL (l.take (i + 1)) = encL (l.take i) ++ ([UInt8.ofNat id.toNat, UInt8.ofNat val.length] ++ val) := by
      rw [encL_succ l i hi, hx]; simp [encT]
    refine ⟨hk', ?_⟩
    rw [ee]
    generalize [UInt8.ofNat id.toNat, UInt8.ofNat val.length] ++ val = w at a1 a2 ⊢
    simp only [M60b0, E60, hr, ln, c0, c1, f0, f1, d0, e1, e2, e3, b1, b2, b3, w1, a1, a2, conv_int, loadR_rp, qES0, qES1, qES2, env0, List.length_cons, List.length_nil, Nat.reduceAdd, Nat.reduceSub, List.replicate, List.cons_append, List.nil_append, opd, Env.put, Env.at, List.set_cons_zero, List.set_cons_succ, List.getD_cons_zero, List.getD_cons_succ, freezeL, resVs, oneOr, Option.map_some, Option.map_none, List.map_cons, List.map_nil, if_true, if_false, Bool.not_true, Bool.not_false, Bool.false_eq_true, reduceIte, decide_true, decide_false, Int.reduceLT, Int.reduceLE, Int.reduceGT, Int.reduceGE, Int.reduceEq, Int.reduceBEq, Int.reduceBNe, load_ptr, ldV_some, cellAt_cells, List.getElem?_cons_zero, List.getElem?_cons_succ, store_ptr, stO_some, setAt_0, setAt_1, setAt_2, setAt_3, setAt_4, setAt_5, setAt_6, setAt_7, setAt_8, setAt_9, setAt_10, setAt_11, setAt_12, cells_int, cells_bool, cells_str, cells_nils, cells_nilp, cells_ptr, cells_sl, cells_u8, cells_u16, cells_agg, get_upd_is, Option.isSome_some, upd_upd, ev1_nchkV, ev1_faV, nchkV_ptr, faV_ptr, ev1_extV, extV_tup, eqptr_nil, eqptr_ptr, Nat.zero_add, Nat.add_zero, qPL0, qPL1, qPL2, qPL3, qPL4, qPL5, beq_self_eq_true, qED0, qED1, placeR]
    rw [drawR_ok]; case h => simp (config := { decide := true }) [calm, calmPair, calmTwo, List.range, List.range.loop, sameO_refl, plg0]
    simp only [w1, qES0, qES1, qES2, env0, List.length_cons, List.length_nil, Nat.reduceAdd, Nat.reduceSub, List.replicate, List.cons_append, List.nil_append, opd, Env.put, Env.at, List.set_cons_zero, List.set_cons_succ, List.getD_cons_zero, List.getD_cons_succ, freezeL, resVs, oneOr, Option.map_some, Option.map_none, List.map_cons, List.map_nil, if_true, if_false, Bool.not_true, Bool.not_false, Bool.false_eq_true, reduceIte, decide_true, decide_false, Int.reduceLT, Int.reduceLE, Int.reduceGT, Int.reduceGE, Int.reduceEq, Int.reduceBEq, Int.reduceBNe, load_ptr, ldV_some, cellAt_cells, List.getElem?_cons_zero, List.getElem?_cons_succ, store_ptr, stO_some, setAt_0, setAt_1, setAt_2, setAt_3, setAt_4, setAt_5, setAt_6, setAt_7, setAt_8, setAt_9, setAt_10, setAt_11, setAt_12, cells_int, cells_bool, cells_str, cells_nils, cells_nilp, cells_ptr, cells_sl, cells_u8, cells_u16, cells_agg, get_upd_is, Option.isSome_some, upd_upd, ev1_nchkV, ev1_faV, nchkV_ptr, faV_ptr, ev1_extV, extV_tup, eqptr_nil, eqptr_ptr, Nat.zero_add, Nat.add_zero, qPL0, qPL1, qPL2, qPL3, qPL4, qPL5, beq_self_eq_true, qED0, qED1, placeR]
    exact ⟨_, _, rfl, rfl⟩
  · right
    refine ⟨hk, ?_⟩
    have hk' : id < 0 ∨ id > 255 ∨ (val.length : Int) > 40 := by
      unfold okT at hk; simp only at hk; omega
    by_cases e1 : id < 0
    · have e1 := decide_eq_true e1
      simp only [M60b0, E60, hr, ln, c0, c1, f0, f1, d0, e1, loadR_rp, qES0, qES1, qES2, env0, List.length_cons, List.length_nil, Nat.reduceAdd, Nat.reduceSub, List.replicate, List.cons_append, List.nil_append, opd, Env.put, Env.at, List.set_cons_zero, List.set_cons_succ, List.getD_cons_zero, List.getD_cons_succ, freezeL, resVs, oneOr, Option.map_some, Option.map_none, List.map_cons, List.map_nil, if_true, if_false, Bool.not_true, Bool.not_false, Bool.false_eq_true, reduceIte, decide_true, decide_false, Int.reduceLT, Int.reduceLE, Int.reduceGT, Int.reduceGE, Int.reduceEq, Int.reduceBEq, Int.reduceBNe, load_ptr, ldV_some, cellAt_cells, List.getElem?_cons_zero, List.getElem?_cons_succ, store_ptr, stO_some, setAt_0, setAt_1, setAt_2, setAt_3, setAt_4, setAt_5, setAt_6, setAt_7, setAt_8, setAt_9, setAt_10, setAt_11, setAt_12, cells_int, cells_bool, cells_str, cells_nils, cells_nilp, cells_ptr, cells_sl, cells_u8, cells_u16, cells_agg, get_upd_is, Option.isSome_some, upd_upd, ev1_nchkV, ev1_faV, nchkV_ptr, faV_ptr, ev1_extV, extV_tup, eqptr_nil, eqptr_ptr, Nat.zero_add, Nat.add_zero, qPL0, qPL1, qPL2, qPL3, qPL4, qPL5, beq_self_eq_true, qED0, qED1, placeR]
      exact ⟨_, _, rfl, rfl, rfl⟩
    · have e1' := decide_eq_false e1
      by_cases e2 : id > 255
      · have e2 := decide_eq_true e2
        simp only [M60b0, E60, hr, ln, c0, c1, f0, f1, d0, e1', e2, loadR_rp, qES0, qES1, qES2, env0, List.length_cons, List.length_nil, Nat.reduceAdd, Nat.reduceSub, List.replicate, List.cons_append, List.nil_append, opd, Env.put, Env.at, List.set_cons_zero, List.set_cons_succ, List.getD_cons_zero, List.getD_cons_succ, freezeL, resVs, oneOr, Option.map_some, Option.map_none, List.map_cons, List.map_nil, if_true, if_false, Bool.not_true, Bool.not_false, Bool.false_eq_true, reduceIte, decide_true, decide_false, Int.reduceLT, Int.reduceLE, Int.reduceGT, Int.reduceGE, Int.reduceEq, Int.reduceBEq, Int.reduceBNe, load_ptr, ldV_some, cellAt_cells, List.getElem?_cons_zero, List.getElem?_cons_succ, store_ptr, stO_some, setAt_0, setAt_1, setAt_2, setAt_3, setAt_4, setAt_5, setAt_6, setAt_7, setAt_8, setAt_9, setAt_10, setAt_11, setAt_12, cells_int, cells_bool, cells_str, cells_nils, cells_nilp, cells_ptr, cells_sl, cells_u8, cells_u16, cells_agg, get_upd_is, Option.isSome_some, upd_upd, ev1_nchkV, ev1_faV, nchkV_ptr, faV_ptr, ev1_extV, extV_tup, eqptr_nil, eqptr_ptr, Nat.zero_add, Nat.add_zero, qPL0, qPL1, qPL2, qPL3, qPL4, qPL5, beq_self_eq_true, qED0, qED1, placeR]
        exact ⟨_, _, rfl, rfl, rfl⟩
      · have e2' := decide_eq_false e2
        have e3 : decide ((val.length : Int) > 40) = true := decide_eq_true (by omega)
        simp only [M60b0, E60, hr, ln, c0, c1, f0, f1, d0, e1', e2', e3, loadR_rp, qES0, qES1, qES2, env0, List.length_cons, List.length_nil, Nat.reduceAdd, Nat.reduceSub, List.replicate, List.cons_append, List.nil_append, opd, Env.put, Env.at, List.set_cons_zero, List.set_cons_succ, List.getD_cons_zero, List.getD_cons_succ, freezeL, resVs, oneOr, Option.map_some, Option.map_none, List.map_cons, List.map_nil, if_true, if_false, Bool.not_true, Bool.not_false, Bool.false_eq_true, reduceIte, decide_true, decide_false, Int.reduceLT, Int.reduceLE, Int.reduceGT, Int.reduceGE, Int.reduceEq, Int.reduceBEq, Int.reduceBNe, load_ptr, ldV_some, cellAt_cells, List.getElem?_cons_zero, List.getElem?_cons_succ, store_ptr, stO_some, setAt_0, setAt_1, setAt_2, setAt_3, setAt_4, setAt_5, setAt_6, setAt_7, setAt_8, setAt_9, setAt_10, setAt_11, setAt_12, cells_int, cells_bool, cells_str, cells_nils, cells_nilp, cells_ptr, cells_sl, cells_u8, cells_u16, cells_agg, get_upd_is, Option.isSome_some, upd_upd, ev1_nchkV, ev1_faV, nchkV_ptr, faV_ptr, ev1_extV, extV_tup, eqptr_nil, eqptr_ptr, Nat.zero_add, Nat.add_zero, qPL0, qPL1, qPL2, qPL3, qPL4, qPL5, beq_self_eq_true, qED0, qED1, placeR]
        exact ⟨_, _, rfl, rfl, rfl⟩
theorem rput_val (hl : l.length ≤ 100) : valR (evT 1000 60 [v] St.nil) = some (.tup [.str (if putOk l then encL l else []), .bool (decide (putOk l))]) := by
  rw [show (1000 : Nat) = 999 + 1 from rfl, evT_in rfl tab60]
  have ln := h.len
  have key : ∀ e, maskE M60b0l e = E60 v [] 0 → valR (outR M60.res (seqR (blockR 0 (iter (evC tabGl (evT 999) 999 M60b0) M60b0l 999 e St.nil)) (evC tabGl (evT 999) 999 M60r0))) = some (.tup [.str (if putOk l then encL l else []), .bool (decide (putOk l))]) := by
    intro e he
    refine iter_leave (evC tabGl (evT 999) 999 M60b0) M60b0l (fun i e st => maskE M60b0l e = E60 v (encL (l.take i)) (i : Int) ∧ ∀ t ∈ l.take i, okT t)
      (fun out => valR (outR M60.res (seqR (blockR 0 out) (evC tabGl (evT 999) 999 M60r0))) = some (.tup [.str (if putOk l then encL l else []), .bool (decide (putOk l))])) l.length ?_ ?_ l.length 0 _ _ 999 (by omega) ⟨he, by simp⟩ (by omega)
    · rintro i e st hi ⟨h1, h4⟩
      rw [h1]
      rcases rput_round h 999 i hi hl st h4 with ⟨k1, e', S', k2, k3⟩ | ⟨k1, e', S', k2, k3, k4⟩
      · left
        refine ⟨e', S', k2, k3, fun t ht => ?_⟩
        rw [List.take_succ_eq_append_getElem hi] at ht
        rcases List.mem_append.1 ht with ht | ht
        · exact h4 t ht
        · rw [List.mem_singleton.1 ht]; exact k1
      · right
        rw [k2]
        have hn : ¬ putOk l := fun hh => k1 (hh.1 _ (List.getElem_mem hi))
        rw [if_neg hn, decide_eq_false hn]
        refine ⟨?_, fun _ _ h => by cases h⟩
        simp only [M60, k3, k4, qES0, qES1, qES2, env0, List.length_cons, List.length_nil, Nat.reduceAdd, Nat.reduceSub, List.replicate, List.cons_append, List.nil_append, opd, Env.put, Env.at, List.set_cons_zero, List.set_cons_succ, List.getD_cons_zero, List.getD_cons_succ, freezeL, resVs, oneOr, Option.map_some, Option.map_none, List.map_cons, List.map_nil, if_true, if_false, Bool.not_true, Bool.not_false, Bool.false_eq_true, reduceIte, decide_true, decide_false, Int.reduceLT, Int.reduceLE, Int.reduceGT, Int.reduceGE, Int.reduceEq, Int.reduceBEq, Int.reduceBNe, load_ptr, ldV_some, cellAt_cells, List.getElem?_cons_zero, List.getElem?_cons_succ, store_ptr, stO_some, setAt_0, setAt_1, setAt_2, setAt_3, setAt_4, setAt_5, setAt_6, setAt_7, setAt_8, setAt_9, setAt_10, setAt_11, setAt_12, cells_int, cells_bool, cells_str, cells_nils, cells_nilp, cells_ptr, cells_sl, cells_u8, cells_u16, cells_agg, get_upd_is, Option.isSome_some, upd_upd, ev1_nchkV, ev1_faV, nchkV_ptr, faV_ptr, ev1_extV, extV_tup, eqptr_nil, eqptr_ptr, Nat.zero_add, Nat.add_zero, qPL0, qPL1, qPL2, qPL3, qPL4, qPL5, beq_self_eq_true]
    · rintro e st ⟨h1, h4⟩
      rw [h1]
      rw [List.take_length] at h4 ⊢
      have d0 : decide (((l.length : Nat) : Int) < ((l.length : Nat) : Int)) = false := decide_eq_false (by omega)
      refine ⟨?_, fun e' s' hh => ?_⟩
      · by_cases g : (encL l).length ≤ 64
        · have hp : putOk l := ⟨h4, g⟩
          rw [if_pos hp, decide_eq_true hp]
          have d1 : decide (((encL l).length : Int) > 64) = false := decide_eq_false (by omega)
          simp only [M60, M60r0, M60b0, E60, ln, d0, d1, qES0, qES1, qES2, env0, List.length_cons, List.length_nil, Nat.reduceAdd, Nat.reduceSub, List.replicate, List.cons_append, List.nil_append, opd, Env.put, Env.at, List.set_cons_zero, List.set_cons_succ, List.getD_cons_zero, List.getD_cons_succ, freezeL, resVs, oneOr, Option.map_some, Option.map_none, List.map_cons, List.map_nil, if_true, if_false, Bool.not_true, Bool.not_false, Bool.false_eq_true, reduceIte, decide_true, decide_false, Int.reduceLT, Int.reduceLE, Int.reduceGT, Int.reduceGE, Int.reduceEq, Int.reduceBEq, Int.reduceBNe, load_ptr, ldV_some, cellAt_cells, List.getElem?_cons_zero, List.getElem?_cons_succ, store_ptr, stO_some, setAt_0, setAt_1, setAt_2, setAt_3, setAt_4, setAt_5, setAt_6, setAt_7, setAt_8, setAt_9, setAt_10, setAt_11, setAt_12, cells_int, cells_bool, cells_str, cells_nils, cells_nilp, cells_ptr, cells_sl, cells_u8, cells_u16, cells_agg, get_upd_is, Option.isSome_some, upd_upd, ev1_nchkV, ev1_faV, nchkV_ptr, faV_ptr, ev1_extV, extV_tup, eqptr_nil, eqptr_ptr, Nat.zero_add, Nat.add_zero, qPL0, qPL1, qPL2, qPL3, qPL4, qPL5, beq_self_eq_true]
        · have hp : ¬ putOk l := fun hh => g hh.2
          rw [if_neg hp, decide_eq_false hp]
          have d1 : decide (((encL l).length : Int) > 64) = true := decide_eq_true (by omega)
          simp only [M60, M60r0, M60b0, E60, ln, d0, d1, qES0, qES1, qES2, env0, List.length_cons, List.length_nil, Nat.reduceAdd, Nat.reduceSub, List.replicate, List.cons_append, List.nil_append, opd, Env.put, Env.at, List.set_cons_zero, List.set_cons_succ, List.getD_cons_zero, List.getD_cons_succ, freezeL, resVs, oneOr, Option.map_some, Option.map_none, List.map_cons, List.map_nil, if_true, if_false, Bool.not_true, Bool.not_false, Bool.false_eq_true, reduceIte, decide_true, decide_false, Int.reduceLT, Int.reduceLE, Int.reduceGT, Int.reduceGE, Int.reduceEq, Int.reduceBEq, Int.reduceBNe, load_ptr, ldV_some, cellAt_cells, List.getElem?_cons_zero, List.getElem?_cons_succ, store_ptr, stO_some, setAt_0, setAt_1, setAt_2, setAt_3, setAt_4, setAt_5, setAt_6, setAt_7, setAt_8, setAt_9, setAt_10, setAt_11, setAt_12, cells_int, cells_bool, cells_str, cells_nils, cells_nilp, cells_ptr, cells_sl, cells_u8, cells_u16, cells_agg, get_upd_is, Option.isSome_some, upd_upd, ev1_nchkV, ev1_faV, nchkV_ptr, faV_ptr, ev1_extV, extV_tup, eqptr_nil, eqptr_ptr, Nat.zero_add, Nat.add_zero, qPL0, qPL1, qPL2, qPL3, qPL4, qPL5, beq_self_eq_true]
      · simp only [M60b0, E60, ln, d0, qES0, qES1, qES2, env0, List.length_cons, List.length_nil, Nat.reduceAdd, Nat.reduceSub, List.replicate, List.cons_append, List.nil_append, opd, Env.put, Env.at, List.set_cons_zero, List.set_cons_succ, List.getD_cons_zero, List.getD_cons_succ, freezeL, resVs, oneOr, Option.map_some, Option.map_none, List.map_cons, List.map_nil, if_true, if_false, Bool.not_true, Bool.not_false, Bool.false_eq_true, reduceIte, decide_true, decide_false, Int.reduceLT, Int.reduceLE, Int.reduceGT, Int.reduceGE, Int.reduceEq, Int.reduceBEq, Int.reduceBNe, load_ptr, ldV_some, cellAt_cells, List.getElem?_cons_zero, List.getElem?_cons_succ, store_ptr, stO_some, setAt_0, setAt_1, setAt_2, setAt_3, setAt_4, setAt_5, setAt_6, setAt_7, setAt_8, setAt_9, setAt_10, setAt_11, setAt_12, cells_int, cells_bool, cells_str, cells_nils, cells_nilp, cells_ptr, cells_sl, cells_u8, cells_u16, cells_agg, get_upd_is, Option.isSome_some, upd_upd, ev1_nchkV, ev1_faV, nchkV_ptr, faV_ptr, ev1_extV, extV_tup, eqptr_nil, eqptr_ptr, Nat.zero_add, Nat.add_zero, qPL0, qPL1, qPL2, qPL3, qPL4, qPL5, beq_self_eq_true] at hh
        cases hh
  simp only [M60, ln, evC_loop, qES0, qES1, qES2, env0, List.length_cons, List.length_nil, Nat.reduceAdd, Nat.reduceSub, List.replicate, List.cons_append, List.nil_append, opd, Env.put, Env.at, List.set_cons_zero, List.set_cons_succ, List.getD_cons_zero, List.getD_cons_succ, freezeL, resVs, oneOr, Option.map_some, Option.map_none, List.map_cons, List.map_nil, if_true, if_false, Bool.not_true, Bool.not_false, Bool.false_eq_true, reduceIte, decide_true, decide_false, Int.reduceLT, Int.reduceLE, Int.reduceGT, Int.reduceGE, Int.reduceEq, Int.reduceBEq, Int.reduceBNe, load_ptr, ldV_some, cellAt_cells, List.getElem?_cons_zero, List.getElem?_cons_succ, store_ptr, stO_some, setAt_0, setAt_1, setAt_2, setAt_3, setAt_4, setAt_5, setAt_6, setAt_7, setAt_8, setAt_9, setAt_10, setAt_11, setAt_12, cells_int, cells_bool, cells_str, cells_nils, cells_nilp, cells_ptr, cells_sl, cells_u8, cells_u16, cells_agg, get_upd_is, Option.isSome_some, upd_upd, ev1_nchkV, ev1_faV, nchkV_ptr, faV_ptr, ev1_extV, extV_tup, eqptr_nil, eqptr_ptr, Nat.zero_add, Nat.add_zero, qPL0, qPL1, qPL2, qPL3, qPL4, qPL5, beq_self_eq_true]
  exact key _ rfl
end
end Go.Proofs.YtbeimfhodgmjhaaDoor
