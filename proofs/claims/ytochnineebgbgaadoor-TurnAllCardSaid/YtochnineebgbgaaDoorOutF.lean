/- out.Out: what its functions leave as it was. No conditions. -/
import Derived.Test.YtochnineebgbgaaDoorOut3
import Derived.Test.YtochnineebgbgaaDoorM12v
import Derived.Test.YtochnineebgbgaaDoorM12t
set_option linter.unusedSimpArgs false
set_option linter.unusedVariables false
set_option maxRecDepth 100000
namespace Go.Proofs.YtochnineebgbgaaDoor
open Go Go.Ab
/-- Every object of cells but one is as it was. -/
def Fr (s s' : St) (b : Nat) : Prop := s.next ≤ s'.next ∧ ∀ j z cs, j < s.next → j ≠ b → s.get j = some (.cells z cs) → s'.get j = some (.cells z cs)
theorem Fr.refl (s : St) (b : Nat) : Fr s s b := ⟨Nat.le_refl _, fun _ _ _ _ _ h => h⟩
theorem Fr.trans {s s' s'' : St} {b : Nat} (h : Fr s s' b) (h' : Fr s' s'' b) : Fr s s'' b :=
  ⟨Nat.le_trans h.1 h'.1, fun j z cs hj hb hg => h'.2 j z cs (Nat.lt_of_lt_of_le hj h.1) hb (h.2 j z cs hj hb hg)⟩
theorem Fr.new (s : St) (o : Ab.Obj) (b : Nat) : Fr s (s.new o) b :=
  ⟨by simp [St.new], fun j z cs hj _ hg => by rw [get_new_ne _ _ (by omega)]; exact hg⟩
theorem Fr.upd (s : St) (o : Ab.Obj) (b : Nat) : Fr s (s.upd b o) b :=
  ⟨Nat.le_refl _, fun j z cs hj hb hg => by rw [get_upd_ne _ _ hb]; exact hg⟩
theorem Fr.tick {s : St} {t u v : Nat} (o : Ab.Obj) (b : Nat) (h : s.get t = some (.tick u v)) : Fr s (s.upd t o) b :=
  ⟨Nat.le_refl _, fun j z cs hj hb hg => by
    rw [get_upd_ne _ _ (fun hh => by rw [hh, h] at hg; cases hg)]; exact hg⟩
theorem new_fr32 (k : Nat) (W : Int) (s : St) : ∃ s', evO (k + 1) 32 [.int .i64 W] s = some (.ptr s.next 0, s') ∧ OutAt s' s.next (if 7 < (if 1 > W then 1 else W) then 7 else (if 1 > W then 1 else W)) [] 0 0 ∧ s'.next = s.next + 1 ∧ ∀ b, Fr s s' b := by
  rw [evO_in rfl tab32]
  have f4 : ∀ w, fill1 [.int .i64 0, .nils, .int .i64 0, .int .i64 0] 0 1 (.int .i64 w) = some [.int .i64 w, .nils, .int .i64 0, .int .i64 0] := fun _ => rfl
  refine ⟨s.new (.cells 0 [.int .i64 (if 7 < (if 1 > W then 1 else W) then 7 else (if 1 > W then 1 else W)), .nils, .int .i64 0, .int .i64 0]), ?_, ⟨by simp [St.new], .nils, get_new_eq _ _, .inl ⟨rfl, rfl⟩⟩, rfl, fun b => Fr.new _ _ _⟩
  simp only [M32, f4, ev1_mx, ev1_mn, qES0, qES1, qES2, env0, List.length_cons, List.length_nil, Nat.reduceAdd, Nat.reduceSub, List.replicate, List.cons_append, List.nil_append, opd, Env.put, Env.at, List.set_cons_zero, List.set_cons_succ, List.getD_cons_zero, List.getD_cons_succ, freezeL, resVs, oneOr, Option.map_some, Option.map_none, List.map_cons, List.map_nil, if_true, if_false, Bool.not_true, Bool.not_false, Bool.false_eq_true, reduceIte, decide_true, decide_false, Int.reduceLT, Int.reduceLE, Int.reduceGT, Int.reduceGE, Int.reduceEq, Int.reduceBEq, Int.reduceBNe, load_ptr, ldV_some, cellAt_cells, List.getElem?_cons_zero, List.getElem?_cons_succ, store_ptr, stO_some, setAt_0, setAt_1, setAt_2, setAt_3, setAt_4, setAt_5, setAt_6, setAt_7, setAt_8, setAt_9, setAt_10, setAt_11, setAt_12, cells_int, cells_bool, cells_str, cells_nils, cells_nilp, cells_ptr, cells_sl, cells_u8, cells_u16, cells_agg, get_upd_is, Option.isSome_some, upd_upd, ev1_nchkV, ev1_faV, nchkV_ptr, faV_ptr, ev1_extV, extV_tup, eqptr_nil, eqptr_ptr, Nat.zero_add, Nat.add_zero, qPL0, qPL1, qPL2, qPL3, qPL4, qPL5, beq_self_eq_true]
theorem put_fr (k : Nat) (s : St) (b : Nat) (W : Int) (L : List (List UInt8)) (f st : Int) (x : List UInt8) (h : OutAt s b W L f st) (hl : L.length < 8) :
    ∃ s', evO (k + 1) 33 [.ptr b 0, .str x] s = some (.int .i64 0, s') ∧ OutAt s' b W (L ++ [x]) f st ∧ Fr s s' b := by
  obtain ⟨hb, lv, hg, hL⟩ := h
  rw [evO_in rfl tab33]
  have q1 : (((L.length : Nat) : Int) ≥ 8) = False := eq_false (by omega)
  have ln := hL.len
  have f1 : fill1 [.str []] 0 1 (.str x) = some [.str x] := rfl
  have hg1 : (s.new (.tick 1 0)).get b = some (.cells 0 [.int .i64 W, lv, .int .i64 f, .int .i64 st]) := by rw [get_new_ne _ _ (by omega)]; exact hg
  obtain ⟨lv', s2, ha, hg2, hL2, hn2, hfr⟩ : ∃ lv' s2, appV false 1 16 (s.new (.tick 1 0)) lv (.sl [.str x] 1 (some (s.next, 0, 1))) = some (lv', s2) ∧ s2.get b = some (.cells 0 [.int .i64 W, lv, .int .i64 f, .int .i64 st]) ∧ LAt s2 b lv' (L ++ [x]) ∧ b < s2.next ∧ Fr s s2 b := by
    rcases hL with ⟨rfl, rfl⟩ | ⟨t, v, rfl, ht, hne, hlt⟩
    · refine ⟨.sl [.str x] 1 (some (s.next + 1, 0, 1)), (s.new (.tick 1 0)).new (.tick 1 0), rfl, ?_, .inr ⟨s.next + 1, 0, rfl, ?_, by omega, by simp [St.new]⟩, by simp [St.new]; omega, (Fr.new _ _ _).trans (Fr.new _ _ _)⟩
      · rw [get_new_ne _ _ (by simp only [St.new]; omega)]; exact hg1
      · have := get_new_eq (s.new (.tick 1 0)) (.tick 1 0)
        simpa [St.new] using this
    · have ht1 : (s.new (.tick 1 0)).get t = some (.tick 1 v) := by rw [get_new_ne _ _ (by omega)]; exact ht
      refine ⟨.sl (L.map AV.str ++ [.str x]) (L.length + 1) (some (t, v + 1, 1)), (s.new (.tick 1 0)).upd t (.tick 1 (v + 1)), ?_, ?_, .inr ⟨t, v + 1, ?_, get_upd_eq _ _ ht1, hne, by simp [St.upd, St.new]; omega⟩, by simp [St.upd, St.new]; omega, (Fr.new _ _ _).trans (Fr.tick _ _ ht1)⟩
      · have hf : fits (L.length + 1) 16 = true := by simp [fits]; omega
        simp only [appV, newsOf, List.length_cons, List.length_nil, Nat.zero_add, Nat.mul_one, if_true, Bool.false_and, Bool.false_eq_true, if_false, appS, ht1]
        rw [if_pos (by simp [hf])]
      · rw [get_upd_ne _ _ (Ne.symm hne)]; exact hg1
      · simp
  have hc := hL2.cells
  refine ⟨s2.upd b (.cells 0 [.int .i64 W, lv', .int .i64 f, .int .i64 st]), ?_, ⟨by simp [St.upd]; exact hn2, lv', get_upd_eq _ _ hg2, ?_⟩, hfr.trans (Fr.upd _ _ _)⟩
  · have hst : storeV 1 s2 (.ptr b 1) lv' = some (.undef, s2.upd b (.cells 0 [.int .i64 W, lv', .int .i64 f, .int .i64 st])) := by
      simp only [storeV, hg2, hc, storeL, fillL, List.length_cons, List.length_nil, Nat.zero_add, Nat.reduceAdd, if_true]
      simp
    simp only [M33, hg, hg1, ln, q1, f1, ha, hst, ev1_eqv, eqptr_ptr, qES0, qES1, qES2, env0, List.length_cons, List.length_nil, Nat.reduceAdd, Nat.reduceSub, List.replicate, List.cons_append, List.nil_append, opd, Env.put, Env.at, List.set_cons_zero, List.set_cons_succ, List.getD_cons_zero, List.getD_cons_succ, freezeL, resVs, oneOr, Option.map_some, Option.map_none, List.map_cons, List.map_nil, if_true, if_false, Bool.not_true, Bool.not_false, Bool.false_eq_true, reduceIte, decide_true, decide_false, Int.reduceLT, Int.reduceLE, Int.reduceGT, Int.reduceGE, Int.reduceEq, Int.reduceBEq, Int.reduceBNe, load_ptr, ldV_some, cellAt_cells, List.getElem?_cons_zero, List.getElem?_cons_succ, store_ptr, stO_some, setAt_0, setAt_1, setAt_2, setAt_3, setAt_4, setAt_5, setAt_6, setAt_7, setAt_8, setAt_9, setAt_10, setAt_11, setAt_12, cells_int, cells_bool, cells_str, cells_nils, cells_nilp, cells_ptr, cells_sl, cells_u8, cells_u16, cells_agg, get_upd_is, Option.isSome_some, upd_upd, ev1_nchkV, ev1_faV, nchkV_ptr, faV_ptr, ev1_extV, extV_tup, eqptr_nil, eqptr_ptr, Nat.zero_add, Nat.add_zero, qPL0, qPL1, qPL2, qPL3, qPL4, qPL5, beq_self_eq_true]
  · rcases hL2 with ⟨rfl, h⟩ | ⟨t, v, rfl, ht, hne, hlt⟩
    · exact .inl ⟨rfl, h⟩
    · exact .inr ⟨t, v, rfl, by rw [get_upd_ne _ _ hne]; exact ht, hne, by simp [St.upd]; exact hlt⟩
/-- An acknowledgement that counts. -/
theorem ack_fr (k : Nat) (s : St) (b : Nat) (W : Int) (L : List (List UInt8)) (f : Int) (st m : Nat) (nr : Int) (h : OutAt s b W L f (st : Nat)) (hst : st ≤ L.length) (h7 : st ≤ 7) (h0 : 0 ≤ nr) (h1 : nr ≤ 7) (hm : (nr - f) % 8 = (m : Int)) (hms : m ≤ st) :
    ∃ s', evO (k + 2) 36 [.ptr b 0, .int .i64 nr] s = some (.tup [.int .i64 (m : Int), .bool true], s') ∧ OutAt s' b W (L.drop m) nr ((st - m : Nat) : Int) ∧ Fr s s' b := by
  obtain ⟨hb, lv, hg, hL⟩ := h
  rw [show k + 2 = (k + 1) + 1 from rfl, evO_in rfl tab36]
  have a1 : (nr < 0) = False := eq_false (by omega)
  have a2 : (nr > 7) = False := eq_false (by omega)
  have w1 : IntKind.i64.wrap (((st : Nat) : Int) + 1) = ((st + 1 : Nat) : Int) := (wrapI _ (by omega) (by omega)).trans (by omega)
  have h25 := o25 k nr f ((st + 1 : Nat) : Int)
  rw [kOf_small _ (by omega), hm, show decide ((m : Int) < ((st + 1 : Nat) : Int)) = true by simp; omega] at h25
  have h24 := o24 k nr f
  rw [hm] at h24
  obtain ⟨lv', hs, hL'⟩ := hL.drop m (by omega)
  have hc := hL'.cells
  have w2 : IntKind.i64.wrap (((st : Nat) : Int) - (m : Int)) = ((st - m : Nat) : Int) := (wrapI _ (by omega) (by omega)).trans (by omega)
  refine ⟨s.upd b (.cells 0 [.int .i64 W, lv', .int .i64 nr, .int .i64 ((st - m : Nat) : Int)]), ?_, ⟨by simp [St.upd]; exact hb, lv', get_upd_eq _ _ hg, hL'.upd _⟩, Fr.upd _ _ _⟩
  simp only [M36, hg, a1, a2, w1, w2, h25, h24, hs, hc, ev1_eqv, eqptr_ptr, ev1_slc, qES0, qES1, qES2, env0, List.length_cons, List.length_nil, Nat.reduceAdd, Nat.reduceSub, List.replicate, List.cons_append, List.nil_append, opd, Env.put, Env.at, List.set_cons_zero, List.set_cons_succ, List.getD_cons_zero, List.getD_cons_succ, freezeL, resVs, oneOr, Option.map_some, Option.map_none, List.map_cons, List.map_nil, if_true, if_false, Bool.not_true, Bool.not_false, Bool.false_eq_true, reduceIte, decide_true, decide_false, Int.reduceLT, Int.reduceLE, Int.reduceGT, Int.reduceGE, Int.reduceEq, Int.reduceBEq, Int.reduceBNe, load_ptr, ldV_some, cellAt_cells, List.getElem?_cons_zero, List.getElem?_cons_succ, store_ptr, stO_some, setAt_0, setAt_1, setAt_2, setAt_3, setAt_4, setAt_5, setAt_6, setAt_7, setAt_8, setAt_9, setAt_10, setAt_11, setAt_12, cells_int, cells_bool, cells_str, cells_nils, cells_nilp, cells_ptr, cells_sl, cells_u8, cells_u16, cells_agg, get_upd_is, Option.isSome_some, upd_upd, ev1_nchkV, ev1_faV, nchkV_ptr, faV_ptr, ev1_extV, extV_tup, eqptr_nil, eqptr_ptr, Nat.zero_add, Nat.add_zero, qPL0, qPL1, qPL2, qPL3, qPL4, qPL5, beq_self_eq_true, qED0, qED1, placeR]
  rw [drawR_ok]; case h => simp (config := { decide := true }) [calm, calmPair, calmTwo, List.range, List.range.loop, sameO_refl]
  simp only [hg, a1, a2, w1, w2, h25, h24, hs, hc, ev1_eqv, eqptr_ptr, ev1_slc, qES0, qES1, qES2, env0, List.length_cons, List.length_nil, Nat.reduceAdd, Nat.reduceSub, List.replicate, List.cons_append, List.nil_append, opd, Env.put, Env.at, List.set_cons_zero, List.set_cons_succ, List.getD_cons_zero, List.getD_cons_succ, freezeL, resVs, oneOr, Option.map_some, Option.map_none, List.map_cons, List.map_nil, if_true, if_false, Bool.not_true, Bool.not_false, Bool.false_eq_true, reduceIte, decide_true, decide_false, Int.reduceLT, Int.reduceLE, Int.reduceGT, Int.reduceGE, Int.reduceEq, Int.reduceBEq, Int.reduceBNe, load_ptr, ldV_some, cellAt_cells, List.getElem?_cons_zero, List.getElem?_cons_succ, store_ptr, stO_some, setAt_0, setAt_1, setAt_2, setAt_3, setAt_4, setAt_5, setAt_6, setAt_7, setAt_8, setAt_9, setAt_10, setAt_11, setAt_12, cells_int, cells_bool, cells_str, cells_nils, cells_nilp, cells_ptr, cells_sl, cells_u8, cells_u16, cells_agg, get_upd_is, Option.isSome_some, upd_upd, ev1_nchkV, ev1_faV, nchkV_ptr, faV_ptr, ev1_extV, extV_tup, eqptr_nil, eqptr_ptr, Nat.zero_add, Nat.add_zero, qPL0, qPL1, qPL2, qPL3, qPL4, qPL5, beq_self_eq_true, qED0, qED1, placeR]
end Go.Proofs.YtochnineebgbgaaDoor
