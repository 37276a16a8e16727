/- turn.Turn: its state, what its functions do. No conditions. -/
import Derived.Test.YtochnineebgbgaaDoorOutF
set_option linter.unusedSimpArgs false
set_option linter.unusedVariables false
set_option maxRecDepth 100000
namespace Go.Proofs.YtochnineebgbgaaDoor
open Go Go.Ab
def TurnAt (s : St) (t o i : Nat) (role size : Int) (mine : Bool) (W : Int) (L : List (List UInt8)) (f st nx : Int) (od : Bool) : Prop :=
  t < s.next ∧ i < s.next ∧ t ≠ o ∧ i ≠ o ∧ t ≠ i ∧ s.get t = some (.cells 0 [.int .i64 role, .int .i64 size, .ptr o 0, .ptr i 0, .bool mine]) ∧ s.get i = some (.cells 0 [.int .i64 nx, .bool od]) ∧ OutAt s o W L f st
/-- Every object of cells but a turn's is as it was. -/
def Fr3 (s s' : St) (t o i : Nat) : Prop := s.next ≤ s'.next ∧ ∀ j z cs, j < s.next → j ≠ t → j ≠ o → j ≠ i → s.get j = some (.cells z cs) → s'.get j = some (.cells z cs)
theorem Fr3.refl (s : St) (t o i : Nat) : Fr3 s s t o i := ⟨Nat.le_refl _, fun _ _ _ _ _ _ _ h => h⟩
theorem Fr3.trans {s s' s'' : St} {t o i : Nat} (h : Fr3 s s' t o i) (h' : Fr3 s' s'' t o i) : Fr3 s s'' t o i :=
  ⟨Nat.le_trans h.1 h'.1, fun j z cs hj h1 h2 h3 hg => h'.2 j z cs (Nat.lt_of_lt_of_le hj h.1) h1 h2 h3 (h.2 j z cs hj h1 h2 h3 hg)⟩
theorem Fr3.new (s : St) (q : Ab.Obj) (t o i : Nat) : Fr3 s (s.new q) t o i :=
  ⟨by simp [St.new], fun j z cs hj _ _ _ hg => by rw [get_new_ne _ _ (by omega)]; exact hg⟩
theorem Fr3.updT (s : St) (q : Ab.Obj) (t o i : Nat) : Fr3 s (s.upd t q) t o i :=
  ⟨Nat.le_refl _, fun j z cs hj h1 _ _ hg => by rw [get_upd_ne _ _ h1]; exact hg⟩
theorem Fr3.ofO {s s' : St} {o : Nat} (h : Fr s s' o) (t i : Nat) : Fr3 s s' t o i := ⟨h.1, fun j z cs hj _ h2 _ hg => h.2 j z cs hj h2 hg⟩
theorem OutAt.new {s : St} {b : Nat} {W : Int} {L : List (List UInt8)} {f st : Int} (h : OutAt s b W L f st) (q : Ab.Obj) : OutAt (s.new q) b W L f st := by
  obtain ⟨hb, lv, hg, hL⟩ := h
  refine ⟨by simp [St.new]; omega, lv, by rw [get_new_ne _ _ (by omega)]; exact hg, ?_⟩
  rcases hL with h | ⟨t, v, h1, ht, hne, hlt⟩
  · exact .inl h
  · exact .inr ⟨t, v, h1, by rw [get_new_ne _ _ (by omega)]; exact ht, hne, by simp [St.new]; omega⟩
theorem OutAt.updC {s : St} {b c : Nat} {W : Int} {L : List (List UInt8)} {f st : Int} {z : Nat} {cs : List AV} (h : OutAt s b W L f st) (hc : c ≠ b) (hg' : s.get c = some (.cells z cs)) (q : Ab.Obj) : OutAt (s.upd c q) b W L f st := by
  obtain ⟨hb, lv, hg, hL⟩ := h
  refine ⟨by simp [St.upd]; omega, lv, by rw [get_upd_ne _ _ (Ne.symm hc)]; exact hg, ?_⟩
  rcases hL with h | ⟨t, v, h1, ht, hne, hlt⟩
  · exact .inl h
  · exact .inr ⟨t, v, h1, by rw [get_upd_ne _ _ (fun hh => by rw [hh, hg'] at ht; cases ht)]; exact ht, hne, by simp [St.upd]; omega⟩
theorem TurnAt.new {s : St} {t o i : Nat} {role size : Int} {mine : Bool} {W : Int} {L : List (List UInt8)} {f st nx : Int} {od : Bool} (h : TurnAt s t o i role size mine W L f st nx od) (q : Ab.Obj) : TurnAt (s.new q) t o i role size mine W L f st nx od := by
  obtain ⟨h1, h2, h3, h4, h5, h6, h7, h8⟩ := h
  exact ⟨by simp [St.new]; omega, by simp [St.new]; omega, h3, h4, h5, by rw [get_new_ne _ _ (by omega)]; exact h6, by rw [get_new_ne _ _ (by omega)]; exact h7, h8.new q⟩
def clampW (w : Int) : Int := if 7 < (if 1 > w then 1 else w) then 7 else (if 1 > w then 1 else w)
theorem clampW_le (w : Int) : 1 ≤ clampW w ∧ clampW w ≤ 7 := by unfold clampW; split <;> split at * <;> omega
theorem new_evT (k : Nat) (s : St) (role baud silent win size wait : Int) (hr : role = 1 ∨ role = 2) :
    ∃ s' t o i, evO (k + 2) 39 [.int .i64 role, .agg [.int .i64 baud, .int .i64 silent, .int .i64 win, .int .i64 size, .int .i64 wait]] s = some (.ptr t 0, s') ∧ TurnAt s' t o i role (if 64 < size then 64 else size) (role == 1) (clampW win) [] 0 0 0 false ∧ s.next < t ∧ s.next < o ∧ s.next < i ∧ ∀ t' o' i', Fr3 s s' t' o' i' := by
  rw [show k + 2 = (k + 1) + 1 from rfl, evO_in rfl tab39]
  obtain ⟨s1, e1, e2, e3, e4⟩ := new_fr32 k win (s.new (.cells 0 [.int .i64 baud, .int .i64 silent, .int .i64 win, .int .i64 size, .int .i64 wait]))
  have h27 : evO (k + 1) 27 [] s1 = some (.ptr s1.next 0, s1.new (.cells 0 [.int .i64 0, .bool false])) := by
    rw [evO_in rfl tab27]
    simp only [M27, qES0, qES1, qES2, env0, List.length_cons, List.length_nil, Nat.reduceAdd, Nat.reduceSub, List.replicate, List.cons_append, List.nil_append, opd, Env.put, Env.at, List.set_cons_zero, List.set_cons_succ, List.getD_cons_zero, List.getD_cons_succ, freezeL, resVs, oneOr, Option.map_some, Option.map_none, List.map_cons, List.map_nil, if_true, if_false, Bool.not_true, Bool.not_false, Bool.false_eq_true, reduceIte, decide_true, decide_false, Int.reduceLT, Int.reduceLE, Int.reduceGT, Int.reduceGE, Int.reduceEq, Int.reduceBEq, Int.reduceBNe, load_ptr, ldV_some, cellAt_cells, List.getElem?_cons_zero, List.getElem?_cons_succ, store_ptr, stO_some, setAt_0, setAt_1, setAt_2, setAt_3, setAt_4, setAt_5, setAt_6, setAt_7, setAt_8, setAt_9, setAt_10, setAt_11, setAt_12, cells_int, cells_bool, cells_str, cells_nils, cells_nilp, cells_ptr, cells_sl, cells_u8, cells_u16, cells_agg, get_upd_is, Option.isSome_some, upd_upd, ev1_nchkV, ev1_faV, nchkV_ptr, faV_ptr, ev1_extV, extV_tup, eqptr_nil, eqptr_ptr, Nat.zero_add, Nat.add_zero, qPL0, qPL1, qPL2, qPL3, qPL4, qPL5, beq_self_eq_true]
  have hg0 : (s.new (.cells 0 [.int .i64 baud, .int .i64 silent, .int .i64 win, .int .i64 size, .int .i64 wait])).get s.next = some (.cells 0 [.int .i64 baud, .int .i64 silent, .int .i64 win, .int .i64 size, .int .i64 wait]) := get_new_eq _ _
  have n1 : ((1 : Int) != 1) = false := rfl
  have n2 : ((2 : Int) != 1) = true := rfl
  have n3 : ((2 : Int) != 2) = false := rfl
  have n4 : ((1 : Int) == 1) = true := rfl
  have n5 : ((2 : Int) == 1) = false := rfl
  have f2 : ∀ a0 a1 a2 a3 a4 b o, fill1 [a0, a1, a2, a3, a4] 2 1 (.ptr b o) = some [a0, a1, .ptr b o, a3, a4] := fun a0 a1 a2 a3 a4 b o => fill1_c _ _ _ rfl (by simp)
  have f3 : ∀ a0 a1 a2 a3 a4 b o, fill1 [a0, a1, a2, a3, a4] 3 1 (.ptr b o) = some [a0, a1, a2, .ptr b o, a4] := fun a0 a1 a2 a3 a4 b o => fill1_c _ _ _ rfl (by simp)
  have nx : (s.new (.cells 0 [.int .i64 baud, .int .i64 silent, .int .i64 win, .int .i64 size, .int .i64 wait])).next = s.next + 1 := rfl
  have hg1 := (e4 (s.next + 1)).2 _ _ _ (by rw [nx]; omega) (by omega) hg0
  have hg2 : (s1.new (.cells 0 [.int .i64 0, .bool false])).get s.next = _ := ((get_new_ne _ _ (by rw [e3, nx]; omega)).trans hg1)
  have fin : ∀ (role sz : Int) (m : Bool), ∃ s' t o i, some (AV.ptr (s1.new (.cells 0 [.int .i64 0, .bool false])).next 0, (s1.new (.cells 0 [.int .i64 0, .bool false])).new (.cells 0 [.int .i64 role, .int .i64 sz, .ptr (s.new (.cells 0 [.int .i64 baud, .int .i64 silent, .int .i64 win, .int .i64 size, .int .i64 wait])).next 0, .ptr s1.next 0, .bool m])) = some (.ptr t 0, s') ∧ TurnAt s' t o i role sz m (clampW win) [] 0 0 0 false ∧ s.next < t ∧ s.next < o ∧ s.next < i ∧ ∀ t' o' i', Fr3 s s' t' o' i' := by
    intro role sz m
    refine ⟨_, _, _, _, rfl, ⟨by simp [St.new], by simp [St.new]; omega, by simp only [St.new] at e3 ⊢; omega, by simp only [St.new] at e3 ⊢; omega, by simp only [St.new]; omega, get_new_eq _ _, ?_, (e2.new _).new _⟩, by simp only [St.new] at e3 ⊢; omega, by simp only [St.new]; omega, by simp only [St.new] at e3 ⊢; omega, fun t' o' i' => ?_⟩
    · rw [get_new_ne _ _ (by simp only [St.new]; omega)]
      exact get_new_eq _ _
    · exact (((Fr3.new s _ t' o' i').trans ⟨(e4 (s.next + 2)).1, fun j z cs hj _ _ _ hg => (e4 (s.next + 2)).2 j z cs hj (by simp only [St.new] at hj; omega) hg⟩).trans (Fr3.new _ _ _ _ _)).trans (Fr3.new _ _ _ _ _)
  rcases hr with rfl | rfl
  · simp only [M39, n1, n2, n3, n4, n5, f2, f3, hg0, e1, h27, ev1_boxV, boxV_some, ev1_mx, ev1_mn, qES0, qES1, qES2, env0, List.length_cons, List.length_nil, Nat.reduceAdd, Nat.reduceSub, List.replicate, List.cons_append, List.nil_append, opd, Env.put, Env.at, List.set_cons_zero, List.set_cons_succ, List.getD_cons_zero, List.getD_cons_succ, freezeL, resVs, oneOr, Option.map_some, Option.map_none, List.map_cons, List.map_nil, if_true, if_false, Bool.not_true, Bool.not_false, Bool.false_eq_true, reduceIte, decide_true, decide_false, Int.reduceLT, Int.reduceLE, Int.reduceGT, Int.reduceGE, Int.reduceEq, Int.reduceBEq, Int.reduceBNe, load_ptr, ldV_some, cellAt_cells, List.getElem?_cons_zero, List.getElem?_cons_succ, store_ptr, stO_some, setAt_0, setAt_1, setAt_2, setAt_3, setAt_4, setAt_5, setAt_6, setAt_7, setAt_8, setAt_9, setAt_10, setAt_11, setAt_12, cells_int, cells_bool, cells_str, cells_nils, cells_nilp, cells_ptr, cells_sl, cells_u8, cells_u16, cells_agg, get_upd_is, Option.isSome_some, upd_upd, ev1_nchkV, ev1_faV, nchkV_ptr, faV_ptr, ev1_extV, extV_tup, eqptr_nil, eqptr_ptr, Nat.zero_add, Nat.add_zero, qPL0, qPL1, qPL2, qPL3, qPL4, qPL5, beq_self_eq_true, qED0, qED1, placeR]
    rw [drawR_ok]; case h => simp (config := { decide := true }) [calm, calmPair, calmTwo, List.range, List.range.loop, sameO_refl, hg0, hg1, hg2]
    simp only [n1, n2, n3, n4, n5, f2, f3, hg0, e1, h27, ev1_boxV, boxV_some, ev1_mx, ev1_mn, qES0, qES1, qES2, env0, List.length_cons, List.length_nil, Nat.reduceAdd, Nat.reduceSub, List.replicate, List.cons_append, List.nil_append, opd, Env.put, Env.at, List.set_cons_zero, List.set_cons_succ, List.getD_cons_zero, List.getD_cons_succ, freezeL, resVs, oneOr, Option.map_some, Option.map_none, List.map_cons, List.map_nil, if_true, if_false, Bool.not_true, Bool.not_false, Bool.false_eq_true, reduceIte, decide_true, decide_false, Int.reduceLT, Int.reduceLE, Int.reduceGT, Int.reduceGE, Int.reduceEq, Int.reduceBEq, Int.reduceBNe, load_ptr, ldV_some, cellAt_cells, List.getElem?_cons_zero, List.getElem?_cons_succ, store_ptr, stO_some, setAt_0, setAt_1, setAt_2, setAt_3, setAt_4, setAt_5, setAt_6, setAt_7, setAt_8, setAt_9, setAt_10, setAt_11, setAt_12, cells_int, cells_bool, cells_str, cells_nils, cells_nilp, cells_ptr, cells_sl, cells_u8, cells_u16, cells_agg, get_upd_is, Option.isSome_some, upd_upd, ev1_nchkV, ev1_faV, nchkV_ptr, faV_ptr, ev1_extV, extV_tup, eqptr_nil, eqptr_ptr, Nat.zero_add, Nat.add_zero, qPL0, qPL1, qPL2, qPL3, qPL4, qPL5, beq_self_eq_true, qED0, qED1, placeR]
    exact fin _ _ _
  · simp only [M39, n1, n2, n3, n4, n5, f2, f3, hg0, e1, h27, ev1_boxV, boxV_some, ev1_mx, ev1_mn, qES0, qES1, qES2, env0, List.length_cons, List.length_nil, Nat.reduceAdd, Nat.reduceSub, List.replicate, List.cons_append, List.nil_append, opd, Env.put, Env.at, List.set_cons_zero, List.set_cons_succ, List.getD_cons_zero, List.getD_cons_succ, freezeL, resVs, oneOr, Option.map_some, Option.map_none, List.map_cons, List.map_nil, if_true, if_false, Bool.not_true, Bool.not_false, Bool.false_eq_true, reduceIte, decide_true, decide_false, Int.reduceLT, Int.reduceLE, Int.reduceGT, Int.reduceGE, Int.reduceEq, Int.reduceBEq, Int.reduceBNe, load_ptr, ldV_some, cellAt_cells, List.getElem?_cons_zero, List.getElem?_cons_succ, store_ptr, stO_some, setAt_0, setAt_1, setAt_2, setAt_3, setAt_4, setAt_5, setAt_6, setAt_7, setAt_8, setAt_9, setAt_10, setAt_11, setAt_12, cells_int, cells_bool, cells_str, cells_nils, cells_nilp, cells_ptr, cells_sl, cells_u8, cells_u16, cells_agg, get_upd_is, Option.isSome_some, upd_upd, ev1_nchkV, ev1_faV, nchkV_ptr, faV_ptr, ev1_extV, extV_tup, eqptr_nil, eqptr_ptr, Nat.zero_add, Nat.add_zero, qPL0, qPL1, qPL2, qPL3, qPL4, qPL5, beq_self_eq_true, qED0, qED1, placeR]
    rw [drawR_ok]; case h => simp (config := { decide := true }) [calm, calmPair, calmTwo, List.range, List.range.loop, sameO_refl, hg0, hg1, hg2]
    simp only [n1, n2, n3, n4, n5, f2, f3, hg0, e1, h27, ev1_boxV, boxV_some, ev1_mx, ev1_mn, qES0, qES1, qES2, env0, List.length_cons, List.length_nil, Nat.reduceAdd, Nat.reduceSub, List.replicate, List.cons_append, List.nil_append, opd, Env.put, Env.at, List.set_cons_zero, List.set_cons_succ, List.getD_cons_zero, List.getD_cons_succ, freezeL, resVs, oneOr, Option.map_some, Option.map_none, List.map_cons, List.map_nil, if_true, if_false, Bool.not_true, Bool.not_false, Bool.false_eq_true, reduceIte, decide_true, decide_false, Int.reduceLT, Int.reduceLE, Int.reduceGT, Int.reduceGE, Int.reduceEq, Int.reduceBEq, Int.reduceBNe, load_ptr, ldV_some, cellAt_cells, List.getElem?_cons_zero, List.getElem?_cons_succ, store_ptr, stO_some, setAt_0, setAt_1, setAt_2, setAt_3, setAt_4, setAt_5, setAt_6, setAt_7, setAt_8, setAt_9, setAt_10, setAt_11, setAt_12, cells_int, cells_bool, cells_str, cells_nils, cells_nilp, cells_ptr, cells_sl, cells_u8, cells_u16, cells_agg, get_upd_is, Option.isSome_some, upd_upd, ev1_nchkV, ev1_faV, nchkV_ptr, faV_ptr, ev1_extV, extV_tup, eqptr_nil, eqptr_ptr, Nat.zero_add, Nat.add_zero, qPL0, qPL1, qPL2, qPL3, qPL4, qPL5, beq_self_eq_true, qED0, qED1, placeR]
    exact fin _ _ _
end Go.Proofs.YtochnineebgbgaaDoor
