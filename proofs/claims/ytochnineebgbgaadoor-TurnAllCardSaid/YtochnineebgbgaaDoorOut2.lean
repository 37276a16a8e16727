/- out.Out: what is acknowledged, what is sent. No conditions. -/
import Derived.Test.YtochnineebgbgaaDoorOut
set_option linter.unusedSimpArgs false
set_option linter.unusedVariables false
set_option maxRecDepth 100000
namespace Go.Proofs.YtochnineebgbgaaDoor
open Go Go.Ab
theorem kOf_small (n : Nat) (h : n ≤ 8) : kOf ((n : Nat) : Int) = n := by
  unfold kOf
  split <;> split <;> omega
theorem LAt.drop {s : St} {b : Nat} {lv : AV} {L : List (List UInt8)} (h : LAt s b lv L) (m : Nat) (hm : m ≤ L.length) : ∃ lv', slcV 1 lv (some (.int .i64 (m : Int))) none = some lv' ∧ LAt s b lv' (L.drop m) := by
  rcases h with ⟨rfl, rfl⟩ | ⟨t, v, rfl, ht, hne, hlt⟩
  · have : m = 0 := by simpa using hm
    subst this
    exact ⟨.nils, rfl, .inl ⟨rfl, rfl⟩⟩
  · refine ⟨.sl ((L.drop m).map AV.str) (L.length - m) (some (t, v, 1)), ?_, .inr ⟨t, v, by simp, ht, hne, hlt⟩⟩
    simp only [slcV, bndO, bnd]
    rw [if_pos ⟨by omega, by omega⟩]
    simp only [Int.toNat_natCast, Nat.mul_one, tkCut, and_self, if_true]
    rw [List.take_of_length_le (by simp), List.map_drop]
theorem LAt.cells' {s : St} {b : Nat} {lv : AV} {L : List (List UInt8)} (h : LAt s b lv L) : cellsOf lv = some [lv] := h.cells
theorem LAt.upd {s : St} {b : Nat} {lv : AV} {L : List (List UInt8)} (h : LAt s b lv L) (o : Ab.Obj) : LAt (s.upd b o) b lv L := by
  rcases h with h | ⟨t, v, h1, ht, hne, hlt⟩
  · exact .inl h
  · exact .inr ⟨t, v, h1, by rw [get_upd_ne _ _ hne]; exact ht, hne, by simp [St.upd]; exact hlt⟩
/-- An acknowledgement that counts. -/
theorem ack_yes (k : Nat) (s : St) (b : Nat) (W : Int) (L : List (List UInt8)) (f : Int) (st m : Nat) (nr : Int) (h : OutAt s b W L f (st : Nat)) (hst : st ≤ L.length) (h7 : st ≤ 7) (h0 : 0 ≤ nr) (h1 : nr ≤ 7) (hm : (nr - f) % 8 = (m : Int)) (hms : m ≤ st) :
    ∃ s', evO (k + 2) 36 [.ptr b 0, .int .i64 nr] s = some (.tup [.int .i64 (m : Int), .bool true], s') ∧ OutAt s' b W (L.drop m) nr ((st - m : Nat) : Int) := by
  obtain ⟨hb, lv, hg, hL⟩ := h
  rw [show k + 2 = (k + 1) + 1 from rfl, evO_in rfl tab36]
  have a1 : (nr < 0) = False := eq_false (by omega)
  have a2 : (nr > 7) = False := eq_false (by omega)
  have w1 : IntKind.i64.wrap (((st : Nat) : Int) + 1) = ((st + 1 : Nat) : Int) := (wrapI _ (by omega) (by omega)).trans (by omega)
  have h25 := o25 k nr f ((st + 1 : Nat) : Int)
  rw [kOf_small _ (by omega), hm, show decide ((m : Int) < ((st + 1 : Nat) : Int)) = true by simp; omega] at h25
  have h24 := o24 k nr f
  rw [hm] at h24
  obtain ⟨lv', hs, hL'⟩ := hL.drop m (by omega)
  have hc := hL'.cells
  have w2 : IntKind.i64.wrap (((st : Nat) : Int) - (m : Int)) = ((st - m : Nat) : Int) := (wrapI _ (by omega) (by omega)).trans (by omega)
  refine ⟨s.upd b (.cells 0 [.int .i64 W, lv', .int .i64 nr, .int .i64 ((st - m : Nat) : Int)]), ?_, by simp [St.upd]; exact hb, lv', get_upd_eq _ _ hg, hL'.upd _⟩
  simp only [M36, hg, a1, a2, w1, w2, h25, h24, hs, hc, ev1_eqv, eqptr_ptr, ev1_slc, qES0, qES1, qES2, env0, List.length_cons, List.length_nil, Nat.reduceAdd, Nat.reduceSub, List.replicate, List.cons_append, List.nil_append, opd, Env.put, Env.at, List.set_cons_zero, List.set_cons_succ, List.getD_cons_zero, List.getD_cons_succ, freezeL, resVs, oneOr, Option.map_some, Option.map_none, List.map_cons, List.map_nil, if_true, if_false, Bool.not_true, Bool.not_false, Bool.false_eq_true, reduceIte, decide_true, decide_false, Int.reduceLT, Int.reduceLE, Int.reduceGT, Int.reduceGE, Int.reduceEq, Int.reduceBEq, Int.reduceBNe, load_ptr, ldV_some, cellAt_cells, List.getElem?_cons_zero, List.getElem?_cons_succ, store_ptr, stO_some, setAt_0, setAt_1, setAt_2, setAt_3, setAt_4, setAt_5, setAt_6, setAt_7, setAt_8, setAt_9, setAt_10, setAt_11, setAt_12, cells_int, cells_bool, cells_str, cells_nils, cells_nilp, cells_ptr, cells_sl, cells_u8, cells_u16, cells_agg, get_upd_is, Option.isSome_some, upd_upd, ev1_nchkV, ev1_faV, nchkV_ptr, faV_ptr, ev1_extV, extV_tup, eqptr_nil, eqptr_ptr, Nat.zero_add, Nat.add_zero, qPL0, qPL1, qPL2, qPL3, qPL4, qPL5, beq_self_eq_true, qED0, qED1, placeR]
  rw [drawR_ok]; case h => simp (config := { decide := true }) [calm, calmPair, calmTwo, List.range, List.range.loop, sameO_refl]
  simp only [hg, a1, a2, w1, w2, h25, h24, hs, hc, ev1_eqv, eqptr_ptr, ev1_slc, qES0, qES1, qES2, env0, List.length_cons, List.length_nil, Nat.reduceAdd, Nat.reduceSub, List.replicate, List.cons_append, List.nil_append, opd, Env.put, Env.at, List.set_cons_zero, List.set_cons_succ, List.getD_cons_zero, List.getD_cons_succ, freezeL, resVs, oneOr, Option.map_some, Option.map_none, List.map_cons, List.map_nil, if_true, if_false, Bool.not_true, Bool.not_false, Bool.false_eq_true, reduceIte, decide_true, decide_false, Int.reduceLT, Int.reduceLE, Int.reduceGT, Int.reduceGE, Int.reduceEq, Int.reduceBEq, Int.reduceBNe, load_ptr, ldV_some, cellAt_cells, List.getElem?_cons_zero, List.getElem?_cons_succ, store_ptr, stO_some, setAt_0, setAt_1, setAt_2, setAt_3, setAt_4, setAt_5, setAt_6, setAt_7, setAt_8, setAt_9, setAt_10, setAt_11, setAt_12, cells_int, cells_bool, cells_str, cells_nils, cells_nilp, cells_ptr, cells_sl, cells_u8, cells_u16, cells_agg, get_upd_is, Option.isSome_some, upd_upd, ev1_nchkV, ev1_faV, nchkV_ptr, faV_ptr, ev1_extV, extV_tup, eqptr_nil, eqptr_ptr, Nat.zero_add, Nat.add_zero, qPL0, qPL1, qPL2, qPL3, qPL4, qPL5, beq_self_eq_true, qED0, qED1, placeR]
/-- One that does not. -/
theorem ack_no (k : Nat) (s : St) (b : Nat) (W : Int) (L : List (List UInt8)) (f : Int) (st : Nat) (nr : Int) (h : OutAt s b W L f (st : Nat)) (h7 : st ≤ 7) (h0 : 0 ≤ nr) (h1 : nr ≤ 7) (hm : ¬ (nr - f) % 8 ≤ (st : Int)) :
    evO (k + 2) 36 [.ptr b 0, .int .i64 nr] s = some (.tup [.int .i64 0, .bool false], s) := by
  obtain ⟨hb, lv, hg, hL⟩ := h
  rw [show k + 2 = (k + 1) + 1 from rfl, evO_in rfl tab36]
  have a1 : (nr < 0) = False := eq_false (by omega)
  have a2 : (nr > 7) = False := eq_false (by omega)
  have w1 : IntKind.i64.wrap (((st : Nat) : Int) + 1) = ((st + 1 : Nat) : Int) := (wrapI _ (by omega) (by omega)).trans (by omega)
  have h25 := o25 k nr f ((st + 1 : Nat) : Int)
  rw [kOf_small _ (by omega), show decide ((nr - f) % 8 < ((st + 1 : Nat) : Int)) = false by simp; omega] at h25
  simp only [M36, hg, a1, a2, w1, h25, ev1_eqv, eqptr_ptr, qES0, qES1, qES2, env0, List.length_cons, List.length_nil, Nat.reduceAdd, Nat.reduceSub, List.replicate, List.cons_append, List.nil_append, opd, Env.put, Env.at, List.set_cons_zero, List.set_cons_succ, List.getD_cons_zero, List.getD_cons_succ, freezeL, resVs, oneOr, Option.map_some, Option.map_none, List.map_cons, List.map_nil, if_true, if_false, Bool.not_true, Bool.not_false, Bool.false_eq_true, reduceIte, decide_true, decide_false, Int.reduceLT, Int.reduceLE, Int.reduceGT, Int.reduceGE, Int.reduceEq, Int.reduceBEq, Int.reduceBNe, load_ptr, ldV_some, cellAt_cells, List.getElem?_cons_zero, List.getElem?_cons_succ, store_ptr, stO_some, setAt_0, setAt_1, setAt_2, setAt_3, setAt_4, setAt_5, setAt_6, setAt_7, setAt_8, setAt_9, setAt_10, setAt_11, setAt_12, cells_int, cells_bool, cells_str, cells_nils, cells_nilp, cells_ptr, cells_sl, cells_u8, cells_u16, cells_agg, get_upd_is, Option.isSome_some, upd_upd, ev1_nchkV, ev1_faV, nchkV_ptr, faV_ptr, ev1_extV, extV_tup, eqptr_nil, eqptr_ptr, Nat.zero_add, Nat.add_zero, qPL0, qPL1, qPL2, qPL3, qPL4, qPL5, beq_self_eq_true, qED0, qED1, placeR]
  rw [drawR_ok]; case h => simp (config := { decide := true }) [calm, calmPair, calmTwo, List.range, List.range.loop, sameO_refl]
  simp only [hg, ev1_eqv, eqptr_ptr, qES0, qES1, qES2, env0, List.length_cons, List.length_nil, Nat.reduceAdd, Nat.reduceSub, List.replicate, List.cons_append, List.nil_append, opd, Env.put, Env.at, List.set_cons_zero, List.set_cons_succ, List.getD_cons_zero, List.getD_cons_succ, freezeL, resVs, oneOr, Option.map_some, Option.map_none, List.map_cons, List.map_nil, if_true, if_false, Bool.not_true, Bool.not_false, Bool.false_eq_true, reduceIte, decide_true, decide_false, Int.reduceLT, Int.reduceLE, Int.reduceGT, Int.reduceGE, Int.reduceEq, Int.reduceBEq, Int.reduceBNe, load_ptr, ldV_some, cellAt_cells, List.getElem?_cons_zero, List.getElem?_cons_succ, store_ptr, stO_some, setAt_0, setAt_1, setAt_2, setAt_3, setAt_4, setAt_5, setAt_6, setAt_7, setAt_8, setAt_9, setAt_10, setAt_11, setAt_12, cells_int, cells_bool, cells_str, cells_nils, cells_nilp, cells_ptr, cells_sl, cells_u8, cells_u16, cells_agg, get_upd_is, Option.isSome_some, upd_upd, ev1_nchkV, ev1_faV, nchkV_ptr, faV_ptr, ev1_extV, extV_tup, eqptr_nil, eqptr_ptr, Nat.zero_add, Nat.add_zero, qPL0, qPL1, qPL2, qPL3, qPL4, qPL5, beq_self_eq_true, qED0, qED1, placeR]
/-! What is sent. -/
def ints (f : Int) (i : Nat) : List AV := (List.range i).map fun j => .int .i64 ((f + (j : Nat)) % 8)
def NotTk (lv : AV) (t' : Nat) : Prop := ∀ cs n t v z, lv = .sl cs n (some (t, v, z)) → t' ≠ t
def Acc (S : St) (b : Nat) (lv : AV) (f : Int) (acc : AV) (i : Nat) : Prop :=
  (acc = .nils ∧ i = 0) ∨ ∃ t v, acc = .sl (ints f i) i (some (t, v, 1)) ∧ S.get t = some (.tick 1 v) ∧ t ≠ b ∧ t < S.next ∧ NotTk lv t
def E35 (b : Nat) (n : Int) (acc : AV) (i : Int) : Env := [.ptr b 0, .undef, .undef, .undef, .int .i64 n, acc, .undef, .undef, .undef, .undef, .undef, .undef, .undef, .undef, .undef, .undef, .undef, .undef, .undef, .undef, .undef, .undef, .undef, .undef, .undef, .undef, .undef, .undef, .int .i64 n, .int .i64 i, .undef, .undef, .undef, .undef, .undef, .undef, .undef, .undef, .undef, .undef, .undef, .undef, .undef, .undef, .undef, .undef, .undef, .undef, .undef, .undef]
def Inv35 (S : St) (b : Nat) (W : Int) (lv : AV) (L : List (List UInt8)) (f st : Int) (acc : AV) (i : Nat) : Prop :=
  b < S.next ∧ S.get b = some (.cells 0 [.int .i64 W, lv, .int .i64 f, .int .i64 st]) ∧ LAt S b lv L ∧ Acc S b lv f acc i
theorem round35 (k : Nat) (S : St) (b : Nat) (W : Int) (lv : AV) (L : List (List UInt8)) (f st : Int) (acc : AV) (i n : Nat) (hi : i < n) (hn : n ≤ 8) (h : Inv35 S b W lv L f st acc i) :
    ∃ e' S' acc', evC tabGl (evO (k + 1)) (k + 1) M35b0 (E35 b (n : Nat) acc (i : Nat)) S = some (.nrm, e', S') ∧ maskE M35b0l e' = E35 b (n : Nat) acc' ((i + 1 : Nat) : Int) ∧ Inv35 S' b W lv L f st acc' (i + 1) := by
  obtain ⟨hb, hg, hL, hA⟩ := h
  have hlt : ((i : Int) < (n : Int)) = True := eq_true (by omega)
  have h22 := o22 k f (i : Nat)
  have w1 : IntKind.i64.wrap ((i : Int) + 1) = ((i + 1 : Nat) : Int) := (wrapI _ (by omega) (by omega)).trans (by omega)
  have hg1 : (S.new (.tick 1 0)).get b = some (.cells 0 [.int .i64 W, lv, .int .i64 f, .int .i64 st]) := by rw [get_new_ne _ _ (by omega)]; exact hg
  have hL1 : LAt (S.new (.tick 1 0)) b lv L := by
    rcases hL with h | ⟨t, v, h1, ht, hne, hlt⟩
    · exact .inl h
    · exact .inr ⟨t, v, h1, by rw [get_new_ne _ _ (by omega)]; exact ht, hne, by simp [St.new]; omega⟩
  have hz : ints f (i + 1) = ints f i ++ [.int .i64 ((f + (i : Nat)) % 8)] := by simp [ints, List.range_succ]
  have hil : (ints f i).length = i := by simp [ints]
  obtain ⟨acc', S', ha, hS'⟩ : ∃ acc' S', appV false 1 8 (S.new (.tick 1 0)) acc (.sl [.int .i64 ((f + (i : Nat)) % 8)] 1 (some (S.next, 0, 1))) = some (acc', S') ∧ Inv35 S' b W lv L f st acc' (i + 1) := by
    rcases hA with ⟨rfl, rfl⟩ | ⟨t, v, rfl, ht, hne, hlt, hnt⟩
    · refine ⟨.sl [.int .i64 ((f + (0 : Nat)) % 8)] 1 (some (S.next + 1, 0, 1)), (S.new (.tick 1 0)).new (.tick 1 0), rfl, by simp [St.new]; omega, ?_, ?_, .inr ⟨S.next + 1, 0, rfl, ?_, by omega, by simp [St.new], ?_⟩⟩
      · rw [get_new_ne _ _ (by simp only [St.new]; omega)]; exact hg1
      · rcases hL1 with h | ⟨t, v, h1, ht, hne, hlt⟩
        · exact .inl h
        · exact .inr ⟨t, v, h1, by rw [get_new_ne _ _ (by omega)]; exact ht, hne, by simp [St.new] at hlt ⊢; omega⟩
      · have := get_new_eq (S.new (.tick 1 0)) (.tick 1 0)
        simpa [St.new] using this
      · intro cs n' t v z hlv he
        rcases hL with ⟨h, _⟩ | ⟨t2, v2, h1, ht, hne, hlt⟩
        · rw [h] at hlv; cases hlv
        · rw [h1] at hlv
          simp only [AV.sl.injEq, Option.some.injEq, Prod.mk.injEq] at hlv
          omega
    · have ht1 : (S.new (.tick 1 0)).get t = some (.tick 1 v) := by rw [get_new_ne _ _ (by omega)]; exact ht
      have hf : fits (i + 1) 8 = true := by simp [fits]; omega
      refine ⟨.sl (ints f (i + 1)) (i + 1) (some (t, v + 1, 1)), (S.new (.tick 1 0)).upd t (.tick 1 (v + 1)), ?_, by simp [St.upd, St.new]; omega, ?_, ?_, .inr ⟨t, v + 1, rfl, get_upd_eq _ _ ht1, hne, by simp [St.upd, St.new]; omega, hnt⟩⟩
      · rw [hz]
        simp only [appV, newsOf, List.length_cons, List.length_nil, Nat.zero_add, Nat.mul_one, if_true, Bool.false_and, Bool.false_eq_true, if_false, appS, ht1]
        rw [if_pos (by simp [hf, hil])]
      · rw [get_upd_ne _ _ (Ne.symm hne)]; exact hg1
      · rcases hL1 with h | ⟨t2, v2, h1, ht2, hne2, hlt2⟩
        · exact .inl h
        · exact .inr ⟨t2, v2, h1, by rw [get_upd_ne _ _ (Ne.symm (hnt _ _ _ _ _ h1))]; exact ht2, hne2, by simp [St.upd]; exact hlt2⟩
  suffices hs : ∃ e', evC tabGl (evO (k + 1)) (k + 1) M35b0 (E35 b (n : Nat) acc (i : Nat)) S = some (.nrm, e', S') ∧ maskE M35b0l e' = E35 b (n : Nat) acc' ((i + 1 : Nat) : Int) by
    obtain ⟨e', g1, g2⟩ := hs
    exact ⟨e', S', acc', g1, g2, hS'⟩
  simp only [M35b0, E35, hlt, hg, h22, w1, ha, ev1_eqv, eqptr_ptr, qES0, qES1, qES2, env0, List.length_cons, List.length_nil, Nat.reduceAdd, Nat.reduceSub, List.replicate, List.cons_append, List.nil_append, opd, Env.put, Env.at, List.set_cons_zero, List.set_cons_succ, List.getD_cons_zero, List.getD_cons_succ, freezeL, resVs, oneOr, Option.map_some, Option.map_none, List.map_cons, List.map_nil, if_true, if_false, Bool.not_true, Bool.not_false, Bool.false_eq_true, reduceIte, decide_true, decide_false, Int.reduceLT, Int.reduceLE, Int.reduceGT, Int.reduceGE, Int.reduceEq, Int.reduceBEq, Int.reduceBNe, load_ptr, ldV_some, cellAt_cells, List.getElem?_cons_zero, List.getElem?_cons_succ, store_ptr, stO_some, setAt_0, setAt_1, setAt_2, setAt_3, setAt_4, setAt_5, setAt_6, setAt_7, setAt_8, setAt_9, setAt_10, setAt_11, setAt_12, cells_int, cells_bool, cells_str, cells_nils, cells_nilp, cells_ptr, cells_sl, cells_u8, cells_u16, cells_agg, get_upd_is, Option.isSome_some, upd_upd, ev1_nchkV, ev1_faV, nchkV_ptr, faV_ptr, ev1_extV, extV_tup, eqptr_nil, eqptr_ptr, Nat.zero_add, Nat.add_zero, qPL0, qPL1, qPL2, qPL3, qPL4, qPL5, beq_self_eq_true]
  exact ⟨_, rfl, rfl⟩
end Go.Proofs.YtochnineebgbgaaDoor
