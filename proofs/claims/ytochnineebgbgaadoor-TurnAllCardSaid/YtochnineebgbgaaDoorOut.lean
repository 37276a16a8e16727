/- out.Out as the evaluator answers it. No conditions. -/
import Derived.Test.YtochnineebgbgaaDoorIn
import Derived.Test.YtochnineebgbgaaDoorM12u
import Derived.Test.YtochnineebgbgaaDoorM12t
set_option linter.unusedSimpArgs false
set_option linter.unusedVariables false
set_option maxRecDepth 100000
namespace Go.Proofs.YtochnineebgbgaaDoor
open Go Go.Ab
def hDiff : List AV → St → Option AV
  | [.int .i64 a, .int .i64 b], _ => some (.int .i64 ((a - b) % 8))
  | _, _ => none
def hIn : List AV → St → Option AV
  | [.int .i64 x, .int .i64 f, .int .i64 n], _ => some (.bool (decide ((x - f) % 8 < kOf n)))
  | _, _ => none
theorem diff_pure : PureOk (evT 1000) 24 hDiff := pureOk_of (by
  intro args s v h
  unfold hDiff at h
  split at h
  · cases h; exact ⟨rfl, rfl, by rw [diff_ev 998]; rfl⟩
  · cases h)
theorem in_pure : PureOk (evT 1000) 25 hIn := pureOk_of (by
  intro args s v h
  unfold hIn at h
  split at h
  · cases h; exact ⟨rfl, rfl, by rw [in_ev 997]; rfl⟩
  · cases h)
/-- A copy of a list. -/
def hClone : List AV → St → Option AV
  | [.nils], _ => some .nils
  | [.sl cs n none], _ => if (flatL cs && decide (cs.length = n) && decide (n ≤ 8)) = true then some (.sl cs n none) else none
  | _, _ => none
theorem clone_sl (cs : List AV) (n : Nat) (hc : cs.length = n) (hn : n ≤ 8) (s : St) : valR (evT 1000 61 [.sl cs n none] (s.pl [])) = some (.sl cs n none) := by
  rw [show (1000 : Nat) = 999 + 1 from rfl, evT_in rfl tab61]
  have e0 : eqAV .slc (.sl cs n none) .nils = some false := rfl
  have ha : ∀ s' : St, ∀ t, s'.get t = some (.tick 1 0) → appV false 1 16 s' (.sl [] 0 (some (t, 0, 1))) (.sl cs n none) = some (.sl cs n (some (t, 1, 1)), s'.upd t (.tick 1 1)) := by
    intro s' t ht
    have hf : fits n 16 = true := by simp [fits]; omega
    simp only [appV, newsOf, hc, Nat.mul_one, if_true, Bool.false_and, Bool.false_eq_true, if_false, appS, ht]
    rw [if_pos (by simp [hf])]
    simp
  have ha' := ha (s.pl [.tick 1 0]) s.next (plg0 _ _ _)
  simp only [M61, e0, ha', ev1_eqv, qES0, qES1, qES2, env0, List.length_cons, List.length_nil, Nat.reduceAdd, Nat.reduceSub, List.replicate, List.cons_append, List.nil_append, opd, Env.put, Env.at, List.set_cons_zero, List.set_cons_succ, List.getD_cons_zero, List.getD_cons_succ, freezeL, resVs, oneOr, Option.map_some, Option.map_none, List.map_cons, List.map_nil, if_true, if_false, Bool.not_true, Bool.not_false, Bool.false_eq_true, reduceIte, decide_true, decide_false, Int.reduceLT, Int.reduceLE, Int.reduceGT, Int.reduceGE, Int.reduceEq, Int.reduceBEq, Int.reduceBNe, load_ptr, ldV_some, cellAt_cells, List.getElem?_cons_zero, List.getElem?_cons_succ, store_ptr, stO_some, setAt_0, setAt_1, setAt_2, setAt_3, setAt_4, setAt_5, setAt_6, setAt_7, setAt_8, setAt_9, setAt_10, setAt_11, setAt_12, cells_int, cells_bool, cells_str, cells_nils, cells_nilp, cells_ptr, cells_sl, cells_u8, cells_u16, cells_agg, get_upd_is, Option.isSome_some, upd_upd, ev1_nchkV, ev1_faV, nchkV_ptr, faV_ptr, ev1_extV, extV_tup, eqptr_nil, eqptr_ptr, Nat.zero_add, Nat.add_zero, qPL0, qPL1, qPL2, qPL3, qPL4, qPL5, beq_self_eq_true]
theorem clone_pure : PureOk (evT 1000) 61 hClone := pureOk_of (by
  intro args s v h
  unfold hClone at h
  split at h
  · cases h; exact ⟨rfl, rfl, by
      rw [show (1000 : Nat) = 999 + 1 from rfl, evT_in rfl tab61]
      have e0 : eqAV .slc .nils .nils = some true := rfl
      simp only [M61, e0, ev1_eqv, qES0, qES1, qES2, env0, List.length_cons, List.length_nil, Nat.reduceAdd, Nat.reduceSub, List.replicate, List.cons_append, List.nil_append, opd, Env.put, Env.at, List.set_cons_zero, List.set_cons_succ, List.getD_cons_zero, List.getD_cons_succ, freezeL, resVs, oneOr, Option.map_some, Option.map_none, List.map_cons, List.map_nil, if_true, if_false, Bool.not_true, Bool.not_false, Bool.false_eq_true, reduceIte, decide_true, decide_false, Int.reduceLT, Int.reduceLE, Int.reduceGT, Int.reduceGE, Int.reduceEq, Int.reduceBEq, Int.reduceBNe, load_ptr, ldV_some, cellAt_cells, List.getElem?_cons_zero, List.getElem?_cons_succ, store_ptr, stO_some, setAt_0, setAt_1, setAt_2, setAt_3, setAt_4, setAt_5, setAt_6, setAt_7, setAt_8, setAt_9, setAt_10, setAt_11, setAt_12, cells_int, cells_bool, cells_str, cells_nils, cells_nilp, cells_ptr, cells_sl, cells_u8, cells_u16, cells_agg, get_upd_is, Option.isSome_some, upd_upd, ev1_nchkV, ev1_faV, nchkV_ptr, faV_ptr, ev1_extV, extV_tup, eqptr_nil, eqptr_ptr, Nat.zero_add, Nat.add_zero, qPL0, qPL1, qPL2, qPL3, qPL4, qPL5, beq_self_eq_true]⟩
  · rename_i cs n
    split at h
    · rename_i hq
      cases h
      simp only [Bool.and_eq_true, decide_eq_true_eq] at hq
      exact ⟨by simp [Ab.flat, hq.1.1], by simp [flatL, Ab.flat, hq.1.1], clone_sl cs n hq.1.2 hq.2 St.nil⟩
    · cases h
  · cases h)
def lstO (f : Nat) : Option (List AV → St → Option AV) := if f = 21 then some hTrue else if f = 22 then some hAdd else if f = 34 then some hBody else if f = 24 then some hDiff else if f = 25 then some hIn else if f = 61 then some hClone else none
noncomputable def extO := extWith ext lstO
theorem extO_ok : ∀ w0, ExtOk Tryd.prog tabGl w0 extO := extOk_add (tableOf_ok _) mixed tab_flat (fun w0 => extOk _ w0) lstO (by
  intro f h hf
  unfold lstO at hf
  rcases some_of hf with ⟨rfl, rfl⟩ | hf
  · exact ⟨by kernel_rfl, 999, begun_pure⟩
  rcases some_of hf with ⟨rfl, rfl⟩ | hf
  · exact ⟨by rw [tab22]; rfl, 1000, add_pure⟩
  rcases some_of hf with ⟨rfl, rfl⟩ | hf
  · exact ⟨by rw [tab34]; rfl, 1000, body_pure⟩
  rcases some_of hf with ⟨rfl, rfl⟩ | hf
  · exact ⟨by rw [tab24]; rfl, 1000, diff_pure⟩
  rcases some_of hf with ⟨rfl, rfl⟩ | hf
  · exact ⟨by rw [tab25]; rfl, 1000, in_pure⟩
  rcases some_of hf with ⟨rfl, rfl⟩ | hf
  · exact ⟨by rw [tab61]; rfl, 1000, clone_pure⟩
  cases hf)
noncomputable def evO : Nat → Calls' := evF tabGl (tableOf Tryd.prog) extO
theorem evO_ok (w0 : World) (k : Nat) : CallOk Tryd.prog tabGl w0 (evO k) := evF_sound (tableOf_ok _) (extO_ok w0) mixed k
theorem evO_in {k f : Nat} {m : MFun} (hx : extO f = none) (hF : tableOf Tryd.prog f = some m) (args : List AV) (s : St) :
    evO (k + 1) f args s = outR m.res (evC tabGl (evO k) k m.body (env0 m.ntmps args) s) := evF_in hx hF args s
theorem o21 (k : Nat) (s : St) : evO (k + 1) 21 [] s = some (.bool true, s) := evF_ext (H := hTrue) rfl rfl
theorem o22 (k : Nat) (a b : Int) (s : St) : evO (k + 1) 22 [.int .i64 a, .int .i64 b] s = some (.int .i64 ((a + b) % 8), s) := evF_ext (H := hAdd) rfl rfl
theorem o24 (k : Nat) (a b : Int) (s : St) : evO (k + 1) 24 [.int .i64 a, .int .i64 b] s = some (.int .i64 ((a - b) % 8), s) := evF_ext (H := hDiff) rfl rfl
theorem o25 (k : Nat) (x f n : Int) (s : St) : evO (k + 1) 25 [.int .i64 x, .int .i64 f, .int .i64 n] s = some (.bool (decide ((x - f) % 8 < kOf n)), s) := evF_ext (H := hIn) rfl rfl
theorem o34 (k : Nat) (i : Nat) (s : St) : evO (k + 1) 34 [.int .i64 (i : Int)] s = some (.str (bd i), s) := evF_ext (H := hBody) rfl (by
  simp only [List.map_cons, List.map_nil, dry1_int, hBody]; rw [if_pos (by omega)]; simp)
/-! The object. -/
def LAt (s : St) (b : Nat) (lv : AV) (L : List (List UInt8)) : Prop :=
  (lv = .nils ∧ L = []) ∨ ∃ t v, lv = .sl (L.map AV.str) L.length (some (t, v, 1)) ∧ s.get t = some (.tick 1 v) ∧ t ≠ b ∧ t < s.next
def OutAt (s : St) (b : Nat) (W : Int) (L : List (List UInt8)) (f st : Int) : Prop :=
  b < s.next ∧ ∃ lv, s.get b = some (.cells 0 [.int .i64 W, lv, .int .i64 f, .int .i64 st]) ∧ LAt s b lv L
theorem LAt.len {s : St} {b : Nat} {lv : AV} {L : List (List UInt8)} (h : LAt s b lv L) : lenV lv = some (.int .i64 (L.length : Nat)) := by
  rcases h with ⟨rfl, rfl⟩ | ⟨t, v, rfl, _⟩ <;> rfl
theorem LAt.cells {s : St} {b : Nat} {lv : AV} {L : List (List UInt8)} (h : LAt s b lv L) : cellsOf lv = some [lv] := by
  rcases h with ⟨rfl, rfl⟩ | ⟨t, v, rfl, _⟩ <;> rfl
theorem put_ev (k : Nat) (s : St) (b : Nat) (W : Int) (L : List (List UInt8)) (f st : Int) (x : List UInt8) (h : OutAt s b W L f st) (hl : L.length < 8) :
    ∃ s', evO (k + 1) 33 [.ptr b 0, .str x] s = some (.int .i64 0, s') ∧ OutAt s' b W (L ++ [x]) f st := by
  obtain ⟨hb, lv, hg, hL⟩ := h
  rw [evO_in rfl tab33]
  have q1 : (((L.length : Nat) : Int) ≥ 8) = False := eq_false (by omega)
  have ln := hL.len
  have f1 : fill1 [.str []] 0 1 (.str x) = some [.str x] := rfl
  have hg1 : (s.new (.tick 1 0)).get b = some (.cells 0 [.int .i64 W, lv, .int .i64 f, .int .i64 st]) := by rw [get_new_ne _ _ (by omega)]; exact hg
  obtain ⟨lv', s2, ha, hg2, hL2, hn2⟩ : ∃ lv' s2, appV false 1 16 (s.new (.tick 1 0)) lv (.sl [.str x] 1 (some (s.next, 0, 1))) = some (lv', s2) ∧ s2.get b = some (.cells 0 [.int .i64 W, lv, .int .i64 f, .int .i64 st]) ∧ LAt s2 b lv' (L ++ [x]) ∧ b < s2.next := by
    rcases hL with ⟨rfl, rfl⟩ | ⟨t, v, rfl, ht, hne, hlt⟩
    · refine ⟨.sl [.str x] 1 (some (s.next + 1, 0, 1)), (s.new (.tick 1 0)).new (.tick 1 0), rfl, ?_, .inr ⟨s.next + 1, 0, rfl, ?_, by omega, by simp [St.new]⟩, by simp [St.new]; omega⟩
      · rw [get_new_ne _ _ (by simp only [St.new]; omega)]; exact hg1
      · have := get_new_eq (s.new (.tick 1 0)) (.tick 1 0)
        simpa [St.new] using this
    · have ht1 : (s.new (.tick 1 0)).get t = some (.tick 1 v) := by rw [get_new_ne _ _ (by omega)]; exact ht
      refine ⟨.sl (L.map AV.str ++ [.str x]) (L.length + 1) (some (t, v + 1, 1)), (s.new (.tick 1 0)).upd t (.tick 1 (v + 1)), ?_, ?_, .inr ⟨t, v + 1, ?_, get_upd_eq _ _ ht1, hne, by simp [St.upd, St.new]; omega⟩, by simp [St.upd, St.new]; omega⟩
      · have hf : fits (L.length + 1) 16 = true := by simp [fits]; omega
        simp only [appV, newsOf, List.length_cons, List.length_nil, Nat.zero_add, Nat.mul_one, if_true, Bool.false_and, Bool.false_eq_true, if_false, appS, ht1]
        rw [if_pos (by simp [hf])]
      · rw [get_upd_ne _ _ (Ne.symm hne)]; exact hg1
      · simp
  have hc := hL2.cells
  refine ⟨s2.upd b (.cells 0 [.int .i64 W, lv', .int .i64 f, .int .i64 st]), ?_, by simp [St.upd]; exact hn2, lv', get_upd_eq _ _ hg2, ?_⟩
  · have hst : storeV 1 s2 (.ptr b 1) lv' = some (.undef, s2.upd b (.cells 0 [.int .i64 W, lv', .int .i64 f, .int .i64 st])) := by
      simp only [storeV, hg2, hc, storeL, fillL, List.length_cons, List.length_nil, Nat.zero_add, Nat.reduceAdd, if_true]
      simp
    simp only [M33, hg, hg1, ln, q1, f1, ha, hst, ev1_eqv, eqptr_ptr, qES0, qES1, qES2, env0, List.length_cons, List.length_nil, Nat.reduceAdd, Nat.reduceSub, List.replicate, List.cons_append, List.nil_append, opd, Env.put, Env.at, List.set_cons_zero, List.set_cons_succ, List.getD_cons_zero, List.getD_cons_succ, freezeL, resVs, oneOr, Option.map_some, Option.map_none, List.map_cons, List.map_nil, if_true, if_false, Bool.not_true, Bool.not_false, Bool.false_eq_true, reduceIte, decide_true, decide_false, Int.reduceLT, Int.reduceLE, Int.reduceGT, Int.reduceGE, Int.reduceEq, Int.reduceBEq, Int.reduceBNe, load_ptr, ldV_some, cellAt_cells, List.getElem?_cons_zero, List.getElem?_cons_succ, store_ptr, stO_some, setAt_0, setAt_1, setAt_2, setAt_3, setAt_4, setAt_5, setAt_6, setAt_7, setAt_8, setAt_9, setAt_10, setAt_11, setAt_12, cells_int, cells_bool, cells_str, cells_nils, cells_nilp, cells_ptr, cells_sl, cells_u8, cells_u16, cells_agg, get_upd_is, Option.isSome_some, upd_upd, ev1_nchkV, ev1_faV, nchkV_ptr, faV_ptr, ev1_extV, extV_tup, eqptr_nil, eqptr_ptr, Nat.zero_add, Nat.add_zero, qPL0, qPL1, qPL2, qPL3, qPL4, qPL5, beq_self_eq_true]
  · rcases hL2 with ⟨rfl, h⟩ | ⟨t, v, rfl, ht, hne, hlt⟩
    · exact .inl ⟨rfl, h⟩
    · exact .inr ⟨t, v, rfl, by rw [get_upd_ne _ _ hne]; exact ht, hne, by simp [St.upd]; exact hlt⟩
theorem len_ev (k : Nat) (s : St) (b : Nat) (W : Int) (L : List (List UInt8)) (f st : Int) (h : OutAt s b W L f st) : evO (k + 1) 37 [.ptr b 0] s = some (.int .i64 (L.length : Nat), s) := by
  obtain ⟨hb, lv, hg, hL⟩ := h
  rw [evO_in rfl tab37]
  simp only [M37, hg, hL.len, ev1_eqv, eqptr_ptr, qES0, qES1, qES2, env0, List.length_cons, List.length_nil, Nat.reduceAdd, Nat.reduceSub, List.replicate, List.cons_append, List.nil_append, opd, Env.put, Env.at, List.set_cons_zero, List.set_cons_succ, List.getD_cons_zero, List.getD_cons_succ, freezeL, resVs, oneOr, Option.map_some, Option.map_none, List.map_cons, List.map_nil, if_true, if_false, Bool.not_true, Bool.not_false, Bool.false_eq_true, reduceIte, decide_true, decide_false, Int.reduceLT, Int.reduceLE, Int.reduceGT, Int.reduceGE, Int.reduceEq, Int.reduceBEq, Int.reduceBNe, load_ptr, ldV_some, cellAt_cells, List.getElem?_cons_zero, List.getElem?_cons_succ, store_ptr, stO_some, setAt_0, setAt_1, setAt_2, setAt_3, setAt_4, setAt_5, setAt_6, setAt_7, setAt_8, setAt_9, setAt_10, setAt_11, setAt_12, cells_int, cells_bool, cells_str, cells_nils, cells_nilp, cells_ptr, cells_sl, cells_u8, cells_u16, cells_agg, get_upd_is, Option.isSome_some, upd_upd, ev1_nchkV, ev1_faV, nchkV_ptr, faV_ptr, ev1_extV, extV_tup, eqptr_nil, eqptr_ptr, Nat.zero_add, Nat.add_zero, qPL0, qPL1, qPL2, qPL3, qPL4, qPL5, beq_self_eq_true]
theorem new_ev32 (k : Nat) (W : Int) (h1 : 1 ≤ W) (h7 : W ≤ 7) (s : St) : ∃ s', evO (k + 1) 32 [.int .i64 W] s = some (.ptr s.next 0, s') ∧ OutAt s' s.next W [] 0 0 := by
  rw [evO_in rfl tab32]
  have a1 : (1 > W) = False := eq_false (by omega)
  have a2 : (7 < W) = False := eq_false (by omega)
  have f4 : fill1 [.int .i64 0, .nils, .int .i64 0, .int .i64 0] 0 1 (.int .i64 W) = some [.int .i64 W, .nils, .int .i64 0, .int .i64 0] := rfl
  refine ⟨s.new (.cells 0 [.int .i64 W, .nils, .int .i64 0, .int .i64 0]), ?_, by simp [St.new], .nils, get_new_eq _ _, .inl ⟨rfl, rfl⟩⟩
  simp only [M32, a1, a2, f4, ev1_mx, ev1_mn, qES0, qES1, qES2, env0, List.length_cons, List.length_nil, Nat.reduceAdd, Nat.reduceSub, List.replicate, List.cons_append, List.nil_append, opd, Env.put, Env.at, List.set_cons_zero, List.set_cons_succ, List.getD_cons_zero, List.getD_cons_succ, freezeL, resVs, oneOr, Option.map_some, Option.map_none, List.map_cons, List.map_nil, if_true, if_false, Bool.not_true, Bool.not_false, Bool.false_eq_true, reduceIte, decide_true, decide_false, Int.reduceLT, Int.reduceLE, Int.reduceGT, Int.reduceGE, Int.reduceEq, Int.reduceBEq, Int.reduceBNe, load_ptr, ldV_some, cellAt_cells, List.getElem?_cons_zero, List.getElem?_cons_succ, store_ptr, stO_some, setAt_0, setAt_1, setAt_2, setAt_3, setAt_4, setAt_5, setAt_6, setAt_7, setAt_8, setAt_9, setAt_10, setAt_11, setAt_12, cells_int, cells_bool, cells_str, cells_nils, cells_nilp, cells_ptr, cells_sl, cells_u8, cells_u16, cells_agg, get_upd_is, Option.isSome_some, upd_upd, ev1_nchkV, ev1_faV, nchkV_ptr, faV_ptr, ev1_extV, extV_tup, eqptr_nil, eqptr_ptr, Nat.zero_add, Nat.add_zero, qPL0, qPL1, qPL2, qPL3, qPL4, qPL5, beq_self_eq_true]
end Go.Proofs.YtochnineebgbgaaDoor
