/- out.Out: Burst. No conditions. -/
import Derived.Test.YtochnineebgbgaaDoorOut2
set_option linter.unusedSimpArgs false
set_option linter.unusedVariables false
set_option maxRecDepth 100000
namespace Go.Proofs.YtochnineebgbgaaDoor
open Go Go.Ab
/-- A list of cells, nil where there are none, perhaps. -/
def ListV (v : AV) (cs : List AV) (n : Nat) : Prop := (v = .nils ∧ n = 0 ∧ cs = []) ∨ ∃ tk, v = .sl cs n tk
theorem ListV.len {v : AV} {cs : List AV} {n : Nat} (h : ListV v cs n) : lenV v = some (.int .i64 (n : Nat)) := by
  rcases h with ⟨rfl, rfl, _⟩ | ⟨tk, rfl⟩ <;> rfl
theorem flat_strs (L : List (List UInt8)) : flatL (L.map AV.str) = true := by
  induction L with
  | nil => rfl
  | cons x L ih => simp [flatL, Ab.flat, ih]
theorem o61n (k : Nat) (s : St) : evO (k + 1) 61 [.nils] s = some (.nils, s) := evF_ext (H := hClone) rfl rfl
theorem o61 (k : Nat) (L : List (List UInt8)) (n : Nat) (tk : Option (Nat × Nat × Nat)) (hn : L.length = n) (h8 : n ≤ 8) (s : St) : evO (k + 1) 61 [.sl (L.map AV.str) n tk] s = some (.sl (L.map AV.str) n none, s) := evF_ext (H := hClone) rfl (by
  simp only [List.map_cons, List.map_nil, dry1_sl, hClone]
  rw [if_pos (by simp [flat_strs, hn, h8])])
theorem LAt.take {s : St} {b : Nat} {lv : AV} {L : List (List UInt8)} (h : LAt s b lv L) (m : Nat) (hm : m ≤ L.length) (h8 : m ≤ 8) : ∃ lv', slcV 1 lv none (some (.int .i64 (m : Int))) = some lv' ∧ (∀ k s, ∃ bs, evO (k + 1) 61 [lv'] s = some (bs, s) ∧ ListV bs ((L.take m).map AV.str) m) ∧ ∀ s, Ab.freeze 1 s lv' = some (lv', s) := by
  rcases h with ⟨rfl, rfl⟩ | ⟨t, v, rfl, ht, hne, hlt⟩
  · have : m = 0 := by simpa using hm
    subst this
    exact ⟨.nils, rfl, fun k s => ⟨.nils, o61n k s, .inl ⟨rfl, rfl, rfl⟩⟩, fun _ => rfl⟩
  · refine ⟨.sl ((L.take m).map AV.str) m (tkCut 1 m L.length (some (t, v, 1))), ?_, fun k s => ⟨_, o61 k (L.take m) m _ (by simp; omega) h8 s, .inr ⟨none, rfl⟩⟩, fun _ => rfl⟩
    simp only [slcV, bndO, bnd]
    rw [if_pos ⟨by omega, by omega⟩]
    simp only [Int.toNat_natCast, Nat.mul_one, Nat.zero_mul, List.drop_zero, Nat.sub_zero, List.map_take]
theorem burst_ev (k : Nat) (s : St) (b : Nat) (W st : Nat) (L : List (List UInt8)) (f : Int) (h : OutAt s b (W : Nat) L f (st : Nat)) (h8 : L.length ≤ 8) (hW : W ≤ 7) (hst : st ≤ 8) :
    ∃ s' nsv bsv, evO (k + 20) 35 [.ptr b 0] s = some (.tup [nsv, bsv], s') ∧ OutAt s' b (W : Nat) L f ((max st (min W L.length) : Nat) : Int) ∧ ListV nsv (ints f (min W L.length)) (min W L.length) ∧ ListV bsv ((L.take (min W L.length)).map AV.str) (min W L.length) := by
  obtain ⟨hb, lv, hg, hL⟩ := h
  obtain ⟨n, hn⟩ : ∃ n, n = min W L.length := ⟨_, rfl⟩
  rw [← hn]
  rw [show k + 20 = (k + 19) + 1 from rfl, evO_in rfl tab35]
  have ln := hL.len
  have m1 : (if ((L.length : Nat) : Int) < ((W : Nat) : Int) then ((L.length : Nat) : Int) else ((W : Nat) : Int)) = ((n : Nat) : Int) := by split <;> omega
  have m2 : (if ((n : Nat) : Int) > ((st : Nat) : Int) then ((n : Nat) : Int) else ((st : Nat) : Int)) = ((max st n : Nat) : Int) := by split <;> omega
  have hg2 : (s.upd b (.cells 0 [.int .i64 (W : Nat), lv, .int .i64 f, .int .i64 ((max st n : Nat) : Int)])).get b = some (.cells 0 [.int .i64 (W : Nat), lv, .int .i64 f, .int .i64 ((max st n : Nat) : Int)]) := get_upd_eq _ _ hg
  have hI : Inv35 (s.upd b (.cells 0 [.int .i64 (W : Nat), lv, .int .i64 f, .int .i64 ((max st n : Nat) : Int)])) b (W : Nat) lv L f ((max st n : Nat) : Int) .nils 0 := ⟨by simp [St.upd]; exact hb, hg2, hL.upd _, .inl ⟨rfl, rfl⟩⟩
  generalize hS0 : s.upd b (.cells 0 [.int .i64 (W : Nat), lv, .int .i64 f, .int .i64 ((max st n : Nat) : Int)]) = S0 at hI hg2
  have hl : ∀ e, maskE M35b0l e = E35 b (n : Nat) .nils 0 → ∃ S' acc' e', iter (evC tabGl (evO (k + 19)) (k + 19) M35b0) M35b0l (k + 19) e S0 = some (.exit 0, e', S') ∧ Inv35 S' b (W : Nat) lv L f ((max st n : Nat) : Int) acc' n ∧ e' = ([.ptr b 0, .undef, .undef, .undef, .int .i64 (n : Nat), acc', .undef, .undef, .undef, .undef, .undef, .undef, .undef, .undef, .undef, .undef, .undef, .undef, .undef, .undef, .undef, .undef, .undef, .undef, .undef, .undef, .undef, .undef, .int .i64 (n : Nat), .int .i64 (n : Nat), .bool false, .undef, .undef, .undef, .undef, .undef, .undef, .undef, .undef, .undef, .undef, .undef, .undef, .undef, .undef, .undef, .undef, .undef, .undef, .undef]) := by
    intro e he
    refine iter_leave (evC tabGl (evO (k + 19)) (k + 19) M35b0) M35b0l (fun i e S => ∃ acc, maskE M35b0l e = E35 b (n : Nat) acc (i : Nat) ∧ Inv35 S b (W : Nat) lv L f ((max st n : Nat) : Int) acc i)
      (fun out => ∃ S' acc' e', out = some (.exit 0, e', S') ∧ Inv35 S' b (W : Nat) lv L f ((max st n : Nat) : Int) acc' n ∧ e' = ([.ptr b 0, .undef, .undef, .undef, .int .i64 (n : Nat), acc', .undef, .undef, .undef, .undef, .undef, .undef, .undef, .undef, .undef, .undef, .undef, .undef, .undef, .undef, .undef, .undef, .undef, .undef, .undef, .undef, .undef, .undef, .int .i64 (n : Nat), .int .i64 (n : Nat), .bool false, .undef, .undef, .undef, .undef, .undef, .undef, .undef, .undef, .undef, .undef, .undef, .undef, .undef, .undef, .undef, .undef, .undef, .undef, .undef])) n ?_ ?_ n 0 _ _ (k + 19) (by omega) ⟨.nils, he, hI⟩ (by omega)
    · rintro i e S hi ⟨acc, h1, h2⟩
      rw [h1]
      obtain ⟨e', S', acc', g1, g2, g3⟩ := round35 (k + 18) S b (W : Nat) lv L f _ acc i n hi (by omega) h2
      exact .inl ⟨e', S', g1, acc', g2, g3⟩
    · rintro e S ⟨acc, h1, h2⟩
      rw [h1]
      have q : (((n : Nat) : Int) < ((n : Nat) : Int)) = False := eq_false (by omega)
      have hx : evC tabGl (evO (k + 19)) (k + 19) M35b0 (E35 b (n : Nat) acc (n : Nat)) S = some (.exit 0, (fun acc' : AV => ([.ptr b 0, .undef, .undef, .undef, .int .i64 (n : Nat), acc', .undef, .undef, .undef, .undef, .undef, .undef, .undef, .undef, .undef, .undef, .undef, .undef, .undef, .undef, .undef, .undef, .undef, .undef, .undef, .undef, .undef, .undef, .int .i64 (n : Nat), .int .i64 (n : Nat), .bool false, .undef, .undef, .undef, .undef, .undef, .undef, .undef, .undef, .undef, .undef, .undef, .undef, .undef, .undef, .undef, .undef, .undef, .undef, .undef])) acc, S) := by
        simp only [M35b0, E35, q, qES0, qES1, qES2, env0, List.length_cons, List.length_nil, Nat.reduceAdd, Nat.reduceSub, List.replicate, List.cons_append, List.nil_append, opd, Env.put, Env.at, List.set_cons_zero, List.set_cons_succ, List.getD_cons_zero, List.getD_cons_succ, freezeL, resVs, oneOr, Option.map_some, Option.map_none, List.map_cons, List.map_nil, if_true, if_false, Bool.not_true, Bool.not_false, Bool.false_eq_true, reduceIte, decide_true, decide_false, Int.reduceLT, Int.reduceLE, Int.reduceGT, Int.reduceGE, Int.reduceEq, Int.reduceBEq, Int.reduceBNe, load_ptr, ldV_some, cellAt_cells, List.getElem?_cons_zero, List.getElem?_cons_succ, store_ptr, stO_some, setAt_0, setAt_1, setAt_2, setAt_3, setAt_4, setAt_5, setAt_6, setAt_7, setAt_8, setAt_9, setAt_10, setAt_11, setAt_12, cells_int, cells_bool, cells_str, cells_nils, cells_nilp, cells_ptr, cells_sl, cells_u8, cells_u16, cells_agg, get_upd_is, Option.isSome_some, upd_upd, ev1_nchkV, ev1_faV, nchkV_ptr, faV_ptr, ev1_extV, extV_tup, eqptr_nil, eqptr_ptr, Nat.zero_add, Nat.add_zero, qPL0, qPL1, qPL2, qPL3, qPL4, qPL5, beq_self_eq_true]
      rw [hx]
      exact ⟨⟨S, acc, _, rfl, h2, rfl⟩, fun _ _ h => by cases h⟩
  obtain ⟨S', acc', e', g1, ⟨i1, i2, i3, i4⟩, g3⟩ := hl [.ptr b 0, .undef, .nils, .nils, .int .i64 (n : Nat), .nils, .undef, .ptr b 0, .bool false, .ptr b 0, .ptr b 0, .ptr b 0, .int .i64 (W : Nat), .ptr b 0, .ptr b 0, .ptr b 1, lv, .int .i64 (L.length : Nat), .int .i64 (n : Nat), .ptr b 0, .ptr b 0, .ptr b 0, .ptr b 3, .int .i64 (st : Nat), .int .i64 (n : Nat), .int .i64 ((max st n : Nat) : Int), .ptr b 0, .ptr b 3, .int .i64 (n : Nat), .int .i64 0, .undef, .undef, .undef, .undef, .undef, .undef, .undef, .undef, .undef, .undef, .undef, .undef, .undef, .undef, .undef, .undef, .undef, .undef, .undef, .undef] rfl
  rw [g3] at g1
  obtain ⟨lv', t1, t2, t3⟩ := i3.take n (by omega) (by omega)
  obtain ⟨bs, t4, t5⟩ := t2 (k + 18) S'
  have fa : ∀ S, Ab.freeze 1 S acc' = some (acc', S) := fun S => by
    rcases i4 with ⟨rfl, _⟩ | ⟨t, v, rfl, _⟩ <;> rfl
  have fbs : ∀ S, Ab.freeze 1 S bs = some (bs, S) := fun S => by
    rcases t5 with ⟨rfl, _⟩ | ⟨tk, rfl⟩ <;> rfl
  have fv : ∀ S, Ab.freeze 0 S lv' = Ab.freeze 0 S lv' := fun _ => rfl
  refine ⟨S', acc', bs, ?_, ⟨i1, lv, i2, i3⟩, ?_, t5⟩
  · simp only [M35, hg, ln, m1, ev1_eqv, eqptr_ptr, qES0, qES1, qES2, env0, List.length_cons, List.length_nil, Nat.reduceAdd, Nat.reduceSub, List.replicate, List.cons_append, List.nil_append, opd, Env.put, Env.at, List.set_cons_zero, List.set_cons_succ, List.getD_cons_zero, List.getD_cons_succ, freezeL, resVs, oneOr, Option.map_some, Option.map_none, List.map_cons, List.map_nil, if_true, if_false, Bool.not_true, Bool.not_false, Bool.false_eq_true, reduceIte, decide_true, decide_false, Int.reduceLT, Int.reduceLE, Int.reduceGT, Int.reduceGE, Int.reduceEq, Int.reduceBEq, Int.reduceBNe, load_ptr, ldV_some, cellAt_cells, List.getElem?_cons_zero, List.getElem?_cons_succ, store_ptr, stO_some, setAt_0, setAt_1, setAt_2, setAt_3, setAt_4, setAt_5, setAt_6, setAt_7, setAt_8, setAt_9, setAt_10, setAt_11, setAt_12, cells_int, cells_bool, cells_str, cells_nils, cells_nilp, cells_ptr, cells_sl, cells_u8, cells_u16, cells_agg, get_upd_is, Option.isSome_some, upd_upd, ev1_nchkV, ev1_faV, nchkV_ptr, faV_ptr, ev1_extV, extV_tup, eqptr_nil, eqptr_ptr, Nat.zero_add, Nat.add_zero, qPL0, qPL1, qPL2, qPL3, qPL4, qPL5, beq_self_eq_true, qED0, qED1, placeR]
    rw [drawR_ok]; case h => simp (config := { decide := true }) [calm, calmPair, calmTwo, List.range, List.range.loop, sameO_refl]
    simp only [hg, m2, hS0, g1, i2, t1, t3, t4, fa, fbs, evC_loop, ev1_slc, ev1_eqv, eqptr_ptr, qES0, qES1, qES2, env0, List.length_cons, List.length_nil, Nat.reduceAdd, Nat.reduceSub, List.replicate, List.cons_append, List.nil_append, opd, Env.put, Env.at, List.set_cons_zero, List.set_cons_succ, List.getD_cons_zero, List.getD_cons_succ, freezeL, resVs, oneOr, Option.map_some, Option.map_none, List.map_cons, List.map_nil, if_true, if_false, Bool.not_true, Bool.not_false, Bool.false_eq_true, reduceIte, decide_true, decide_false, Int.reduceLT, Int.reduceLE, Int.reduceGT, Int.reduceGE, Int.reduceEq, Int.reduceBEq, Int.reduceBNe, load_ptr, ldV_some, cellAt_cells, List.getElem?_cons_zero, List.getElem?_cons_succ, store_ptr, stO_some, setAt_0, setAt_1, setAt_2, setAt_3, setAt_4, setAt_5, setAt_6, setAt_7, setAt_8, setAt_9, setAt_10, setAt_11, setAt_12, cells_int, cells_bool, cells_str, cells_nils, cells_nilp, cells_ptr, cells_sl, cells_u8, cells_u16, cells_agg, get_upd_is, Option.isSome_some, upd_upd, ev1_nchkV, ev1_faV, nchkV_ptr, faV_ptr, ev1_extV, extV_tup, eqptr_nil, eqptr_ptr, Nat.zero_add, Nat.add_zero, qPL0, qPL1, qPL2, qPL3, qPL4, qPL5, beq_self_eq_true, qED0, qED1, placeR]
  · rcases i4 with ⟨rfl, h0⟩ | ⟨t, v, rfl, _⟩
    · exact .inl ⟨rfl, h0, by rw [h0]; rfl⟩
    · exact .inr ⟨_, rfl⟩
end Go.Proofs.YtochnineebgbgaaDoor
