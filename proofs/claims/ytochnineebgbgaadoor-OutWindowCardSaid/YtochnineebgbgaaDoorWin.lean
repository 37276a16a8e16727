/- OutWindow: its loops. No conditions. -/
import Derived.Test.YtochnineebgbgaaDoorOut3
import Derived.Test.YtochnineebgbgaaDoorM12w
set_option linter.unusedSimpArgs false
set_option linter.unusedVariables false
set_option maxRecDepth 100000
set_option maxHeartbeats 4000000
namespace Go.Proofs.YtochnineebgbgaaDoor
open Go Go.Ab
/-- The texts from one number on. -/
def bdF (d n : Nat) : List (List UInt8) := (List.range (n - d)).map fun k => bd (d + k)
theorem bdF_len (d n : Nat) : (bdF d n).length = n - d := by simp [bdF]
theorem bdF_drop (d n k : Nat) : (bdF d n).drop k = bdF (d + k) n := by
  apply List.ext_getElem
  · simp [bdF]; omega
  · intro i h1 h2
    simp [bdF, Nat.add_assoc]
def bdP (i : Nat) : List (List UInt8) := (List.range i).map bd
theorem bdP_len (i : Nat) : (bdP i).length = i := by simp [bdP]
theorem bdP_succ (i : Nat) : bdP (i + 1) = bdP i ++ [bd i] := by simp [bdP, List.range_succ]
theorem bdP_F (n : Nat) : bdP n = bdF 0 n := by simp [bdP, bdF]
theorem first_ev (k : Nat) (s : St) (b : Nat) (W : Int) (L : List (List UInt8)) (f st : Int) (h : OutAt s b W L f st) : evO (k + 1) 38 [.ptr b 0] s = some (.int .i64 f, s) := by
  obtain ⟨hb, lv, hg, hL⟩ := h
  rw [evO_in rfl tab38]
  simp only [M38, hg, ev1_eqv, eqptr_ptr, qES0, qES1, qES2, env0, List.length_cons, List.length_nil, Nat.reduceAdd, Nat.reduceSub, List.replicate, List.cons_append, List.nil_append, opd, Env.put, Env.at, List.set_cons_zero, List.set_cons_succ, List.getD_cons_zero, List.getD_cons_succ, freezeL, resVs, oneOr, Option.map_some, Option.map_none, List.map_cons, List.map_nil, if_true, if_false, Bool.not_true, Bool.not_false, Bool.false_eq_true, reduceIte, decide_true, decide_false, Int.reduceLT, Int.reduceLE, Int.reduceGT, Int.reduceGE, Int.reduceEq, Int.reduceBEq, Int.reduceBNe, load_ptr, ldV_some, cellAt_cells, List.getElem?_cons_zero, List.getElem?_cons_succ, store_ptr, stO_some, setAt_0, setAt_1, setAt_2, setAt_3, setAt_4, setAt_5, setAt_6, setAt_7, setAt_8, setAt_9, setAt_10, setAt_11, setAt_12, cells_int, cells_bool, cells_str, cells_nils, cells_nilp, cells_ptr, cells_sl, cells_u8, cells_u16, cells_agg, get_upd_is, Option.isSome_some, upd_upd, ev1_nchkV, ev1_faV, nchkV_ptr, faV_ptr, ev1_extV, extV_tup, eqptr_nil, eqptr_ptr, Nat.zero_add, Nat.add_zero, qPL0, qPL1, qPL2, qPL3, qPL4, qPL5, beq_self_eq_true]
def E6b2 (W N b : Nat) (x : AV) (i : Int) : Env := [.int .i64 (W : Nat), .int .i64 (N : Nat), x, .undef, .undef, .undef, .undef, .undef, .ptr b 0, .int .i64 i, .undef, .undef, .undef, .undef, .undef, .undef, .undef, .undef, .undef, .undef, .undef, .undef, .undef, .undef, .undef, .undef, .undef, .undef, .undef, .undef, .undef, .undef, .undef, .undef, .undef, .undef, .undef, .undef, .undef, .undef, .undef, .undef, .undef, .undef, .undef, .undef, .undef, .undef, .undef, .undef, .undef, .undef, .undef, .undef, .undef, .undef, .undef, .undef, .undef, .undef, .undef, .undef, .undef, .undef, .undef, .undef, .undef, .undef, .undef, .undef, .undef, .undef, .undef, .undef, .undef, .undef, .undef, .undef, .undef, .undef, .undef, .undef, .undef, .undef, .undef, .undef, .undef, .undef, .undef, .undef, .undef, .undef, .undef, .undef, .undef, .undef, .undef, .undef, .undef, .undef, .undef, .undef, .undef, .undef, .undef, .undef, .undef, .undef, .undef, .undef, .undef, .undef, .undef, .undef, .undef, .undef, .undef, .undef, .undef, .undef, .undef, .undef, .undef, .undef, .undef, .undef, .undef, .undef, .undef, .undef, .undef, .undef, .undef, .undef, .undef, .undef, .undef, .undef, .undef, .undef, .undef, .undef, .undef, .undef, .undef, .undef]
theorem loopP (W N b : Nat) (x : AV) (s1 : St) (h : OutAt s1 b (W : Nat) [] 0 0) (h8 : N ≤ 8) (e : Env) (he : maskE M6b2l e = E6b2 W N b x 0) :
    ∃ S, iter (evC tabGl (evO 999) 999 M6b2) M6b2l 999 e s1 = some (.exit 0, [.int .i64 (W : Nat), .int .i64 (N : Nat), x, .undef, .undef, .undef, .undef, .undef, .ptr b 0, .int .i64 (N : Nat), .undef, .undef, .undef, .undef, .undef, .undef, .undef, .undef, .undef, .undef, .undef, .undef, .undef, .undef, .undef, .undef, .undef, .undef, .undef, .undef, .undef, .undef, .int .i64 (N : Nat), .int .i64 (N : Nat), .bool false, .undef, .undef, .undef, .undef, .undef, .undef, .undef, .undef, .undef, .undef, .undef, .undef, .undef, .undef, .undef, .undef, .undef, .undef, .undef, .undef, .undef, .undef, .undef, .undef, .undef, .undef, .undef, .undef, .undef, .undef, .undef, .undef, .undef, .undef, .undef, .undef, .undef, .undef, .undef, .undef, .undef, .undef, .undef, .undef, .undef, .undef, .undef, .undef, .undef, .undef, .undef, .undef, .undef, .undef, .undef, .undef, .undef, .undef, .undef, .undef, .undef, .undef, .undef, .undef, .undef, .undef, .undef, .undef, .undef, .undef, .undef, .undef, .undef, .undef, .undef, .undef, .undef, .undef, .undef, .undef, .undef, .undef, .undef, .undef, .undef, .undef, .undef, .undef, .undef, .undef, .undef, .undef, .undef, .undef, .undef, .undef, .undef, .undef, .undef, .undef, .undef, .undef, .undef, .undef, .undef, .undef, .undef, .undef, .undef, .undef, .undef], S) ∧ OutAt S b (W : Nat) (bdP N) 0 0 := by
  have key : ∃ S e', iter (evC tabGl (evO 999) 999 M6b2) M6b2l 999 e s1 = some (.exit 0, e', S) ∧ e' = [.int .i64 (W : Nat), .int .i64 (N : Nat), x, .undef, .undef, .undef, .undef, .undef, .ptr b 0, .int .i64 (N : Nat), .undef, .undef, .undef, .undef, .undef, .undef, .undef, .undef, .undef, .undef, .undef, .undef, .undef, .undef, .undef, .undef, .undef, .undef, .undef, .undef, .undef, .undef, .int .i64 (N : Nat), .int .i64 (N : Nat), .bool false, .undef, .undef, .undef, .undef, .undef, .undef, .undef, .undef, .undef, .undef, .undef, .undef, .undef, .undef, .undef, .undef, .undef, .undef, .undef, .undef, .undef, .undef, .undef, .undef, .undef, .undef, .undef, .undef, .undef, .undef, .undef, .undef, .undef, .undef, .undef, .undef, .undef, .undef, .undef, .undef, .undef, .undef, .undef, .undef, .undef, .undef, .undef, .undef, .undef, .undef, .undef, .undef, .undef, .undef, .undef, .undef, .undef, .undef, .undef, .undef, .undef, .undef, .undef, .undef, .undef, .undef, .undef, .undef, .undef, .undef, .undef, .undef, .undef, .undef, .undef, .undef, .undef, .undef, .undef, .undef, .undef, .undef, .undef, .undef, .undef, .undef, .undef, .undef, .undef, .undef, .undef, .undef, .undef, .undef, .undef, .undef, .undef, .undef, .undef, .undef, .undef, .undef, .undef, .undef, .undef, .undef, .undef, .undef, .undef, .undef, .undef] ∧ OutAt S b (W : Nat) (bdP N) 0 0 := by
    refine iter_leave (evC tabGl (evO 999) 999 M6b2) M6b2l (fun i e S => maskE M6b2l e = E6b2 W N b x (i : Nat) ∧ OutAt S b (W : Nat) (bdP i) 0 0)
      (fun out => ∃ S e', out = some (.exit 0, e', S) ∧ e' = [.int .i64 (W : Nat), .int .i64 (N : Nat), x, .undef, .undef, .undef, .undef, .undef, .ptr b 0, .int .i64 (N : Nat), .undef, .undef, .undef, .undef, .undef, .undef, .undef, .undef, .undef, .undef, .undef, .undef, .undef, .undef, .undef, .undef, .undef, .undef, .undef, .undef, .undef, .undef, .int .i64 (N : Nat), .int .i64 (N : Nat), .bool false, .undef, .undef, .undef, .undef, .undef, .undef, .undef, .undef, .undef, .undef, .undef, .undef, .undef, .undef, .undef, .undef, .undef, .undef, .undef, .undef, .undef, .undef, .undef, .undef, .undef, .undef, .undef, .undef, .undef, .undef, .undef, .undef, .undef, .undef, .undef, .undef, .undef, .undef, .undef, .undef, .undef, .undef, .undef, .undef, .undef, .undef, .undef, .undef, .undef, .undef, .undef, .undef, .undef, .undef, .undef, .undef, .undef, .undef, .undef, .undef, .undef, .undef, .undef, .undef, .undef, .undef, .undef, .undef, .undef, .undef, .undef, .undef, .undef, .undef, .undef, .undef, .undef, .undef, .undef, .undef, .undef, .undef, .undef, .undef, .undef, .undef, .undef, .undef, .undef, .undef, .undef, .undef, .undef, .undef, .undef, .undef, .undef, .undef, .undef, .undef, .undef, .undef, .undef, .undef, .undef, .undef, .undef, .undef, .undef, .undef, .undef] ∧ OutAt S b (W : Nat) (bdP N) 0 0) N ?_ ?_ N 0 _ _ 999 (by omega) ⟨he, h⟩ (by omega)
    · rintro i e S hi ⟨h1, h2⟩
      rw [h1]
      obtain ⟨S', p1, p2⟩ := put_ev 998 S b (W : Nat) (bdP i) 0 0 (bd i) h2 (by rw [bdP_len]; omega)
      have q : ((i : Int) < ((N : Nat) : Int)) = True := eq_true (by omega)
      have h34 := o34 998 i
      have z0 : ((0 : Int) != 0) = false := rfl
      have w1 : IntKind.i64.wrap ((i : Int) + 1) = ((i + 1 : Nat) : Int) := (wrapI _ (by omega) (by omega)).trans (by omega)
      left
      suffices hs : ∃ e', evC tabGl (evO 999) 999 M6b2 (E6b2 W N b x (i : Nat)) S = some (.nrm, e', S') ∧ maskE M6b2l e' = E6b2 W N b x ((i + 1 : Nat) : Int) by
        obtain ⟨e', g1, g2⟩ := hs
        exact ⟨e', S', g1, g2, by rw [bdP_succ]; exact p2⟩
      simp only [M6b2, E6b2, q, h34, p1, z0, w1, qES0, qES1, qES2, env0, List.length_cons, List.length_nil, Nat.reduceAdd, Nat.reduceSub, List.replicate, List.cons_append, List.nil_append, opd, Env.put, Env.at, List.set_cons_zero, List.set_cons_succ, List.getD_cons_zero, List.getD_cons_succ, freezeL, resVs, oneOr, Option.map_some, Option.map_none, List.map_cons, List.map_nil, if_true, if_false, Bool.not_true, Bool.not_false, Bool.false_eq_true, reduceIte, decide_true, decide_false, Int.reduceLT, Int.reduceLE, Int.reduceGT, Int.reduceGE, Int.reduceEq, Int.reduceBEq, Int.reduceBNe, load_ptr, ldV_some, cellAt_cells, List.getElem?_cons_zero, List.getElem?_cons_succ, store_ptr, stO_some, setAt_0, setAt_1, setAt_2, setAt_3, setAt_4, setAt_5, setAt_6, setAt_7, setAt_8, setAt_9, setAt_10, setAt_11, setAt_12, cells_int, cells_bool, cells_str, cells_nils, cells_nilp, cells_ptr, cells_sl, cells_u8, cells_u16, cells_agg, get_upd_is, Option.isSome_some, upd_upd, ev1_nchkV, ev1_faV, nchkV_ptr, faV_ptr, ev1_extV, extV_tup, eqptr_nil, eqptr_ptr, Nat.zero_add, Nat.add_zero, qPL0, qPL1, qPL2, qPL3, qPL4, qPL5, beq_self_eq_true]
      exact ⟨_, rfl, rfl⟩
    · rintro e S ⟨h1, h2⟩
      rw [h1]
      have q : (((N : Nat) : Int) < ((N : Nat) : Int)) = False := eq_false (by omega)
      have hx : evC tabGl (evO 999) 999 M6b2 (E6b2 W N b x (N : Nat)) S = some (.exit 0, [.int .i64 (W : Nat), .int .i64 (N : Nat), x, .undef, .undef, .undef, .undef, .undef, .ptr b 0, .int .i64 (N : Nat), .undef, .undef, .undef, .undef, .undef, .undef, .undef, .undef, .undef, .undef, .undef, .undef, .undef, .undef, .undef, .undef, .undef, .undef, .undef, .undef, .undef, .undef, .int .i64 (N : Nat), .int .i64 (N : Nat), .bool false, .undef, .undef, .undef, .undef, .undef, .undef, .undef, .undef, .undef, .undef, .undef, .undef, .undef, .undef, .undef, .undef, .undef, .undef, .undef, .undef, .undef, .undef, .undef, .undef, .undef, .undef, .undef, .undef, .undef, .undef, .undef, .undef, .undef, .undef, .undef, .undef, .undef, .undef, .undef, .undef, .undef, .undef, .undef, .undef, .undef, .undef, .undef, .undef, .undef, .undef, .undef, .undef, .undef, .undef, .undef, .undef, .undef, .undef, .undef, .undef, .undef, .undef, .undef, .undef, .undef, .undef, .undef, .undef, .undef, .undef, .undef, .undef, .undef, .undef, .undef, .undef, .undef, .undef, .undef, .undef, .undef, .undef, .undef, .undef, .undef, .undef, .undef, .undef, .undef, .undef, .undef, .undef, .undef, .undef, .undef, .undef, .undef, .undef, .undef, .undef, .undef, .undef, .undef, .undef, .undef, .undef, .undef, .undef, .undef, .undef, .undef], S) := by
        simp only [M6b2, E6b2, q, qES0, qES1, qES2, env0, List.length_cons, List.length_nil, Nat.reduceAdd, Nat.reduceSub, List.replicate, List.cons_append, List.nil_append, opd, Env.put, Env.at, List.set_cons_zero, List.set_cons_succ, List.getD_cons_zero, List.getD_cons_succ, freezeL, resVs, oneOr, Option.map_some, Option.map_none, List.map_cons, List.map_nil, if_true, if_false, Bool.not_true, Bool.not_false, Bool.false_eq_true, reduceIte, decide_true, decide_false, Int.reduceLT, Int.reduceLE, Int.reduceGT, Int.reduceGE, Int.reduceEq, Int.reduceBEq, Int.reduceBNe, load_ptr, ldV_some, cellAt_cells, List.getElem?_cons_zero, List.getElem?_cons_succ, store_ptr, stO_some, setAt_0, setAt_1, setAt_2, setAt_3, setAt_4, setAt_5, setAt_6, setAt_7, setAt_8, setAt_9, setAt_10, setAt_11, setAt_12, cells_int, cells_bool, cells_str, cells_nils, cells_nilp, cells_ptr, cells_sl, cells_u8, cells_u16, cells_agg, get_upd_is, Option.isSome_some, upd_upd, ev1_nchkV, ev1_faV, nchkV_ptr, faV_ptr, ev1_extV, extV_tup, eqptr_nil, eqptr_ptr, Nat.zero_add, Nat.add_zero, qPL0, qPL1, qPL2, qPL3, qPL4, qPL5, beq_self_eq_true]
      rw [hx]
      exact ⟨⟨S, _, rfl, rfl, h2⟩, fun _ _ h => by cases h⟩
  obtain ⟨S, e', g1, g2, g3⟩ := key
  exact ⟨S, by rw [g1, g2], g3⟩
def E6b0 (W N b done i m : Nat) (x nsv bsv : AV) (k : Int) : Env := [.int .i64 (W : Nat), .int .i64 (N : Nat), x, .undef, .undef, .undef, .undef, .undef, .ptr b 0, .undef, .int .i64 (done : Nat), .int .i64 (i : Nat), nsv, bsv, .undef, .undef, .undef, .undef, .undef, .undef, .undef, .undef, .undef, .undef, .undef, .undef, .undef, .undef, .undef, .undef, .undef, .undef, .undef, .undef, .undef, .undef, .undef, .undef, .undef, .undef, .undef, .undef, .undef, .undef, .undef, .undef, .undef, .undef, .undef, .undef, .undef, .undef, .undef, .undef, .undef, .undef, .undef, .undef, .undef, .undef, .undef, .undef, .undef, .undef, .undef, .undef, .undef, .undef, .undef, .undef, .undef, .undef, .undef, .int .i64 (m : Nat), .int .i64 k, .undef, .undef, .undef, .undef, .undef, .undef, .undef, .undef, .undef, .undef, .undef, .undef, .undef, .undef, .undef, .undef, .undef, .undef, .undef, .undef, .undef, .undef, .undef, .undef, .undef, .undef, .undef, .undef, .undef, .undef, .undef, .undef, .undef, .undef, .undef, .undef, .undef, .undef, .undef, .undef, .undef, .undef, .undef, .undef, .undef, .undef, .undef, .undef, .undef, .undef, .undef, .undef, .undef, .undef, .undef, .undef, .undef, .undef, .undef, .undef, .undef, .undef, .undef, .undef, .undef, .undef, .undef, .undef, .undef, .undef, .undef]
theorem loopC (W N b done i m : Nat) (x nsv bsv : AV) (S : St) (hd : done ≤ 8) (hm : m ≤ 8) (hmN : done + m ≤ N) (h1 : ListV nsv (ints ((done % 8 : Nat) : Int) m) m) (h2 : ListV bsv (((bdF done N).take m).map AV.str) m) (e : Env) (he : maskE M6b0l e = E6b0 W N b done i m x nsv bsv 0) :
    iter (evC tabGl (evO 999) 999 M6b0) M6b0l 999 e S = some (.exit 4, [.int .i64 (W : Nat), .int .i64 (N : Nat), x, .undef, .undef, .undef, .undef, .undef, .ptr b 0, .undef, .int .i64 (done : Nat), .int .i64 (i : Nat), nsv, bsv, .undef, .undef, .undef, .undef, .undef, .undef, .undef, .undef, .undef, .undef, .undef, .undef, .undef, .undef, .undef, .undef, .undef, .undef, .undef, .undef, .undef, .undef, .undef, .undef, .undef, .undef, .undef, .undef, .undef, .undef, .undef, .undef, .undef, .undef, .undef, .undef, .undef, .undef, .undef, .undef, .undef, .undef, .undef, .undef, .undef, .undef, .undef, .undef, .undef, .undef, .undef, .undef, .undef, .undef, .undef, .undef, .undef, .undef, .undef, .int .i64 (m : Nat), .int .i64 (m : Nat), .bool false, .undef, .undef, .undef, .undef, .undef, .undef, .undef, .undef, .undef, .undef, .undef, .undef, .undef, .undef, .undef, .undef, .undef, .undef, .undef, .undef, .undef, .undef, .undef, .undef, .undef, .undef, .undef, .undef, .undef, .undef, .undef, .undef, .undef, .undef, .undef, .undef, .undef, .undef, .undef, .undef, .undef, .undef, .undef, .undef, .undef, .undef, .undef, .undef, .undef, .undef, .undef, .undef, .undef, .undef, .undef, .undef, .undef, .undef, .undef, .undef, .undef, .undef, .undef, .undef, .undef, .undef, .undef, .undef, .undef, .undef], S) := by
  refine iter_rounds (evC tabGl (evO 999) 999 M6b0) M6b0l (fun k e st => maskE M6b0l e = E6b0 W N b done i m x nsv bsv (k : Nat) ∧ st = S) _ m ?_ ?_ m 0 _ _ 999 (by omega) ⟨he, rfl⟩ (by omega)
  · rintro k e st hk ⟨g, rfl⟩
    rw [g]
    have q : ((k : Int) < ((m : Nat) : Int)) = True := eq_true (by omega)
    obtain ⟨r1, a1, a2⟩ : ∃ r1, ixaV 1 nsv (.int .i64 (k : Int)) = some (.rp r1) ∧ Ab.cut r1 0 none = some (.int .i64 (((done + k) % 8 : Nat) : Int)) := by
      rcases h1 with ⟨_, h, _⟩ | ⟨tk, rfl⟩
      · omega
      · refine ⟨(ints ((done % 8 : Nat) : Int) m).drop k, ?_, ?_⟩
        · simp only [ixaV, idx]
          rw [if_pos ⟨by omega, by omega⟩]
          simp
        · have : (ints ((done % 8 : Nat) : Int) m)[k]? = some (.int .i64 (((done + k) % 8 : Nat) : Int)) := by
            simp only [ints, List.getElem?_map]
            rw [List.getElem?_range (by omega)]
            simp only [Option.map_some]
            congr 2
            omega
          rw [Ab.cut, List.getElem?_drop, Nat.add_zero]
          exact this
    obtain ⟨r2, c1, c2⟩ : ∃ r2, ixaV 1 bsv (.int .i64 (k : Int)) = some (.rp r2) ∧ Ab.cut r2 0 none = some (.str (bd (done + k))) := by
      rcases h2 with ⟨_, h, _⟩ | ⟨tk, rfl⟩
      · omega
      · refine ⟨(((bdF done N).take m).map AV.str).drop k, ?_, ?_⟩
        · simp only [ixaV, idx]
          rw [if_pos ⟨by omega, by omega⟩]
          simp
        · have : (((bdF done N).take m).map AV.str)[k]? = some (.str (bd (done + k))) := by
            rw [List.getElem?_map, List.getElem?_take, if_pos (by omega)]
            simp only [bdF, List.getElem?_map]
            rw [List.getElem?_range (by omega)]
            rfl
          rw [Ab.cut, List.getElem?_drop, Nat.add_zero]
          exact this
    have w1 : IntKind.i64.wrap ((done : Int) + (k : Int)) = ((done + k : Nat) : Int) := (wrapI _ (by omega) (by omega)).trans (by omega)
    have m1 := i64_rem ((done + k : Nat) : Int) 8 (by omega)
    rw [show ((done + k : Nat) : Int).tmod 8 = (((done + k) % 8 : Nat) : Int) from rfl] at m1
    have h34 := o34 998 (done + k)
    have nn : ∀ m : Int, (m != m) = false := fun m => by simp
    have ns : binV .neq (.str (bd (done + k))) (.str (bd (done + k))) = some (.bool false) := by
      show some (AV.bool (!(bd (done + k) == bd (done + k)))) = _
      simp
    have w2 : IntKind.i64.wrap ((k : Int) + 1) = ((k + 1 : Nat) : Int) := (wrapI _ (by omega) (by omega)).trans (by omega)
    suffices hs : ∃ e', evC tabGl (evO 999) 999 M6b0 (E6b0 W N b done i m x nsv bsv (k : Nat)) st = some (.nrm, e', st) ∧ maskE M6b0l e' = E6b0 W N b done i m x nsv bsv ((k + 1 : Nat) : Int) by
      obtain ⟨e', g1, g2⟩ := hs
      exact ⟨e', st, g1, g2, rfl⟩
    simp only [M6b0, E6b0, q, a1, a2, c1, c2, w1, w2, m1, h34, nn, ns, qES0, qES1, qES2, env0, List.length_cons, List.length_nil, Nat.reduceAdd, Nat.reduceSub, List.replicate, List.cons_append, List.nil_append, opd, Env.put, Env.at, List.set_cons_zero, List.set_cons_succ, List.getD_cons_zero, List.getD_cons_succ, freezeL, resVs, oneOr, Option.map_some, Option.map_none, List.map_cons, List.map_nil, if_true, if_false, Bool.not_true, Bool.not_false, Bool.false_eq_true, reduceIte, decide_true, decide_false, Int.reduceLT, Int.reduceLE, Int.reduceGT, Int.reduceGE, Int.reduceEq, Int.reduceBEq, Int.reduceBNe, load_ptr, ldV_some, cellAt_cells, List.getElem?_cons_zero, List.getElem?_cons_succ, store_ptr, stO_some, setAt_0, setAt_1, setAt_2, setAt_3, setAt_4, setAt_5, setAt_6, setAt_7, setAt_8, setAt_9, setAt_10, setAt_11, setAt_12, cells_int, cells_bool, cells_str, cells_nils, cells_nilp, cells_ptr, cells_sl, cells_u8, cells_u16, cells_agg, get_upd_is, Option.isSome_some, upd_upd, ev1_nchkV, ev1_faV, nchkV_ptr, faV_ptr, ev1_extV, extV_tup, eqptr_nil, eqptr_ptr, Nat.zero_add, Nat.add_zero, qPL0, qPL1, qPL2, qPL3, qPL4, qPL5, beq_self_eq_true, qED0, qED1, placeR]
    rw [drawR_ok]; case h => simp (config := { decide := true }) [calm, calmPair, calmTwo, List.range, List.range.loop, sameO_refl]
    simp only [w2, qES0, qES1, qES2, env0, List.length_cons, List.length_nil, Nat.reduceAdd, Nat.reduceSub, List.replicate, List.cons_append, List.nil_append, opd, Env.put, Env.at, List.set_cons_zero, List.set_cons_succ, List.getD_cons_zero, List.getD_cons_succ, freezeL, resVs, oneOr, Option.map_some, Option.map_none, List.map_cons, List.map_nil, if_true, if_false, Bool.not_true, Bool.not_false, Bool.false_eq_true, reduceIte, decide_true, decide_false, Int.reduceLT, Int.reduceLE, Int.reduceGT, Int.reduceGE, Int.reduceEq, Int.reduceBEq, Int.reduceBNe, load_ptr, ldV_some, cellAt_cells, List.getElem?_cons_zero, List.getElem?_cons_succ, store_ptr, stO_some, setAt_0, setAt_1, setAt_2, setAt_3, setAt_4, setAt_5, setAt_6, setAt_7, setAt_8, setAt_9, setAt_10, setAt_11, setAt_12, cells_int, cells_bool, cells_str, cells_nils, cells_nilp, cells_ptr, cells_sl, cells_u8, cells_u16, cells_agg, get_upd_is, Option.isSome_some, upd_upd, ev1_nchkV, ev1_faV, nchkV_ptr, faV_ptr, ev1_extV, extV_tup, eqptr_nil, eqptr_ptr, Nat.zero_add, Nat.add_zero, qPL0, qPL1, qPL2, qPL3, qPL4, qPL5, beq_self_eq_true, qED0, qED1, placeR]
    exact ⟨_, rfl, rfl⟩
  · rintro e st ⟨g, rfl⟩
    rw [g]
    refine ⟨?_, fun e' s' h => by cases h⟩
    have q : (((m : Nat) : Int) < ((m : Nat) : Int)) = False := eq_false (by omega)
    simp only [M6b0, E6b0, q, qES0, qES1, qES2, env0, List.length_cons, List.length_nil, Nat.reduceAdd, Nat.reduceSub, List.replicate, List.cons_append, List.nil_append, opd, Env.put, Env.at, List.set_cons_zero, List.set_cons_succ, List.getD_cons_zero, List.getD_cons_succ, freezeL, resVs, oneOr, Option.map_some, Option.map_none, List.map_cons, List.map_nil, if_true, if_false, Bool.not_true, Bool.not_false, Bool.false_eq_true, reduceIte, decide_true, decide_false, Int.reduceLT, Int.reduceLE, Int.reduceGT, Int.reduceGE, Int.reduceEq, Int.reduceBEq, Int.reduceBNe, load_ptr, ldV_some, cellAt_cells, List.getElem?_cons_zero, List.getElem?_cons_succ, store_ptr, stO_some, setAt_0, setAt_1, setAt_2, setAt_3, setAt_4, setAt_5, setAt_6, setAt_7, setAt_8, setAt_9, setAt_10, setAt_11, setAt_12, cells_int, cells_bool, cells_str, cells_nils, cells_nilp, cells_ptr, cells_sl, cells_u8, cells_u16, cells_agg, get_upd_is, Option.isSome_some, upd_upd, ev1_nchkV, ev1_faV, nchkV_ptr, faV_ptr, ev1_extV, extV_tup, eqptr_nil, eqptr_ptr, Nat.zero_add, Nat.add_zero, qPL0, qPL1, qPL2, qPL3, qPL4, qPL5, beq_self_eq_true]
end Go.Proofs.YtochnineebgbgaaDoor
