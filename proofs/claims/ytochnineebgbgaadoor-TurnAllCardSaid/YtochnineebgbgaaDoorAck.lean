/- TurnAck: its loops. No conditions. -/
import Derived.Test.YtochnineebgbgaaDoorTakeA
import Derived.Test.YtochnineebgbgaaDoorM12d
import Derived.Test.YtochnineebgbgaaDoorArgS
set_option linter.unusedSimpArgs false
set_option linter.unusedVariables false
set_option maxRecDepth 100000
set_option maxHeartbeats 8000000
namespace Go.Proofs.YtochnineebgbgaaDoor
open Go Go.Ab
def bdQ (i : Nat) : List (List UInt8) := (List.range i).map bd
theorem bdQ_len (i : Nat) : (bdQ i).length = i := by simp [bdQ]
theorem bdQ_succ (i : Nat) : bdQ (i + 1) = bdQ i ++ [bd i] := by simp [bdQ, List.range_succ]
theorem preG_drop (cmd : Bool) (nr f : Int) (L : List (List UInt8)) (m j : Nat) (h : j < m) : ∃ rest, (preG cmd nr f L m).drop (j * 9) = plC 0 0 cmd 1 0 nr ((f + (j : Nat)) % 8) false (L.getD j []) ++ rest := by
  induction m with
  | zero => omega
  | succ m ih =>
    rw [preG_succ]
    by_cases hj : j = m
    · subst hj
      exact ⟨[], by rw [List.drop_left' (preG_len _ _ _ _ _), List.append_nil]⟩
    · obtain ⟨rest, hr⟩ := ih (by omega)
      exact ⟨rest ++ plC 0 0 cmd 1 0 nr ((f + (m : Nat)) % 8) false (L.getD m []), by rw [List.drop_append_of_le_length (by rw [preG_len]; omega), hr, List.append_assoc]⟩
/-- The j-th frame of what is said. -/
theorem go_at (cmd : Bool) (nr f : Int) (L : List (List UInt8)) (od : Bool) (m j : Nat) (h : j < max 1 m) : ∃ rest, (goC cmd nr f L od m).drop (j * 9) = (if m = 0 then plC 0 0 cmd 2 (if od = true then 2 else 0) nr 0 true [] else plC 0 0 cmd 1 0 nr ((f + (j : Nat)) % 8) (decide (j + 1 = m)) (L.getD j [])) ++ rest := by
  cases m with
  | zero =>
    have : j = 0 := by omega
    subst this
    exact ⟨[], rfl⟩
  | succ m =>
    simp only [goC, Nat.add_eq_zero_iff, Nat.one_ne_zero, and_false, if_false]
    by_cases hj : j = m
    · subst hj
      exact ⟨[], by rw [List.drop_left' (preG_len _ _ _ _ _), List.append_nil]; simp⟩
    · obtain ⟨rest, hr⟩ := preG_drop cmd nr f L m j (by omega)
      exact ⟨rest ++ plC 0 0 cmd 1 0 nr ((f + (m : Nat)) % 8) true (L.getD m []), by rw [List.drop_append_of_le_length (by rw [preG_len]; omega), hr, List.append_assoc]; simp [hj]⟩
theorem cut_pl (seat count : Int) (cmd : Bool) (kind sort nr ns : Int) (pf : Bool) (body : List UInt8) (rest : List AV) : Ab.cut (plC seat count cmd kind sort nr ns pf body ++ rest) 0 (some 9) = some (.agg (plC seat count cmd kind sort nr ns pf body)) := by
  simp [plC, Ab.cut]
def E16 (N : Nat) (z : Int) (kb : Bool) (t : Nat) (i : Int) : Env := [.undef, .int .i64 (N : Nat), .int .i64 z, .bool kb, .undef, .undef, .undef, .undef, .undef, .undef, .ptr t 0, .int .i64 i, .undef, .undef, .undef, .undef, .undef, .undef, .undef, .undef, .undef, .undef, .undef, .undef, .undef, .undef, .undef, .undef, .undef, .undef, .undef, .undef, .undef, .undef, .undef, .undef, .undef, .undef, .undef, .undef, .undef, .undef, .undef, .undef, .undef, .undef, .undef, .undef, .undef, .undef, .undef, .undef, .undef, .undef, .undef, .undef, .undef, .undef, .undef, .undef, .undef, .undef, .undef, .undef, .undef, .undef, .undef, .undef, .undef, .undef, .undef, .undef, .undef, .undef, .undef, .undef, .undef, .undef, .undef, .undef, .undef, .undef, .undef, .undef, .undef, .undef, .undef, .undef, .undef, .undef, .undef, .undef, .undef, .undef, .undef]
def X16 (N : Nat) (z : Int) (kb : Bool) (t : Nat) : Env := [.undef, .int .i64 (N : Nat), .int .i64 z, .bool kb, .undef, .undef, .undef, .undef, .undef, .undef, .ptr t 0, .int .i64 (N : Nat), .undef, .undef, .undef, .undef, .undef, .undef, .undef, .undef, .undef, .undef, .undef, .undef, .undef, .undef, .undef, .undef, .undef, .int .i64 (N : Nat), .int .i64 (N : Nat), .bool false, .undef, .undef, .undef, .undef, .undef, .undef, .undef, .undef, .undef, .undef, .undef, .undef, .undef, .undef, .undef, .undef, .undef, .undef, .undef, .undef, .undef, .undef, .undef, .undef, .undef, .undef, .undef, .undef, .undef, .undef, .undef, .undef, .undef, .undef, .undef, .undef, .undef, .undef, .undef, .undef, .undef, .undef, .undef, .undef, .undef, .undef, .undef, .undef, .undef, .undef, .undef, .undef, .undef, .undef, .undef, .undef, .undef, .undef, .undef, .undef, .undef, .undef, .undef]
theorem loopP16 (N : Nat) (z : Int) (kb : Bool) (h8 : N ≤ 8) {s1 : St} {t o ix : Nat} {W : Int} (h : TurnAt s1 t o ix 1 8 true W [] 0 0 0 false) (e : Env) (he : maskE M16b1l e = E16 N z kb t 0) :
    ∃ S, iter (evC tabGl (evO 999) 999 M16b1) M16b1l 999 e s1 = some (.exit 0, X16 N z kb t, S) ∧ TurnAt S t o ix 1 8 true W (bdQ N) 0 0 0 false := by
  refine iter_leave (evC tabGl (evO 999) 999 M16b1) M16b1l (fun i e S => maskE M16b1l e = E16 N z kb t (i : Nat) ∧ TurnAt S t o ix 1 8 true W (bdQ i) 0 0 0 false)
    (fun out => ∃ S, out = some (.exit 0, X16 N z kb t, S) ∧ TurnAt S t o ix 1 8 true W (bdQ N) 0 0 0 false) N ?_ ?_ N 0 _ _ 999 (by omega) ⟨he, h⟩ (by omega)
  · rintro i e S hi ⟨h1, h2⟩
    rw [h1]
    obtain ⟨S', p1, p2, _⟩ := put_evT 997 (bd i) h2 (by rw [bdQ_len]; omega) (by simp [bd])
    have q : ((i : Int) < ((N : Nat) : Int)) = True := eq_true (by omega)
    have h34 := o34 998 i
    have w1 : IntKind.i64.wrap ((i : Int) + 1) = ((i + 1 : Nat) : Int) := (wrapI _ (by omega) (by omega)).trans (by omega)
    left
    suffices hs : ∃ e', evC tabGl (evO 999) 999 M16b1 (E16 N z kb t (i : Nat)) S = some (.nrm, e', S') ∧ maskE M16b1l e' = E16 N z kb t ((i + 1 : Nat) : Int) by
      obtain ⟨e', g1, g2⟩ := hs
      exact ⟨e', S', g1, g2, by rw [bdQ_succ]; exact p2⟩
    simp only [M16b1, E16, q, h34, p1, w1, qES0, qES1, qES2, env0, List.length_cons, List.length_nil, Nat.reduceAdd, Nat.reduceSub, List.replicate, List.cons_append, List.nil_append, opd, Env.put, Env.at, List.set_cons_zero, List.set_cons_succ, List.getD_cons_zero, List.getD_cons_succ, freezeL, resVs, oneOr, Option.map_some, Option.map_none, List.map_cons, List.map_nil, if_true, if_false, Bool.not_true, Bool.not_false, Bool.false_eq_true, reduceIte, decide_true, decide_false, Int.reduceLT, Int.reduceLE, Int.reduceGT, Int.reduceGE, Int.reduceEq, Int.reduceBEq, Int.reduceBNe, load_ptr, ldV_some, cellAt_cells, List.getElem?_cons_zero, List.getElem?_cons_succ, store_ptr, stO_some, setAt_0, setAt_1, setAt_2, setAt_3, setAt_4, setAt_5, setAt_6, setAt_7, setAt_8, setAt_9, setAt_10, setAt_11, setAt_12, cells_int, cells_bool, cells_str, cells_nils, cells_nilp, cells_ptr, cells_sl, cells_u8, cells_u16, cells_agg, get_upd_is, Option.isSome_some, upd_upd, ev1_nchkV, ev1_faV, nchkV_ptr, faV_ptr, ev1_extV, extV_tup, eqptr_nil, eqptr_ptr, Nat.zero_add, Nat.add_zero, qPL0, qPL1, qPL2, qPL3, qPL4, qPL5, beq_self_eq_true]
    exact ⟨_, rfl, rfl⟩
  · rintro e S ⟨h1, h2⟩
    rw [h1]
    have q : (((N : Nat) : Int) < ((N : Nat) : Int)) = False := eq_false (by omega)
    have hx : evC tabGl (evO 999) 999 M16b1 (E16 N z kb t (N : Nat)) S = some (.exit 0, X16 N z kb t, S) := by
      simp only [M16b1, E16, X16, q, qES0, qES1, qES2, env0, List.length_cons, List.length_nil, Nat.reduceAdd, Nat.reduceSub, List.replicate, List.cons_append, List.nil_append, opd, Env.put, Env.at, List.set_cons_zero, List.set_cons_succ, List.getD_cons_zero, List.getD_cons_succ, freezeL, resVs, oneOr, Option.map_some, Option.map_none, List.map_cons, List.map_nil, if_true, if_false, Bool.not_true, Bool.not_false, Bool.false_eq_true, reduceIte, decide_true, decide_false, Int.reduceLT, Int.reduceLE, Int.reduceGT, Int.reduceGE, Int.reduceEq, Int.reduceBEq, Int.reduceBNe, load_ptr, ldV_some, cellAt_cells, List.getElem?_cons_zero, List.getElem?_cons_succ, store_ptr, stO_some, setAt_0, setAt_1, setAt_2, setAt_3, setAt_4, setAt_5, setAt_6, setAt_7, setAt_8, setAt_9, setAt_10, setAt_11, setAt_12, cells_int, cells_bool, cells_str, cells_nils, cells_nilp, cells_ptr, cells_sl, cells_u8, cells_u16, cells_agg, get_upd_is, Option.isSome_some, upd_upd, ev1_nchkV, ev1_faV, nchkV_ptr, faV_ptr, ev1_extV, extV_tup, eqptr_nil, eqptr_ptr, Nat.zero_add, Nat.add_zero, qPL0, qPL1, qPL2, qPL3, qPL4, qPL5, beq_self_eq_true]
    rw [hx]
    exact ⟨⟨S, rfl, h2⟩, fun _ _ h => by cases h⟩
def E16c (N : Nat) (z : Int) (kb : Bool) (t : Nat) (lv : AV) (q : Nat) (c j : Int) : Env := [.undef, .int .i64 (N : Nat), .int .i64 z, .bool kb, .undef, .undef, .undef, .undef, .undef, .undef, .ptr t 0, .undef, .int .i64 c, .undef, .undef, .undef, .undef, .undef, .undef, .undef, .undef, .undef, .undef, .undef, .undef, .undef, .undef, .undef, .undef, .undef, .undef, .undef, .undef, .undef, .undef, .undef, .undef, .undef, .undef, lv, .int .i64 (q : Nat), .int .i64 j, .undef, .undef, .undef, .undef, .undef, .undef, .undef, .undef, .undef, .undef, .undef, .undef, .undef, .undef, .undef, .undef, .undef, .undef, .undef, .undef, .undef, .undef, .undef, .undef, .undef, .undef, .undef, .undef, .undef, .undef, .undef, .undef, .undef, .undef, .undef, .undef, .undef, .undef, .undef, .undef, .undef, .undef, .undef, .undef, .undef, .undef, .undef, .undef, .undef, .undef, .undef, .undef, .undef]
def X16c (N : Nat) (z : Int) (kb : Bool) (t : Nat) (lv : AV) (q : Nat) (c : Int) : Env := [.undef, .int .i64 (N : Nat), .int .i64 z, .bool kb, .undef, .undef, .undef, .undef, .undef, .undef, .ptr t 0, .undef, .int .i64 c, .undef, .undef, .undef, .undef, .undef, .undef, .undef, .undef, .undef, .undef, .undef, .undef, .undef, .undef, .undef, .undef, .undef, .undef, .undef, .undef, .undef, .undef, .undef, .undef, .undef, .undef, lv, .int .i64 (q : Nat), .int .i64 (q : Nat), .bool false, .undef, .undef, .undef, .undef, .undef, .undef, .undef, .undef, .undef, .undef, .undef, .undef, .undef, .undef, .undef, .undef, .undef, .undef, .undef, .undef, .undef, .undef, .undef, .undef, .undef, .undef, .undef, .undef, .undef, .undef, .undef, .undef, .undef, .undef, .undef, .undef, .undef, .undef, .undef, .undef, .undef, .undef, .undef, .undef, .undef, .undef, .undef, .undef, .undef, .undef, .undef, .undef]
theorem loopC16 (N : Nat) (z : Int) (kb : Bool) {s1 : St} {t o ix : Nat} {W : Int} {L : List (List UInt8)} {st : Int} {mine : Bool} (cmd : Bool) (nr f : Int) (L0 : List (List UInt8)) (od0 : Bool) (m : Nat) (hm : m ≤ 8) (h : TurnAt s1 t o ix 1 8 mine W L 0 st 0 false) (e : Env) (he : maskE M16b0l e = E16c N z kb t (.sl (goC cmd nr f L0 od0 m) (max 1 m) none) (max 1 m) 0 0) :
    ∃ S, iter (evC tabGl (evO 999) 999 M16b0) M16b0l 999 e s1 = some (.exit 2, X16c N z kb t (.sl (goC cmd nr f L0 od0 m) (max 1 m) none) (max 1 m) (m : Nat), S) ∧ TurnAt S t o ix 1 8 mine W L 0 st 0 false := by
  refine iter_leave (evC tabGl (evO 999) 999 M16b0) M16b0l (fun j e S => maskE M16b0l e = E16c N z kb t (.sl (goC cmd nr f L0 od0 m) (max 1 m) none) (max 1 m) ((min j m : Nat) : Int) (j : Nat) ∧ TurnAt S t o ix 1 8 mine W L 0 st 0 false)
    (fun out => ∃ S, out = some (.exit 2, X16c N z kb t (.sl (goC cmd nr f L0 od0 m) (max 1 m) none) (max 1 m) (m : Nat), S) ∧ TurnAt S t o ix 1 8 mine W L 0 st 0 false) (max 1 m) ?_ ?_ (max 1 m) 0 _ _ 999 (by omega) ⟨by simpa using he, h⟩ (by omega)
  · rintro j e S hj ⟨h1, h2⟩
    rw [h1]
    obtain ⟨rest, hr⟩ := go_at cmd nr f L0 od0 m j hj
    have ixf : ixaV 9 (.sl (goC cmd nr f L0 od0 m) (max 1 m) none) (.int .i64 (j : Int)) = some (.rp ((goC cmd nr f L0 od0 m).drop (j * 9))) := by
      simp only [ixaV, idx]
      rw [if_pos ⟨by omega, by omega⟩]
      simp
    have q : ((j : Int) < ((max 1 m : Nat) : Int)) = True := eq_true (by omega)
    have w1 : IntKind.i64.wrap ((j : Int) + 1) = ((j + 1 : Nat) : Int) := (wrapI _ (by omega) (by omega)).trans (by omega)
    left
    by_cases h0 : m = 0
    · rw [if_pos h0] at hr
      have hcut : Ab.cut ((goC cmd nr f L0 od0 m).drop (j * 9)) 0 (some 9) = some (.agg (plC 0 0 cmd 2 (if od0 = true then 2 else 0) nr 0 true [])) := by rw [hr]; exact cut_pl _ _ _ _ _ _ _ _ _ _
      have hmin : min (j + 1) m = min j m := by omega
      suffices hs : ∃ e', evC tabGl (evO 999) 999 M16b0 (E16c N z kb t (.sl (goC cmd nr f L0 od0 m) (max 1 m) none) (max 1 m) ((min j m : Nat) : Int) (j : Nat)) S = some (.nrm, e', S.new (.cells 0 (plC 0 0 cmd 2 (if od0 = true then 2 else 0) nr 0 true []))) ∧ maskE M16b0l e' = E16c N z kb t (.sl (goC cmd nr f L0 od0 m) (max 1 m) none) (max 1 m) ((min j m : Nat) : Int) ((j + 1 : Nat) : Int) by
        obtain ⟨e', g1, g2⟩ := hs
        exact ⟨e', _, g1, by rw [hmin]; exact g2, h2.new _⟩
      have n1 : ((2 : Int) == 1) = false := rfl
      unfold plC at *
      rw [show S = S.pl [] from rfl]
      simp only [M16b0, E16c, q, ixf, hcut, w1, n1, qES0, qES1, qES2, env0, List.length_cons, List.length_nil, Nat.reduceAdd, Nat.reduceSub, List.replicate, List.cons_append, List.nil_append, opd, Env.put, Env.at, List.set_cons_zero, List.set_cons_succ, List.getD_cons_zero, List.getD_cons_succ, freezeL, resVs, oneOr, Option.map_some, Option.map_none, List.map_cons, List.map_nil, if_true, if_false, Bool.not_true, Bool.not_false, Bool.false_eq_true, reduceIte, decide_true, decide_false, Int.reduceLT, Int.reduceLE, Int.reduceGT, Int.reduceGE, Int.reduceEq, Int.reduceBEq, Int.reduceBNe, load_ptr, ldV_some, cellAt_cells, List.getElem?_cons_zero, List.getElem?_cons_succ, store_ptr, stO_some, setAt_0, setAt_1, setAt_2, setAt_3, setAt_4, setAt_5, setAt_6, setAt_7, setAt_8, setAt_9, setAt_10, setAt_11, setAt_12, cells_int, cells_bool, cells_str, cells_nils, cells_nilp, cells_ptr, cells_sl, cells_u8, cells_u16, cells_agg, get_upd_is, Option.isSome_some, upd_upd, ev1_nchkV, ev1_faV, nchkV_ptr, faV_ptr, ev1_extV, extV_tup, eqptr_nil, eqptr_ptr, Nat.zero_add, Nat.add_zero, qPL0, qPL1, qPL2, qPL3, qPL4, qPL5, beq_self_eq_true]
      exact ⟨_, rfl, rfl⟩
    · rw [if_neg h0] at hr
      have hcut : Ab.cut ((goC cmd nr f L0 od0 m).drop (j * 9)) 0 (some 9) = some (.agg (plC 0 0 cmd 1 0 nr ((f + (j : Nat)) % 8) (decide (j + 1 = m)) (L0.getD j []))) := by rw [hr]; exact cut_pl _ _ _ _ _ _ _ _ _ _
      have hmin : min (j + 1) m = j + 1 := by omega
      have hmin' : min j m = j := by omega
      suffices hs : ∃ e', evC tabGl (evO 999) 999 M16b0 (E16c N z kb t (.sl (goC cmd nr f L0 od0 m) (max 1 m) none) (max 1 m) ((j : Nat) : Int) (j : Nat)) S = some (.nrm, e', S.new (.cells 0 (plC 0 0 cmd 1 0 nr ((f + (j : Nat)) % 8) (decide (j + 1 = m)) (L0.getD j [])))) ∧ maskE M16b0l e' = E16c N z kb t (.sl (goC cmd nr f L0 od0 m) (max 1 m) none) (max 1 m) ((j + 1 : Nat) : Int) ((j + 1 : Nat) : Int) by
        obtain ⟨e', g1, g2⟩ := hs
        exact ⟨e', _, by rw [hmin']; exact g1, by rw [hmin]; exact g2, h2.new _⟩
      have n1 : ((1 : Int) == 1) = true := rfl
      unfold plC at *
      rw [show S = S.pl [] from rfl]
      simp only [M16b0, E16c, q, ixf, hcut, w1, n1, qES0, qES1, qES2, env0, List.length_cons, List.length_nil, Nat.reduceAdd, Nat.reduceSub, List.replicate, List.cons_append, List.nil_append, opd, Env.put, Env.at, List.set_cons_zero, List.set_cons_succ, List.getD_cons_zero, List.getD_cons_succ, freezeL, resVs, oneOr, Option.map_some, Option.map_none, List.map_cons, List.map_nil, if_true, if_false, Bool.not_true, Bool.not_false, Bool.false_eq_true, reduceIte, decide_true, decide_false, Int.reduceLT, Int.reduceLE, Int.reduceGT, Int.reduceGE, Int.reduceEq, Int.reduceBEq, Int.reduceBNe, load_ptr, ldV_some, cellAt_cells, List.getElem?_cons_zero, List.getElem?_cons_succ, store_ptr, stO_some, setAt_0, setAt_1, setAt_2, setAt_3, setAt_4, setAt_5, setAt_6, setAt_7, setAt_8, setAt_9, setAt_10, setAt_11, setAt_12, cells_int, cells_bool, cells_str, cells_nils, cells_nilp, cells_ptr, cells_sl, cells_u8, cells_u16, cells_agg, get_upd_is, Option.isSome_some, upd_upd, ev1_nchkV, ev1_faV, nchkV_ptr, faV_ptr, ev1_extV, extV_tup, eqptr_nil, eqptr_ptr, Nat.zero_add, Nat.add_zero, qPL0, qPL1, qPL2, qPL3, qPL4, qPL5, beq_self_eq_true]
      exact ⟨_, rfl, rfl⟩
  · rintro e S ⟨h1, h2⟩
    rw [h1]
    have q : (((max 1 m : Nat) : Int) < ((max 1 m : Nat) : Int)) = False := eq_false (by omega)
    have hmin : min (max 1 m) m = m := by omega
    rw [hmin]
    have hx : evC tabGl (evO 999) 999 M16b0 (E16c N z kb t (.sl (goC cmd nr f L0 od0 m) (max 1 m) none) (max 1 m) (m : Nat) ((max 1 m : Nat) : Int)) S = some (.exit 2, X16c N z kb t (.sl (goC cmd nr f L0 od0 m) (max 1 m) none) (max 1 m) (m : Nat), S) := by
      simp only [M16b0, E16c, X16c, q, qES0, qES1, qES2, env0, List.length_cons, List.length_nil, Nat.reduceAdd, Nat.reduceSub, List.replicate, List.cons_append, List.nil_append, opd, Env.put, Env.at, List.set_cons_zero, List.set_cons_succ, List.getD_cons_zero, List.getD_cons_succ, freezeL, resVs, oneOr, Option.map_some, Option.map_none, List.map_cons, List.map_nil, if_true, if_false, Bool.not_true, Bool.not_false, Bool.false_eq_true, reduceIte, decide_true, decide_false, Int.reduceLT, Int.reduceLE, Int.reduceGT, Int.reduceGE, Int.reduceEq, Int.reduceBEq, Int.reduceBNe, load_ptr, ldV_some, cellAt_cells, List.getElem?_cons_zero, List.getElem?_cons_succ, store_ptr, stO_some, setAt_0, setAt_1, setAt_2, setAt_3, setAt_4, setAt_5, setAt_6, setAt_7, setAt_8, setAt_9, setAt_10, setAt_11, setAt_12, cells_int, cells_bool, cells_str, cells_nils, cells_nilp, cells_ptr, cells_sl, cells_u8, cells_u16, cells_agg, get_upd_is, Option.isSome_some, upd_upd, ev1_nchkV, ev1_faV, nchkV_ptr, faV_ptr, ev1_extV, extV_tup, eqptr_nil, eqptr_ptr, Nat.zero_add, Nat.add_zero, qPL0, qPL1, qPL2, qPL3, qPL4, qPL5, beq_self_eq_true]
    rw [hx]
    exact ⟨⟨S, rfl, h2⟩, fun _ _ h => by cases h⟩
end Go.Proofs.YtochnineebgbgaaDoor
namespace Go.Ab
open Go Go.ChangeShapes Go.WideShapes Go.ChangeAt Go.RowKit
theorem arg_bool {P : Program} {W : World} {base : Nat} {G : Gh} {t : TypeId} {v : Value} (ht : P.underlying t = some .bool) (hval : Value.okWide P W .any base t v) : ∃ b, RelV G (.bool b) v := by
  unfold Value.okWide at hval
  rw [ht] at hval
  obtain ⟨b, rfl⟩ := cell_bool ht hval
  exact ⟨b, .bool _⟩
end Go.Ab
