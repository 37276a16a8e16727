/- The two loops of TurnGo. No conditions. -/
import Derived.Test.YtochnineebgbgaaDoorAck
import Derived.Test.YtochnineebgbgaaDoorText41
import Derived.Test.YtochnineebgbgaaDoorArgT
import Derived.Test.YtochnineebgbgaaDoorM12k
set_option linter.unusedSimpArgs false
set_option linter.unusedVariables false
set_option maxRecDepth 100000
set_option maxHeartbeats 4000000
namespace Go.Proofs.YtochnineebgbgaaDoor
open Go Go.Ab
theorem b2i_ev (k : Nat) (b : Bool) (s : St) : evO (k + 1) 45 [.bool b] s = some (.int .i64 (if b = true then 1 else 0), s) := by
  rw [evO_in rfl tab45]
  cases b <;> simp only [M45, if_true, Bool.false_eq_true, if_false, qES0, qES1, qES2, env0, List.length_cons, List.length_nil, Nat.reduceAdd, Nat.reduceSub, List.replicate, List.cons_append, List.nil_append, opd, Env.put, Env.at, List.set_cons_zero, List.set_cons_succ, List.getD_cons_zero, List.getD_cons_succ, freezeL, resVs, oneOr, Option.map_some, Option.map_none, List.map_cons, List.map_nil, if_true, if_false, Bool.not_true, Bool.not_false, Bool.false_eq_true, reduceIte, decide_true, decide_false, Int.reduceLT, Int.reduceLE, Int.reduceGT, Int.reduceGE, Int.reduceEq, Int.reduceBEq, Int.reduceBNe, load_ptr, ldV_some, cellAt_cells, List.getElem?_cons_zero, List.getElem?_cons_succ, store_ptr, stO_some, setAt_0, setAt_1, setAt_2, setAt_3, setAt_4, setAt_5, setAt_6, setAt_7, setAt_8, setAt_9, setAt_10, setAt_11, setAt_12, cells_int, cells_bool, cells_str, cells_nils, cells_nilp, cells_ptr, cells_sl, cells_u8, cells_u16, cells_agg, get_upd_is, Option.isSome_some, upd_upd, ev1_nchkV, ev1_faV, nchkV_ptr, faV_ptr, ev1_extV, extV_tup, eqptr_nil, eqptr_ptr, Nat.zero_add, Nat.add_zero, qPL0, qPL1, qPL2, qPL3, qPL4, qPL5, beq_self_eq_true]
theorem _root_.Go.Ab.IsStrs.len {x : AV} {z : List (List UInt8)} (h : IsStrs x z) : lenV x = some (.int .i64 (z.length : Nat)) := by
  rcases h with ⟨rfl, rfl⟩ | rfl <;> simp [lenV]
theorem _root_.Go.Ab.IsStrs.freeze {x : AV} {z : List (List UInt8)} (h : IsStrs x z) (n : Nat) (s : St) : Ab.freeze n s x = some (x, s) := by
  rcases h with ⟨rfl, rfl⟩ | rfl <;> rfl
theorem _root_.Go.Ab.IsStrs.ixa {x : AV} {z : List (List UInt8)} (h : IsStrs x z) (j : Nat) (hj : j < z.length) : ∃ rp, ixaV 1 x (.int .i64 (j : Int)) = some (.rp rp) ∧ Ab.cut rp 0 none = some (.str z[j]) := by
  rcases h with ⟨rfl, rfl⟩ | rfl
  · simp at hj
  · refine ⟨(z.map (.str ·)).drop j, ?_, ?_⟩
    · simp only [ixaV, idx]
      rw [if_pos ⟨by omega, by omega⟩]
      simp
    · simp [Ab.cut, hj]
theorem loadR_rpG (gl : Nat → AV) (n : Option Nat) (s : St) (cs : List AV) : loadR s n (.rp cs) = pR s (Ab.cut cs 0 n) := (id rfl)
def E10b (x : AV) (t : Nat) (n : Int) (l : AV) (len j : Int) : Env := [.undef, .undef, x, .undef, .undef, .undef, .undef, .undef, .ptr t 0, .int .i64 n, .undef, l, .undef, .undef, .undef, .undef, .undef, .undef, .undef, .undef, .undef, .undef, .undef, .undef, .undef, .undef, .undef, .undef, .undef, .undef, .undef, .undef, .undef, .undef, .undef, .undef, .undef, .undef, .undef, .undef, .undef, .undef, .undef, .undef, .undef, .undef, .undef, .undef, .undef, .undef, .undef, .undef, .undef, .undef, .undef, .undef, .undef, .undef, .undef, .undef, .undef, .undef, .undef, .undef, .undef, .undef, .undef, .undef, .undef, .undef, .undef, .undef, .undef, .undef, .undef, .undef, .undef, .undef, .undef, .undef, .undef, .undef, .undef, .undef, .undef, .int .i64 len, .int .i64 j, .undef, .undef, .undef, .undef, .undef, .undef, .undef, .undef, .undef, .undef, .undef, .undef, .undef, .undef, .undef, .undef, .undef, .undef, .undef, .undef, .undef, .undef, .undef, .undef, .undef, .undef, .undef, .undef, .undef, .undef, .undef, .undef, .undef, .undef, .undef, .undef, .undef, .undef, .undef, .undef, .undef, .undef, .undef, .undef, .undef, .undef, .undef, .undef, .undef, .undef, .undef, .undef, .undef, .undef, .undef, .undef, .undef, .undef, .undef, .undef, .undef, .undef, .undef, .undef, .undef, .undef, .undef, .undef, .undef, .undef, .undef, .undef, .undef, .undef]
theorem pl_f2 (a b : Int) (c : Bool) (d e f g : Int) (h : Bool) (y : List UInt8) (r : List AV) : faV 2 (.rp (plC a b c d e f g h y ++ r)) = some (.rp (.bool c :: .int .i64 d :: .int .i64 e :: .int .i64 f :: .int .i64 g :: .bool h :: .str y :: r)) := by simp only [faV]; rw [if_pos (by simp [plC])]; rfl
theorem pl_f3 (a b : Int) (c : Bool) (d e f g : Int) (h : Bool) (y : List UInt8) (r : List AV) : faV 3 (.rp (plC a b c d e f g h y ++ r)) = some (.rp (.int .i64 d :: .int .i64 e :: .int .i64 f :: .int .i64 g :: .bool h :: .str y :: r)) := by simp only [faV]; rw [if_pos (by simp [plC])]; rfl
theorem pl_f6 (a b : Int) (c : Bool) (d e f g : Int) (h : Bool) (y : List UInt8) (r : List AV) : faV 6 (.rp (plC a b c d e f g h y ++ r)) = some (.rp (.int .i64 g :: .bool h :: .str y :: r)) := by simp only [faV]; rw [if_pos (by simp [plC])]; rfl
theorem pl_f7 (a b : Int) (c : Bool) (d e f g : Int) (h : Bool) (y : List UInt8) (r : List AV) : faV 7 (.rp (plC a b c d e f g h y ++ r)) = some (.rp (.bool h :: .str y :: r)) := by simp only [faV]; rw [if_pos (by simp [plC])]; rfl
theorem pl_f8 (a b : Int) (c : Bool) (d e f g : Int) (h : Bool) (y : List UInt8) (r : List AV) : faV 8 (.rp (plC a b c d e f g h y ++ r)) = some (.rp (.str y :: r)) := by simp only [faV]; rw [if_pos (by simp [plC])]; rfl
theorem cut1 (a : AV) (r : List AV) : Ab.cut (a :: r) 0 none = some a := rfl
theorem goL0 (x : AV) (z : List (List UInt8)) (hx : IsStrs x z) (n m W : Nat) (B : List (List UInt8)) (hB : ∀ j, j < m → ∃ h : j < z.length, B.getD j [] = z[j].take 64) (s : St) (t o ix : Nat) (h : TurnAt s t o ix 1 64 false (W : Nat) B 0 (m : Nat) 0 false) (hn : n = B.length) (hm : m = min W n) (hW1 : 1 ≤ W) (hW7 : W ≤ 7) (hn8 : n ≤ 8) :
    ∀ e, maskE M10b0l e = E10b x t (n : Nat) (.sl (goC true 0 0 B false m) (max 1 m) none) (max 1 m : Nat) 0 → valR (outR M10.res (seqR (blockR 2 (iter (evC tabGl (evO 999) 999 M10b0) M10b0l 999 e s)) (evC tabGl (evO 999) 999 M10r0))) = some (.bool true) := by
  intro e he
  have fx := hx.freeze
  have lnS : ∀ cs (q : Nat) tk, lenV (.sl cs q tk) = some (.int .i64 (q : Nat)) := fun _ _ _ => rfl
  have fzl : ∀ (k q : Nat) cs s, Ab.freeze k s (.sl cs q none) = some (.sl cs q none, s) := fun _ _ _ _ => rfl
  have w0 : ∀ (a : Bool), eqAV (.flat (.one .b)) (.bool a) (.bool a) = some true := fun a => by cases a <;> rfl
  have nn : ∀ m : Int, binV .neq (.int .i64 m) (.int .i64 m) = some (.bool false) := fun m => by
    show some (AV.bool (m != m)) = _
    simp
  have ns : ∀ b : List UInt8, binV .neq (.str b) (.str b) = some (.bool false) := fun b => by
    show some (AV.bool (!(b == b))) = _
    simp
  have h45 := b2i_ev 998
  refine iter_leave (evC tabGl (evO 999) 999 M10b0) M10b0l (fun j e S => S = s ∧ maskE M10b0l e = E10b x t (n : Nat) (.sl (goC true 0 0 B false m) (max 1 m) none) (max 1 m : Nat) (j : Nat))
    (fun out => valR (outR M10.res (seqR (blockR 2 out) (evC tabGl (evO 999) 999 M10r0))) = some (.bool true)) (max 1 m) ?_ ?_ (max 1 m) 0 _ _ 999 (by omega) ⟨rfl, he⟩ (by omega)
  · rintro j e S hj ⟨rfl, h1⟩
    rw [h1]
    left
    obtain ⟨rest, hr⟩ := go_at true 0 0 B false m j hj
    have ixf : ixaV 9 (.sl (goC true 0 0 B false m) (max 1 m) none) (.int .i64 (j : Int)) = some (.rp ((goC true 0 0 B false m).drop (j * 9))) := by
      simp only [ixaV, idx]
      rw [if_pos ⟨by omega, by omega⟩]
      simp
    have q : ((j : Int) < ((max 1 m : Nat) : Int)) = True := eq_true (by omega)
    have w1 : IntKind.i64.wrap ((j : Int) + 1) = ((j + 1 : Nat) : Int) := (wrapI _ (by omega) (by omega)).trans (by omega)
    have w2 : IntKind.i64.wrap (((max 1 m : Nat) : Int) - 1) = ((max 1 m - 1 : Nat) : Int) := (wrapI _ (by omega) (by omega)).trans (by omega)
    suffices hs : ∃ e', evC tabGl (evO 999) 999 M10b0 (E10b x t (n : Nat) (.sl (goC true 0 0 B false m) (max 1 m) none) (max 1 m : Nat) (j : Nat)) S = some (.nrm, e', S) ∧ maskE M10b0l e' = E10b x t (n : Nat) (.sl (goC true 0 0 B false m) (max 1 m) none) (max 1 m : Nat) ((j + 1 : Nat) : Int) by
      obtain ⟨e', g1, g2⟩ := hs
      exact ⟨e', S, g1, rfl, g2⟩
    by_cases h0 : m = 0
    · rw [if_pos h0] at hr
      rw [hr] at ixf
      have g7 := pl_f7 0 0 true 2 0 0 0 true [] rest
      have g2 := pl_f2 0 0 true 2 0 0 0 true [] rest
      have g3 := pl_f3 0 0 true 2 0 0 0 true [] rest
      simp only [Bool.false_eq_true, if_false] at ixf
      generalize plC 0 0 true 2 0 0 0 true [] ++ rest = r0 at ixf g7 g2 g3
      have bE : ((j : Int) == ((max 1 m - 1 : Nat) : Int)) = true := beq_iff_eq.2 (by omega)
      have n0 : n = 0 := by omega
      have gn : (((n : Nat) : Int) > 0) = False := eq_false (by omega)
      have gd : decide (((n : Nat) : Int) > 0) = false := decide_eq_false (by omega)
      have u1 : IntKind.i64.wrap (2 - 0) = 2 := rfl
      generalize goC true 0 0 B false m = gl0 at *
      simp only [M10b0, E10b, q, ixf, g7, g2, g3, cut1, lnS, w1, w2, bE, gn, gd, h45, u1, nn, ns, w0, fx, fzl, ev1_eqv, loadR_rp, if_false, Bool.false_eq_true, qES0, qES1, qES2, env0, List.length_cons, List.length_nil, Nat.reduceAdd, Nat.reduceSub, List.replicate, List.cons_append, List.nil_append, opd, Env.put, Env.at, List.set_cons_zero, List.set_cons_succ, List.getD_cons_zero, List.getD_cons_succ, freezeL, resVs, oneOr, Option.map_some, Option.map_none, List.map_cons, List.map_nil, if_true, if_false, Bool.not_true, Bool.not_false, Bool.false_eq_true, reduceIte, decide_true, decide_false, Int.reduceLT, Int.reduceLE, Int.reduceGT, Int.reduceGE, Int.reduceEq, Int.reduceBEq, Int.reduceBNe, load_ptr, ldV_some, cellAt_cells, List.getElem?_cons_zero, List.getElem?_cons_succ, store_ptr, stO_some, setAt_0, setAt_1, setAt_2, setAt_3, setAt_4, setAt_5, setAt_6, setAt_7, setAt_8, setAt_9, setAt_10, setAt_11, setAt_12, cells_int, cells_bool, cells_str, cells_nils, cells_nilp, cells_ptr, cells_sl, cells_u8, cells_u16, cells_agg, get_upd_is, Option.isSome_some, upd_upd, ev1_nchkV, ev1_faV, nchkV_ptr, faV_ptr, ev1_extV, extV_tup, eqptr_nil, eqptr_ptr, Nat.zero_add, Nat.add_zero, qPL0, qPL1, qPL2, qPL3, qPL4, qPL5, beq_self_eq_true, qED0, qED1, placeR]
      rw [drawR_ok]; case h => simp (config := { decide := true }) [calm, calmPair, calmTwo, List.range, List.range.loop, sameO_refl, plg0, plg1, plg2, plg3, plg4, plg5, plg6, plg7, plg8, plg9, plg10, plg11, plg12, plg13]
      simp only [q, ixf, g7, g2, g3, cut1, lnS, w1, w2, bE, gn, gd, h45, u1, nn, ns, w0, fx, fzl, ev1_eqv, loadR_rp, if_false, Bool.false_eq_true, qES0, qES1, qES2, env0, List.length_cons, List.length_nil, Nat.reduceAdd, Nat.reduceSub, List.replicate, List.cons_append, List.nil_append, opd, Env.put, Env.at, List.set_cons_zero, List.set_cons_succ, List.getD_cons_zero, List.getD_cons_succ, freezeL, resVs, oneOr, Option.map_some, Option.map_none, List.map_cons, List.map_nil, if_true, if_false, Bool.not_true, Bool.not_false, Bool.false_eq_true, reduceIte, decide_true, decide_false, Int.reduceLT, Int.reduceLE, Int.reduceGT, Int.reduceGE, Int.reduceEq, Int.reduceBEq, Int.reduceBNe, load_ptr, ldV_some, cellAt_cells, List.getElem?_cons_zero, List.getElem?_cons_succ, store_ptr, stO_some, setAt_0, setAt_1, setAt_2, setAt_3, setAt_4, setAt_5, setAt_6, setAt_7, setAt_8, setAt_9, setAt_10, setAt_11, setAt_12, cells_int, cells_bool, cells_str, cells_nils, cells_nilp, cells_ptr, cells_sl, cells_u8, cells_u16, cells_agg, get_upd_is, Option.isSome_some, upd_upd, ev1_nchkV, ev1_faV, nchkV_ptr, faV_ptr, ev1_extV, extV_tup, eqptr_nil, eqptr_ptr, Nat.zero_add, Nat.add_zero, qPL0, qPL1, qPL2, qPL3, qPL4, qPL5, beq_self_eq_true, qED0, qED1, placeR]
      exact ⟨_, rfl, rfl⟩
    · rw [if_neg h0] at hr
      obtain ⟨hz, hb⟩ := hB j (by omega)
      rw [hb, show (((0 : Int) + (j : Nat)) % 8) = (j : Int) by omega] at hr
      rw [hr] at ixf
      obtain ⟨rp, i1, i2⟩ := hx.ixa j hz
      have h41 := text_ev 998 z[j] 64
      generalize z[j] = zj at *
      generalize hpb : decide (j + 1 = m) = pb at *
      have g7 := pl_f7 0 0 true 1 0 0 (j : Int) pb (zj.take 64) rest
      have g2 := pl_f2 0 0 true 1 0 0 (j : Int) pb (zj.take 64) rest
      have g3 := pl_f3 0 0 true 1 0 0 (j : Int) pb (zj.take 64) rest
      have g6 := pl_f6 0 0 true 1 0 0 (j : Int) pb (zj.take 64) rest
      have g8 := pl_f8 0 0 true 1 0 0 (j : Int) pb (zj.take 64) rest
      generalize plC 0 0 true 1 0 0 (j : Int) pb (zj.take 64) ++ rest = r0 at ixf g7 g2 g3 g6 g8
      have bE : ((j : Int) == ((max 1 m - 1 : Nat) : Int)) = pb := by
        rw [← hpb]
        by_cases hj1 : j + 1 = m
        · rw [decide_eq_true hj1]; exact beq_iff_eq.2 (by omega)
        · rw [decide_eq_false hj1]; exact beq_eq_false_iff_ne.2 (by omega)
      have gn : (((n : Nat) : Int) > 0) = True := eq_true (by omega)
      have gd : decide (((n : Nat) : Int) > 0) = true := decide_eq_true (by omega)
      have u1 : IntKind.i64.wrap (2 - 1) = 1 := rfl
      generalize goC true 0 0 B false m = gl0 at *
      have h41' : ∀ s, evO 999 41 [.str zj, .int .i64 64] s = some (.str (zj.take 64), s) := h41
      generalize zj.take 64 = tj at *
      simp only [M10b0, E10b, q, ixf, i1, i2, g7, g2, g3, g6, g8, cut1, lnS, w1, w2, bE, gn, gd, h45, h41', u1, nn, ns, w0, fx, fzl, ev1_eqv, loadR_rp, if_true, qES0, qES1, qES2, env0, List.length_cons, List.length_nil, Nat.reduceAdd, Nat.reduceSub, List.replicate, List.cons_append, List.nil_append, opd, Env.put, Env.at, List.set_cons_zero, List.set_cons_succ, List.getD_cons_zero, List.getD_cons_succ, freezeL, resVs, oneOr, Option.map_some, Option.map_none, List.map_cons, List.map_nil, if_true, if_false, Bool.not_true, Bool.not_false, Bool.false_eq_true, reduceIte, decide_true, decide_false, Int.reduceLT, Int.reduceLE, Int.reduceGT, Int.reduceGE, Int.reduceEq, Int.reduceBEq, Int.reduceBNe, load_ptr, ldV_some, cellAt_cells, List.getElem?_cons_zero, List.getElem?_cons_succ, store_ptr, stO_some, setAt_0, setAt_1, setAt_2, setAt_3, setAt_4, setAt_5, setAt_6, setAt_7, setAt_8, setAt_9, setAt_10, setAt_11, setAt_12, cells_int, cells_bool, cells_str, cells_nils, cells_nilp, cells_ptr, cells_sl, cells_u8, cells_u16, cells_agg, get_upd_is, Option.isSome_some, upd_upd, ev1_nchkV, ev1_faV, nchkV_ptr, faV_ptr, ev1_extV, extV_tup, eqptr_nil, eqptr_ptr, Nat.zero_add, Nat.add_zero, qPL0, qPL1, qPL2, qPL3, qPL4, qPL5, beq_self_eq_true, qED0, qED1, placeR]
      rw [drawR_ok]; case h => simp (config := { decide := true }) [calm, calmPair, calmTwo, List.range, List.range.loop, sameO_refl, plg0, plg1, plg2, plg3, plg4, plg5, plg6, plg7, plg8, plg9, plg10, plg11, plg12, plg13]
      simp only [q, ixf, i1, i2, g7, g2, g3, g6, g8, cut1, lnS, w1, w2, bE, gn, gd, h45, h41', u1, nn, ns, w0, fx, fzl, ev1_eqv, loadR_rp, if_true, qES0, qES1, qES2, env0, List.length_cons, List.length_nil, Nat.reduceAdd, Nat.reduceSub, List.replicate, List.cons_append, List.nil_append, opd, Env.put, Env.at, List.set_cons_zero, List.set_cons_succ, List.getD_cons_zero, List.getD_cons_succ, freezeL, resVs, oneOr, Option.map_some, Option.map_none, List.map_cons, List.map_nil, if_true, if_false, Bool.not_true, Bool.not_false, Bool.false_eq_true, reduceIte, decide_true, decide_false, Int.reduceLT, Int.reduceLE, Int.reduceGT, Int.reduceGE, Int.reduceEq, Int.reduceBEq, Int.reduceBNe, load_ptr, ldV_some, cellAt_cells, List.getElem?_cons_zero, List.getElem?_cons_succ, store_ptr, stO_some, setAt_0, setAt_1, setAt_2, setAt_3, setAt_4, setAt_5, setAt_6, setAt_7, setAt_8, setAt_9, setAt_10, setAt_11, setAt_12, cells_int, cells_bool, cells_str, cells_nils, cells_nilp, cells_ptr, cells_sl, cells_u8, cells_u16, cells_agg, get_upd_is, Option.isSome_some, upd_upd, ev1_nchkV, ev1_faV, nchkV_ptr, faV_ptr, ev1_extV, extV_tup, eqptr_nil, eqptr_ptr, Nat.zero_add, Nat.add_zero, qPL0, qPL1, qPL2, qPL3, qPL4, qPL5, beq_self_eq_true, qED0, qED1, placeR]
      exact ⟨_, rfl, rfl⟩
  · rintro e S ⟨rfl, h1⟩
    rw [h1]
    have q : (((max 1 m : Nat) : Int) < ((max 1 m : Nat) : Int)) = False := eq_false (by omega)
    obtain ⟨s1, k1, k2, _⟩ := late_evT 998 h (.inl rfl)
    have k2' : TurnAt s1 t o ix 1 64 true (W : Nat) B 0 (m : Nat) 0 false := k2
    have k3 := mine_evT 998 k2'
    obtain ⟨s2, k4, _, _⟩ := go_ev 969 W m k2' (.inl rfl) (by omega) hW7 (by omega)
    rw [← hn, ← hm] at k4
    have k1' : evO 999 44 [.ptr t 0] S = some (.bool true, s1) := k1
    have k4' : evO 999 42 [.ptr t 0] s1 = some (.sl (goC (1 == 1) 0 0 B false m) (max 1 m) none, s2) := k4
    have ee : ∀ a : Int, binV .eql (.int .i64 a) (.int .i64 a) = some (.bool true) := fun a => by
      show some (AV.bool (a == a)) = _
      simp
    generalize goC true 0 0 B false m = gl0 at *
    generalize goC (1 == 1) 0 0 B false m = gl1 at *
    refine ⟨?_, fun e' s' hh => ?_⟩
    · simp only [M10b0, M10r0, M10, E10b, q, k1', k3, k4', lnS, ee, fzl, fx, ev1_eqv, qES0, qES1, qES2, env0, List.length_cons, List.length_nil, Nat.reduceAdd, Nat.reduceSub, List.replicate, List.cons_append, List.nil_append, opd, Env.put, Env.at, List.set_cons_zero, List.set_cons_succ, List.getD_cons_zero, List.getD_cons_succ, freezeL, resVs, oneOr, Option.map_some, Option.map_none, List.map_cons, List.map_nil, if_true, if_false, Bool.not_true, Bool.not_false, Bool.false_eq_true, reduceIte, decide_true, decide_false, Int.reduceLT, Int.reduceLE, Int.reduceGT, Int.reduceGE, Int.reduceEq, Int.reduceBEq, Int.reduceBNe, load_ptr, ldV_some, cellAt_cells, List.getElem?_cons_zero, List.getElem?_cons_succ, store_ptr, stO_some, setAt_0, setAt_1, setAt_2, setAt_3, setAt_4, setAt_5, setAt_6, setAt_7, setAt_8, setAt_9, setAt_10, setAt_11, setAt_12, cells_int, cells_bool, cells_str, cells_nils, cells_nilp, cells_ptr, cells_sl, cells_u8, cells_u16, cells_agg, get_upd_is, Option.isSome_some, upd_upd, ev1_nchkV, ev1_faV, nchkV_ptr, faV_ptr, ev1_extV, extV_tup, eqptr_nil, eqptr_ptr, Nat.zero_add, Nat.add_zero, qPL0, qPL1, qPL2, qPL3, qPL4, qPL5, beq_self_eq_true, qED0, qED1, placeR]
    · simp only [M10b0, E10b, q, qES0, qES1, qES2, env0, List.length_cons, List.length_nil, Nat.reduceAdd, Nat.reduceSub, List.replicate, List.cons_append, List.nil_append, opd, Env.put, Env.at, List.set_cons_zero, List.set_cons_succ, List.getD_cons_zero, List.getD_cons_succ, freezeL, resVs, oneOr, Option.map_some, Option.map_none, List.map_cons, List.map_nil, if_true, if_false, Bool.not_true, Bool.not_false, Bool.false_eq_true, reduceIte, decide_true, decide_false, Int.reduceLT, Int.reduceLE, Int.reduceGT, Int.reduceGE, Int.reduceEq, Int.reduceBEq, Int.reduceBNe, load_ptr, ldV_some, cellAt_cells, List.getElem?_cons_zero, List.getElem?_cons_succ, store_ptr, stO_some, setAt_0, setAt_1, setAt_2, setAt_3, setAt_4, setAt_5, setAt_6, setAt_7, setAt_8, setAt_9, setAt_10, setAt_11, setAt_12, cells_int, cells_bool, cells_str, cells_nils, cells_nilp, cells_ptr, cells_sl, cells_u8, cells_u16, cells_agg, get_upd_is, Option.isSome_some, upd_upd, ev1_nchkV, ev1_faV, nchkV_ptr, faV_ptr, ev1_extV, extV_tup, eqptr_nil, eqptr_ptr, Nat.zero_add, Nat.add_zero, qPL0, qPL1, qPL2, qPL3, qPL4, qPL5, beq_self_eq_true, qED0, qED1, placeR] at hh
      cases hh
end Go.Proofs.YtochnineebgbgaaDoor
