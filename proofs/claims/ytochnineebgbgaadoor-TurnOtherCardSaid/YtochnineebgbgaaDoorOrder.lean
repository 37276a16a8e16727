/- One round of InOrder. No conditions. -/
import Derived.Test.YtochnineebgbgaaDoorIn
set_option linter.unusedSimpArgs false
set_option linter.unusedVariables false
set_option maxRecDepth 100000
namespace Go.Proofs.YtochnineebgbgaaDoor
open Go Go.Ab
def E9 (x : AV) (R : Nat) (k j : Int) : Env := [x, .undef, .undef, .undef, .ptr R 0, .int .i64 k, .int .i64 j, .undef, .undef, .undef, .undef, .undef, .undef, .undef, .undef, .undef, .undef, .undef, .undef, .undef, .undef, .undef, .undef, .undef, .undef, .undef, .undef, .undef, .undef, .undef, .undef, .undef, .undef, .undef, .undef, .undef, .undef, .undef, .undef, .undef, .undef, .undef, .undef, .undef, .undef, .undef, .undef, .undef, .undef, .undef, .undef, .undef, .undef, .undef, .undef, .undef, .undef, .undef, .undef, .undef, .undef, .undef, .undef, .undef, .undef, .undef, .undef, .undef, .undef, .undef, .undef, .undef, .undef]
def S9 (s : St) (k : Nat) (od : Bool) : St := s.pl [.cells 0 [.int .i64 ((k % 8 : Nat) : Int), .bool od]]
theorem round9 (x : AV) (zs : List Int) (hx : x = .sl (zs.map (.int .i64 ·)) zs.length none) (s : St) (k j : Nat) (od : Bool) (hj : j < zs.length) (hj2 : j < 60) (hk : k ≤ j) :
    ∃ e' k' od', evC tabGl (evB 999) 999 M9b0 (E9 x s.next k j) (S9 s k od) = some (.nrm, e', S9 s k' od') ∧ maskE M9b0l e' = E9 x s.next (k' : Nat) ((j + 1 : Nat) : Int) ∧ k' ≤ j + 1 := by
  have l0 : lenV x = some (.int .i64 (zs.length : Nat)) := by rw [hx]; rfl
  have q1 : ((j : Int) < ((zs.length : Nat) : Int)) = True := eq_true (by omega)
  have q2 : ((j : Int) < 60) = True := eq_true (by omega)
  obtain ⟨z, hz⟩ : ∃ z, zs[j]? = some z := ⟨zs[j], List.getElem?_eq_getElem hj⟩
  obtain ⟨rp, i1, i2⟩ : ∃ rp, ixaV 1 x (.int .i64 (j : Int)) = some (.rp rp) ∧ Ab.cut rp 0 none = some (.int .i64 z) := by
    refine ⟨(zs.map (.int .i64 ·)).drop j, ?_, ?_⟩
    · rw [hx]
      simp only [ixaV, idx]
      rw [if_pos ⟨by omega, by omega⟩]
      simp
    · simp [Ab.cut, hz]
  have m1 := i64_rem z 8 (by omega)
  obtain ⟨q, h1, h2, h3, _⟩ := tm8 z
  have w1 : IntKind.i64.wrap (z.tmod 8 + 8) = z.tmod 8 + 8 := wrapI _ (by omega) (by omega)
  have m2 := i64_rem (z.tmod 8 + 8) 8 (by omega)
  rw [mod8] at m2
  have hb := b34 998 j
  have ht := take_ev 997 s ((k % 8 : Nat) : Int) od (z % 8) (bd j)
  have m3 := i64_rem (k : Int) 8 (by omega)
  rw [show (k : Int).tmod 8 = ((k % 8 : Nat) : Int) from rfl] at m3
  have w2 : IntKind.i64.wrap ((j : Int) + 1) = ((j + 1 : Nat) : Int) := (wrapI _ (by omega) (by omega)).trans (by omega)
  have nn : ∀ m : Int, binV .neq (.int .i64 m) (.int .i64 m) = some (.bool false) := fun m => by
    show some (AV.bool (m != m)) = _
    simp
  have ns : binV .neq (.str (bd j)) (.str (bd j)) = some (.bool false) := by
    show some (AV.bool (!(bd j == bd j))) = _
    simp
  have w0 : ∀ (a b : Bool), eqAV (.flat (.one .b)) (.bool a) (.bool b) = some (a == b) := fun a b => rfl
  have fx : ∀ n s, Ab.freeze n s x = some (x, s) := fun n s => by rw [hx]; rfl
  by_cases h : z % 8 = ((k % 8 : Nat) : Int)
  · have hm4 : (k + 1 : Int).tmod 8 = (((k + 1) % 8 : Nat) : Int) := rfl
    have w3 : IntKind.i64.wrap ((k : Int) + 1) = (k : Int) + 1 := wrapI _ (by omega) (by omega)
    have m4 := i64_rem ((k : Int) + 1) 8 (by omega)
    rw [hm4] at m4
    rw [if_pos h, show (((k % 8 : Nat) : Int) + 1) % 8 = (((k + 1) % 8 : Nat) : Int) by omega] at ht
    have hn := next_ev 998 s (((k + 1) % 8 : Nat) : Int) false
    have ho := odd_ev 998 s (((k + 1) % 8 : Nat) : Int) false
    have hbq : (z % 8 == ((k % 8 : Nat) : Int)) = true := beq_iff_eq.2 h
    suffices hs : ∃ e', evC tabGl (evB 999) 999 M9b0 (E9 x s.next k j) (S9 s k od) = some (.nrm, e', S9 s (k + 1) false) ∧ maskE M9b0l e' = E9 x s.next ((k + 1 : Nat) : Int) ((j + 1 : Nat) : Int) by
      obtain ⟨e', g1, g2⟩ := hs
      exact ⟨e', k + 1, false, g1, g2, by omega⟩
    · simp only [S9]
      simp only [M9b0, E9, l0, q1, q2, i1, i2, m1, m2, m3, m4, w1, w2, w3, hb, ht, hn, ho, hbq, nn, ns, w0, fx, ev1_eqv, qES0, qES1, qES2, env0, List.length_cons, List.length_nil, Nat.reduceAdd, Nat.reduceSub, List.replicate, List.cons_append, List.nil_append, opd, Env.put, Env.at, List.set_cons_zero, List.set_cons_succ, List.getD_cons_zero, List.getD_cons_succ, freezeL, resVs, oneOr, Option.map_some, Option.map_none, List.map_cons, List.map_nil, if_true, if_false, Bool.not_true, Bool.not_false, Bool.false_eq_true, reduceIte, decide_true, decide_false, Int.reduceLT, Int.reduceLE, Int.reduceGT, Int.reduceGE, Int.reduceEq, Int.reduceBEq, Int.reduceBNe, load_ptr, ldV_some, cellAt_cells, List.getElem?_cons_zero, List.getElem?_cons_succ, store_ptr, stO_some, setAt_0, setAt_1, setAt_2, setAt_3, setAt_4, setAt_5, setAt_6, setAt_7, setAt_8, setAt_9, setAt_10, setAt_11, setAt_12, cells_int, cells_bool, cells_str, cells_nils, cells_nilp, cells_ptr, cells_sl, cells_u8, cells_u16, cells_agg, get_upd_is, Option.isSome_some, upd_upd, ev1_nchkV, ev1_faV, nchkV_ptr, faV_ptr, ev1_extV, extV_tup, eqptr_nil, eqptr_ptr, Nat.zero_add, Nat.add_zero, qPL0, qPL1, qPL2, qPL3, qPL4, qPL5, beq_self_eq_true]
      exact ⟨_, rfl, rfl⟩
  · have hbq : (z % 8 == ((k % 8 : Nat) : Int)) = false := beq_eq_false_iff_ne.2 h
    rw [if_neg h] at ht
    have hn := next_ev 998 s ((k % 8 : Nat) : Int) true
    have ho := odd_ev 998 s ((k % 8 : Nat) : Int) true
    suffices hs : ∃ e', evC tabGl (evB 999) 999 M9b0 (E9 x s.next k j) (S9 s k od) = some (.nrm, e', S9 s k true) ∧ maskE M9b0l e' = E9 x s.next (k : Nat) ((j + 1 : Nat) : Int) by
      obtain ⟨e', g1, g2⟩ := hs
      exact ⟨e', k, true, g1, g2, by omega⟩
    · simp only [S9]
      simp only [M9b0, E9, l0, q1, q2, i1, i2, m1, m2, m3, w1, w2, hb, ht, hn, ho, hbq, nn, w0, fx, ev1_eqv, qES0, qES1, qES2, env0, List.length_cons, List.length_nil, Nat.reduceAdd, Nat.reduceSub, List.replicate, List.cons_append, List.nil_append, opd, Env.put, Env.at, List.set_cons_zero, List.set_cons_succ, List.getD_cons_zero, List.getD_cons_succ, freezeL, resVs, oneOr, Option.map_some, Option.map_none, List.map_cons, List.map_nil, if_true, if_false, Bool.not_true, Bool.not_false, Bool.false_eq_true, reduceIte, decide_true, decide_false, Int.reduceLT, Int.reduceLE, Int.reduceGT, Int.reduceGE, Int.reduceEq, Int.reduceBEq, Int.reduceBNe, load_ptr, ldV_some, cellAt_cells, List.getElem?_cons_zero, List.getElem?_cons_succ, store_ptr, stO_some, setAt_0, setAt_1, setAt_2, setAt_3, setAt_4, setAt_5, setAt_6, setAt_7, setAt_8, setAt_9, setAt_10, setAt_11, setAt_12, cells_int, cells_bool, cells_str, cells_nils, cells_nilp, cells_ptr, cells_sl, cells_u8, cells_u16, cells_agg, get_upd_is, Option.isSome_some, upd_upd, ev1_nchkV, ev1_faV, nchkV_ptr, faV_ptr, ev1_extV, extV_tup, eqptr_nil, eqptr_ptr, Nat.zero_add, Nat.add_zero, qPL0, qPL1, qPL2, qPL3, qPL4, qPL5, beq_self_eq_true]
      exact ⟨_, rfl, rfl⟩
end Go.Proofs.YtochnineebgbgaaDoor
