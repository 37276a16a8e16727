/- OutWindow: a round. No conditions. -/
import Derived.Test.YtochnineebgbgaaDoorWin
set_option linter.unusedSimpArgs false
set_option linter.unusedVariables false
set_option maxRecDepth 100000
set_option maxHeartbeats 8000000
namespace Go.Proofs.YtochnineebgbgaaDoor
open Go Go.Ab
def E6b1 (W N b : Nat) (x : AV) (done i : Nat) : Env := [.int .i64 (W : Nat), .int .i64 (N : Nat), x, .undef, .undef, .undef, .undef, .undef, .ptr b 0, .undef, .int .i64 (done : Nat), .int .i64 (i : Nat), .undef, .undef, .undef, .undef, .undef, .undef, .undef, .undef, .undef, .undef, .undef, .undef, .undef, .undef, .undef, .undef, .undef, .undef, .undef, .undef, .undef, .undef, .undef, .undef, .undef, .undef, .undef, .undef, .undef, .undef, .undef, .undef, .undef, .undef, .undef, .undef, .undef, .undef, .undef, .undef, .undef, .undef, .undef, .undef, .undef, .undef, .undef, .undef, .undef, .undef, .undef, .undef, .undef, .undef, .undef, .undef, .undef, .undef, .undef, .undef, .undef, .undef, .undef, .undef, .undef, .undef, .undef, .undef, .undef, .undef, .undef, .undef, .undef, .undef, .undef, .undef, .undef, .undef, .undef, .undef, .undef, .undef, .undef, .undef, .undef, .undef, .undef, .undef, .undef, .undef, .undef, .undef, .undef, .undef, .undef, .undef, .undef, .undef, .undef, .undef, .undef, .undef, .undef, .undef, .undef, .undef, .undef, .undef, .undef, .undef, .undef, .undef, .undef, .undef, .undef, .undef, .undef, .undef, .undef, .undef, .undef, .undef, .undef, .undef, .undef, .undef, .undef, .undef, .undef, .undef, .undef, .undef, .undef, .undef]
theorem rem_k (z : Int) (m : Nat) (hm : m ≤ 8) : ∃ K : Nat, K ≤ m ∧ IntKind.i64.wrap (z.tmod ((m + 1 : Nat) : Int) + ((m : Nat) : Int)) = z.tmod ((m + 1 : Nat) : Int) + ((m : Nat) : Int) ∧ IntKind.i64.wrap (z.tmod ((m + 1 : Nat) : Int) + ((m : Nat) : Int) + 1) = z.tmod ((m + 1 : Nat) : Int) + ((m : Nat) : Int) + 1 ∧ (z.tmod ((m + 1 : Nat) : Int) + ((m : Nat) : Int) + 1).tmod ((m + 1 : Nat) : Int) = (K : Int) := by
  have r3 := tmR z ((m + 1 : Nat) : Int) (by omega)
  have k0 : 0 ≤ (z.tmod ((m + 1 : Nat) : Int) + ((m : Nat) : Int) + 1).tmod ((m + 1 : Nat) : Int) := Int.tmod_nonneg _ (by omega)
  have k1 : (z.tmod ((m + 1 : Nat) : Int) + ((m : Nat) : Int) + 1).tmod ((m + 1 : Nat) : Int) < ((m + 1 : Nat) : Int) := Int.tmod_lt_of_pos _ (by omega)
  exact ⟨((z.tmod ((m + 1 : Nat) : Int) + ((m : Nat) : Int) + 1).tmod ((m + 1 : Nat) : Int)).toNat, by omega, wrapI _ (by omega) (by omega), wrapI _ (by omega) (by omega), by omega⟩
theorem ix_ints (zs : List Int) (i : Nat) (hi : i < zs.length) : ∃ r, ixaV 1 (.sl (zs.map (AV.int .i64 ·)) zs.length none) (.int .i64 (i : Int)) = some (.rp r) ∧ Ab.cut r 0 none = some (.int .i64 (zs[i])) := by
  refine ⟨(zs.map (AV.int .i64 ·)).drop i, ?_, ?_⟩
  · simp only [ixaV, idx]
    rw [if_pos ⟨by omega, by omega⟩]
    simp
  · rw [Ab.cut, List.getElem?_drop, Nat.add_zero, List.getElem?_map, List.getElem?_eq_getElem hi]
    rfl
theorem roundA (W N b done i : Nat) (zs : List Int) (s : St) (st : Nat) (hi : i < zs.length) (hi2 : i < 20) (hd : done ≤ N) (h8 : N ≤ 8) (hW : W ≤ 7) (hst : st ≤ min W (N - done)) (h : OutAt s b (W : Nat) (bdF done N) ((done % 8 : Nat) : Int) (st : Nat)) :
    ∃ e' s' done' st', evC tabGl (evO 999) 999 M6b1 (E6b1 W N b (.sl (zs.map (AV.int .i64 ·)) zs.length none) done i) s = some (.nrm, e', s') ∧ maskE M6b1l e' = E6b1 W N b (.sl (zs.map (AV.int .i64 ·)) zs.length none) done' (i + 1) ∧ done' ≤ N ∧ st' ≤ min W (N - done') ∧ OutAt s' b (W : Nat) (bdF done' N) ((done' % 8 : Nat) : Int) (st' : Nat) := by
  obtain ⟨S2, nsv, bsv, b1, b2, b3, b4⟩ := burst_ev 979 s b W st (bdF done N) _ h (by rw [bdF_len]; omega) (by omega) (by omega)
  obtain ⟨m, hm⟩ : ∃ m, m = min W (N - done) := ⟨_, rfl⟩
  rw [bdF_len, ← hm] at b2 b3 b4
  rw [show max st m = m by omega] at b2
  have ln := b3.len
  have lb := b4.len
  obtain ⟨K, hK, u1, u2, u3⟩ := rem_k zs[i] m (by omega)
  obtain ⟨r, x1, x2⟩ := ix_ints zs i hi
  have m5 := i64_rem zs[i] ((m + 1 : Nat) : Int) (by omega)
  have m6 := i64_rem (zs[i].tmod ((m + 1 : Nat) : Int) + ((m : Nat) : Int) + 1) ((m + 1 : Nat) : Int) (by omega)
  rw [u3] at m6
  have u0 : IntKind.i64.wrap (((m : Nat) : Int) + 1) = ((m + 1 : Nat) : Int) := (wrapI _ (by omega) (by omega)).trans (by omega)
  have u4 : IntKind.i64.wrap ((done : Int) + (K : Int)) = ((done + K : Nat) : Int) := (wrapI _ (by omega) (by omega)).trans (by omega)
  have m7 : binV .rem (.int .i64 ((done + K : Nat) : Int)) (.int .i64 8) = some (.int .i64 (((done + K) % 8 : Nat) : Int)) := i64_remN (done + K) 8 (by omega)
  obtain ⟨S3, q1, q2⟩ := ack_yes 997 S2 b (W : Nat) (bdF done N) _ m K (((done + K) % 8 : Nat) : Int) b2 (by rw [bdF_len]; omega) (by omega) (by omega) (by omega) (by omega) hK
  rw [bdF_drop] at q2
  have q3 := len_ev 998 S3 _ _ _ _ _ q2
  have q4 := first_ev 998 S3 _ _ _ _ _ q2
  rw [bdF_len] at q3
  have w1 : IntKind.i64.wrap ((N : Int) - (done : Int)) = ((N - done : Nat) : Int) := (wrapI _ (by omega) (by omega)).trans (by omega)
  have w2 : IntKind.i64.wrap ((N : Int) - ((done + K : Nat) : Int)) = ((N - (done + K) : Nat) : Int) := (wrapI _ (by omega) (by omega)).trans (by omega)
  have w3 : IntKind.i64.wrap ((i : Int) + 1) = ((i + 1 : Nat) : Int) := (wrapI _ (by omega) (by omega)).trans (by omega)
  have mn1 : (if ((N - done : Nat) : Int) < ((W : Nat) : Int) then ((N - done : Nat) : Int) else ((W : Nat) : Int)) = ((m : Nat) : Int) := by split <;> omega
  have l1 : ((i : Int) < ((zs.length : Nat) : Int)) = True := eq_true (by omega)
  have l2 : ((i : Int) < 20) = True := eq_true (by omega)
  have lx : lenV (.sl (zs.map (AV.int .i64 ·)) zs.length none) = some (.int .i64 (zs.length : Nat)) := rfl
  have nn : ∀ m : Int, (m != m) = false := fun m => by simp
  have fx : ∀ n s, Ab.freeze n s (.sl (zs.map (AV.int .i64 ·)) zs.length none) = some (.sl (zs.map (AV.int .i64 ·)) zs.length none, s) := fun n s => rfl
  have fn : ∀ n s, Ab.freeze n s nsv = some (nsv, s) := fun n s => by rcases b3 with ⟨rfl, _⟩ | ⟨_, rfl⟩ <;> rfl
  have fb : ∀ n s, Ab.freeze n s bsv = some (bsv, s) := fun n s => by rcases b4 with ⟨rfl, _⟩ | ⟨_, rfl⟩ <;> rfl
  suffices hs : ∃ e', evC tabGl (evO 999) 999 M6b1 (E6b1 W N b (.sl (zs.map (AV.int .i64 ·)) zs.length none) done i) s = some (.nrm, e', S3) ∧ maskE M6b1l e' = E6b1 W N b (.sl (zs.map (AV.int .i64 ·)) zs.length none) (done + K) (i + 1) by
    obtain ⟨e', g1, g2⟩ := hs
    exact ⟨e', S3, done + K, m - K, g1, g2, by omega, by omega, q2⟩
  generalize (AV.sl (zs.map (AV.int .i64 ·)) zs.length none) = x at *
  have hl := loopC W N b done i m x nsv bsv S2 (by omega) (by omega) (by omega) b3 b4
  simp only [M6b1, E6b1, l1, l2, lx, b1, ln, lb, w1, mn1, nn, fx, fn, fb, evC_loop, qES0, qES1, qES2, env0, List.length_cons, List.length_nil, Nat.reduceAdd, Nat.reduceSub, List.replicate, List.cons_append, List.nil_append, opd, Env.put, Env.at, List.set_cons_zero, List.set_cons_succ, List.getD_cons_zero, List.getD_cons_succ, freezeL, resVs, oneOr, Option.map_some, Option.map_none, List.map_cons, List.map_nil, if_true, if_false, Bool.not_true, Bool.not_false, Bool.false_eq_true, reduceIte, decide_true, decide_false, Int.reduceLT, Int.reduceLE, Int.reduceGT, Int.reduceGE, Int.reduceEq, Int.reduceBEq, Int.reduceBNe, load_ptr, ldV_some, cellAt_cells, List.getElem?_cons_zero, List.getElem?_cons_succ, store_ptr, stO_some, setAt_0, setAt_1, setAt_2, setAt_3, setAt_4, setAt_5, setAt_6, setAt_7, setAt_8, setAt_9, setAt_10, setAt_11, setAt_12, cells_int, cells_bool, cells_str, cells_nils, cells_nilp, cells_ptr, cells_sl, cells_u8, cells_u16, cells_agg, get_upd_is, Option.isSome_some, upd_upd, ev1_nchkV, ev1_faV, nchkV_ptr, faV_ptr, ev1_extV, extV_tup, eqptr_nil, eqptr_ptr, Nat.zero_add, Nat.add_zero, qPL0, qPL1, qPL2, qPL3, qPL4, qPL5, beq_self_eq_true]
  dsimp only at hl
  rw [hl]
  rotate_left
  · rfl
  simp only [x1, x2, m5, m6, m7, u0, u1, u2, u4, q1, q3, q4, w2, w3, l1, l2, lx, ln, lb, w1, mn1, nn, fx, fn, fb, qES0, qES1, qES2, env0, List.length_cons, List.length_nil, Nat.reduceAdd, Nat.reduceSub, List.replicate, List.cons_append, List.nil_append, opd, Env.put, Env.at, List.set_cons_zero, List.set_cons_succ, List.getD_cons_zero, List.getD_cons_succ, freezeL, resVs, oneOr, Option.map_some, Option.map_none, List.map_cons, List.map_nil, if_true, if_false, Bool.not_true, Bool.not_false, Bool.false_eq_true, reduceIte, decide_true, decide_false, Int.reduceLT, Int.reduceLE, Int.reduceGT, Int.reduceGE, Int.reduceEq, Int.reduceBEq, Int.reduceBNe, load_ptr, ldV_some, cellAt_cells, List.getElem?_cons_zero, List.getElem?_cons_succ, store_ptr, stO_some, setAt_0, setAt_1, setAt_2, setAt_3, setAt_4, setAt_5, setAt_6, setAt_7, setAt_8, setAt_9, setAt_10, setAt_11, setAt_12, cells_int, cells_bool, cells_str, cells_nils, cells_nilp, cells_ptr, cells_sl, cells_u8, cells_u16, cells_agg, get_upd_is, Option.isSome_some, upd_upd, ev1_nchkV, ev1_faV, nchkV_ptr, faV_ptr, ev1_extV, extV_tup, eqptr_nil, eqptr_ptr, Nat.zero_add, Nat.add_zero, qPL0, qPL1, qPL2, qPL3, qPL4, qPL5, beq_self_eq_true]
  exact ⟨_, rfl, rfl⟩
end Go.Proofs.YtochnineebgbgaaDoor
