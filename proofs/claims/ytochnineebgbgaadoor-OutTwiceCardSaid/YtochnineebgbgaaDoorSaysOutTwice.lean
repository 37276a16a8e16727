/- What the evaluator says of the law OutTwice: true. No conditions. -/
import Derived.Test.YtochnineebgbgaaDoorOut4
import Derived.Test.YtochnineebgbgaaDoorArgS
namespace Go.Proofs.YtochnineebgbgaaDoor.outTwice
open Go Go.Ab
set_option linter.unusedVariables false
set_option linter.unusedSimpArgs false
set_option maxRecDepth 100000 in
set_option maxHeartbeats 8000000 in
theorem says (n0 : Int) (hn0 : IntKind.has .i64 n0) (n1 : Int) (hn1 : IntKind.has .i64 n1) (n2 : Int) (hn2 : IntKind.has .i64 n2) : Ab.saysTrue (evO 1000 12 [.int .i64 n0, .int .i64 n1, .int .i64 n2] Ab.St.nil) = true := by
  have m1 := i64_rem n0 7 (by omega)
  have m2 := i64_rem (n0.tmod 7 + 7) 7 (by omega)
  have m3 := i64_rem n1 9 (by omega)
  have m4 := i64_rem (n1.tmod 9 + 9) 9 (by omega)
  have r1 := tmR n0 7 (by omega)
  have r2 := tmR n1 9 (by omega)
  have w1 : IntKind.i64.wrap (n0.tmod 7 + 7) = n0.tmod 7 + 7 := wrapI _ (by omega) (by omega)
  have w2 : IntKind.i64.wrap (n1.tmod 9 + 9) = n1.tmod 9 + 9 := wrapI _ (by omega) (by omega)
  have v0 : 0 ≤ (n0.tmod 7 + 7).tmod 7 := Int.tmod_nonneg _ (by omega)
  have v1 : (n0.tmod 7 + 7).tmod 7 < 7 := Int.tmod_lt_of_pos _ (by omega)
  have v2 : 0 ≤ (n1.tmod 9 + 9).tmod 9 := Int.tmod_nonneg _ (by omega)
  have v3 : (n1.tmod 9 + 9).tmod 9 < 9 := Int.tmod_lt_of_pos _ (by omega)
  have w3 : IntKind.i64.wrap (1 + (n0.tmod 7 + 7).tmod 7) = 1 + (n0.tmod 7 + 7).tmod 7 := wrapI _ (by omega) (by omega)
  obtain ⟨W, hW⟩ : ∃ W : Nat, 1 + (n0.tmod 7 + 7).tmod 7 = (W : Int) := ⟨(1 + (n0.tmod 7 + 7).tmod 7).toNat, by omega⟩
  obtain ⟨N, hN⟩ : ∃ N : Nat, (n1.tmod 9 + 9).tmod 9 = (N : Int) := ⟨((n1.tmod 9 + 9).tmod 9).toNat, by omega⟩
  rw [hW] at w3
  rw [hN] at m4
  have h21 := o21 998
  have w0 : ∀ (a b : Bool), eqAV (.flat (.one .b)) (.bool a) (.bool b) = some (a == b) := fun a b => rfl
  obtain ⟨s1, n32, hO1⟩ := new_ev32 998 (W : Int) (by omega) (by omega) St.nil
  obtain ⟨S, hl, hO⟩ := loop12 N n2 St.nil.next s1 W hO1 (by omega) [.int .i64 (W : Nat), .int .i64 (N : Nat), .int .i64 n2, .undef, .undef, .undef, .bool false, .bool true, .ptr St.nil.next 0, .int .i64 0, .undef, .undef, .undef, .undef, .undef, .undef, .undef, .bool true, .bool true, .bool false, .int .i64 n0, .int .i64 (n0.tmod 7), .int .i64 (n0.tmod 7 + 7), .int .i64 ((n0.tmod 7 + 7).tmod 7), .int .i64 (W : Nat), .int .i64 n1, .int .i64 (n1.tmod 9), .int .i64 (n1.tmod 9 + 9), .int .i64 (N : Nat), .int .i64 (W : Nat), .ptr St.nil.next 0, .undef, .undef, .undef, .undef, .undef, .undef, .undef, .undef, .undef, .undef, .undef, .undef, .undef, .undef, .undef, .undef, .undef, .undef, .undef, .undef, .undef, .undef, .undef, .undef, .undef, .undef, .undef, .undef, .undef, .undef, .undef, .undef, .undef, .undef, .undef, .undef, .undef, .undef, .undef, .undef, .undef, .undef, .undef, .undef, .undef, .undef, .undef, .undef, .undef, .undef, .undef, .undef, .undef, .undef, .undef, .undef, .undef, .undef] rfl
  dsimp only at hl
  obtain ⟨S2, nsv, bsv, b1, b2, b3, b4⟩ := burst_ev 979 S St.nil.next W 0 (xs N) 0 hO (by rw [xs_len]; omega) (by omega) (by omega)
  have ln := b3.len
  rw [xs_len] at b2 ln
  obtain ⟨m, hm⟩ : ∃ m, m = min W N := ⟨_, rfl⟩
  rw [← hm] at ln b2
  rw [show max 0 m = m by omega] at b2
  have u1 : IntKind.i64.wrap (((m : Nat) : Int) + 1) = ((m + 1 : Nat) : Int) := (wrapI _ (by omega) (by omega)).trans (by omega)
  have m5 := i64_rem n2 ((m + 1 : Nat) : Int) (by omega)
  have r3 := tmR n2 ((m + 1 : Nat) : Int) (by omega)
  have u2 : IntKind.i64.wrap (n2.tmod ((m + 1 : Nat) : Int) + ((m : Nat) : Int)) = n2.tmod ((m + 1 : Nat) : Int) + ((m : Nat) : Int) := wrapI _ (by omega) (by omega)
  have u3 : IntKind.i64.wrap (n2.tmod ((m + 1 : Nat) : Int) + ((m : Nat) : Int) + 1) = n2.tmod ((m + 1 : Nat) : Int) + ((m : Nat) : Int) + 1 := wrapI _ (by omega) (by omega)
  have m6 := i64_rem (n2.tmod ((m + 1 : Nat) : Int) + ((m : Nat) : Int) + 1) ((m + 1 : Nat) : Int) (by omega)
  have k0 : 0 ≤ (n2.tmod ((m + 1 : Nat) : Int) + ((m : Nat) : Int) + 1).tmod ((m + 1 : Nat) : Int) := Int.tmod_nonneg _ (by omega)
  have k1 : (n2.tmod ((m + 1 : Nat) : Int) + ((m : Nat) : Int) + 1).tmod ((m + 1 : Nat) : Int) < ((m + 1 : Nat) : Int) := Int.tmod_lt_of_pos _ (by omega)
  obtain ⟨K, hK⟩ : ∃ K : Nat, (n2.tmod ((m + 1 : Nat) : Int) + ((m : Nat) : Int) + 1).tmod ((m + 1 : Nat) : Int) = (K : Int) := ⟨((n2.tmod ((m + 1 : Nat) : Int) + ((m : Nat) : Int) + 1).tmod ((m + 1 : Nat) : Int)).toNat, by omega⟩
  rw [hK] at m6
  have hKm : K ≤ m := by omega
  obtain ⟨S3, q1, q2⟩ := ack_yes 997 S2 St.nil.next (W : Nat) (xs N) 0 m K (K : Nat) b2 (by rw [xs_len]; omega) (by omega) (by omega) (by omega) (by omega) hKm
  obtain ⟨S4, p1, p2⟩ := ack_yes 997 S3 St.nil.next (W : Nat) ((xs N).drop K) (K : Nat) (m - K) 0 (K : Nat) q2 (by rw [List.length_drop, xs_len]; omega) (by omega) (by omega) (by omega) (by omega) (by omega)
  have p3 := len_ev 998 S4 _ _ _ _ _ p2
  rw [List.drop_zero, List.length_drop, xs_len, show ((N - K : Nat) : Int) = (N : Int) - (K : Int) by omega] at p3
  have w5 : IntKind.i64.wrap ((N : Int) - (K : Int)) = (N : Int) - (K : Int) := wrapI _ (by omega) (by omega)
  have z0 : ((0 : Nat) : Int) = 0 := rfl
  rw [z0] at p1
  rw [show (1000 : Nat) = 999 + 1 from rfl, evO_in rfl tab12]
  suffices hv : valR (outR M12.res (evC tabGl (evO 999) 999 M12.body (env0 M12.ntmps [.int .i64 n0, .int .i64 n1, .int .i64 n2]) St.nil)) = some (.bool true) by
    obtain ⟨v0, s', h1, h2⟩ := valR_of hv
    have : v0 = .bool true := by
      cases v0 with
      | bool b => exact h2
      | tup l => cases h2
      | _ => cases h2
    rw [this] at h1
    exact (congrArg Ab.saysTrue h1)
  simp only [M12, h21, n32, m1, m2, m3, m4, m5, m6, w1, w2, w3, hW, hl, b1, ln, u1, u2, u3, q1, p1, p3, w0, w5, evC_loop, ev1_eqv, dryV_bool, beq_self_eq_true, qES0, qES1, qES2, env0, List.length_cons, List.length_nil, Nat.reduceAdd, Nat.reduceSub, List.replicate, List.cons_append, List.nil_append, opd, Env.put, Env.at, List.set_cons_zero, List.set_cons_succ, List.getD_cons_zero, List.getD_cons_succ, freezeL, resVs, oneOr, Option.map_some, Option.map_none, List.map_cons, List.map_nil, if_true, if_false, Bool.not_true, Bool.not_false, Bool.false_eq_true, reduceIte, decide_true, decide_false, Int.reduceLT, Int.reduceLE, Int.reduceGT, Int.reduceGE, Int.reduceEq, Int.reduceBEq, Int.reduceBNe, load_ptr, ldV_some, cellAt_cells, List.getElem?_cons_zero, List.getElem?_cons_succ, store_ptr, stO_some, setAt_0, setAt_1, setAt_2, setAt_3, setAt_4, setAt_5, setAt_6, setAt_7, setAt_8, setAt_9, setAt_10, setAt_11, setAt_12, cells_int, cells_bool, cells_str, cells_nils, cells_nilp, cells_ptr, cells_sl, cells_u8, cells_u16, cells_agg, get_upd_is, Option.isSome_some, upd_upd, ev1_nchkV, ev1_faV, nchkV_ptr, faV_ptr, ev1_extV, extV_tup, eqptr_nil, eqptr_ptr, Nat.zero_add, Nat.add_zero]
end Go.Proofs.YtochnineebgbgaaDoor.outTwice
