/- What the evaluator says of the law OutWindow: true. No conditions. -/
import Derived.Test.YtochnineebgbgaaDoorWin3
import Derived.Test.YtochnineebgbgaaDoorOut4
import Derived.Test.YtochnineebgbgaaDoorArgI
import Derived.Test.YtochnineebgbgaaDoorArgS
namespace Go.Proofs.YtochnineebgbgaaDoor.outWindow
open Go Go.Ab
set_option linter.unusedVariables false
set_option linter.unusedSimpArgs false
set_option maxRecDepth 100000 in
set_option maxHeartbeats 8000000 in
theorem says (n0 : Int) (hn0 : IntKind.has .i64 n0) (n1 : Int) (hn1 : IntKind.has .i64 n1) (x2 : Ab.AV) (z2 : List Int) (hx2 : Ab.IsInts x2 z2) : Ab.saysTrue (evO 1000 6 [.int .i64 n0, .int .i64 n1, x2] Ab.St.nil) = true := by
  have m1 := i64_rem n0 7 (by omega)
  have m2 := i64_rem (n0.tmod 7 + 7) 7 (by omega)
  have m3 := i64_rem n1 9 (by omega)
  have m4 := i64_rem (n1.tmod 9 + 9) 9 (by omega)
  have r1 := tmR n0 7 (by omega)
  have r2 := tmR n1 9 (by omega)
  have w1 : IntKind.i64.wrap (n0.tmod 7 + 7) = n0.tmod 7 + 7 := wrapI _ (by omega) (by omega)
  have w2 : IntKind.i64.wrap (n1.tmod 9 + 9) = n1.tmod 9 + 9 := wrapI _ (by omega) (by omega)
  have v0 : 0 ≤ (n0.tmod 7 + 7).tmod 7 := Int.tmod_nonneg _ (by omega)
  have v1 : (n0.tmod 7 + 7).tmod 7 < 7 := Int.tmod_lt_of_pos _ (by omega)
  have v2 : 0 ≤ (n1.tmod 9 + 9).tmod 9 := Int.tmod_nonneg _ (by omega)
  have v3 : (n1.tmod 9 + 9).tmod 9 < 9 := Int.tmod_lt_of_pos _ (by omega)
  have w3 : IntKind.i64.wrap (1 + (n0.tmod 7 + 7).tmod 7) = 1 + (n0.tmod 7 + 7).tmod 7 := wrapI _ (by omega) (by omega)
  obtain ⟨W, hW⟩ : ∃ W : Nat, 1 + (n0.tmod 7 + 7).tmod 7 = (W : Int) := ⟨(1 + (n0.tmod 7 + 7).tmod 7).toNat, by omega⟩
  obtain ⟨N, hN⟩ : ∃ N : Nat, (n1.tmod 9 + 9).tmod 9 = (N : Int) := ⟨((n1.tmod 9 + 9).tmod 9).toNat, by omega⟩
  rw [hW] at w3
  rw [hN] at m4
  have h21 := o21 998
  have w0 : ∀ (a b : Bool), eqAV (.flat (.one .b)) (.bool a) (.bool b) = some (a == b) := fun a b => rfl
  obtain ⟨s1, n32, hO1⟩ := new_ev32 998 (W : Int) (by omega) (by omega) St.nil
  obtain ⟨S, hl, hO⟩ := loopP W N St.nil.next x2 s1 hO1 (by omega) [.int .i64 (W : Nat), .int .i64 (N : Nat), x2, .undef, .undef, .undef, .bool false, .bool true, .ptr St.nil.next 0, .int .i64 0, .undef, .undef, .undef, .undef, .undef, .undef, .undef, .undef, .bool true, .bool true, .bool false, .int .i64 n0, .int .i64 (n0.tmod 7), .int .i64 (n0.tmod 7 + 7), .int .i64 ((n0.tmod 7 + 7).tmod 7), .int .i64 (W : Nat), .int .i64 n1, .int .i64 (n1.tmod 9), .int .i64 (n1.tmod 9 + 9), .int .i64 (N : Nat), .int .i64 (W : Nat), .ptr St.nil.next 0, .undef, .undef, .undef, .undef, .undef, .undef, .undef, .undef, .undef, .undef, .undef, .undef, .undef, .undef, .undef, .undef, .undef, .undef, .undef, .undef, .undef, .undef, .undef, .undef, .undef, .undef, .undef, .undef, .undef, .undef, .undef, .undef, .undef, .undef, .undef, .undef, .undef, .undef, .undef, .undef, .undef, .undef, .undef, .undef, .undef, .undef, .undef, .undef, .undef, .undef, .undef, .undef, .undef, .undef, .undef, .undef, .undef, .undef, .undef, .undef, .undef, .undef, .undef, .undef, .undef, .undef, .undef, .undef, .undef, .undef, .undef, .undef, .undef, .undef, .undef, .undef, .undef, .undef, .undef, .undef, .undef, .undef, .undef, .undef, .undef, .undef, .undef, .undef, .undef, .undef, .undef, .undef, .undef, .undef, .undef, .undef, .undef, .undef, .undef, .undef, .undef, .undef, .undef, .undef, .undef, .undef, .undef, .undef, .undef, .undef, .undef, .undef, .undef, .undef] rfl
  dsimp only at hl
  rw [bdP_F] at hO
  obtain ⟨done, i, u0, u1, u2, u3, u4, u5, u6, u7, S2, ha⟩ := loopA W N St.nil.next x2 z2 hx2 S (by omega) (by omega) hO [.int .i64 (W : Nat), .int .i64 (N : Nat), x2, .undef, .undef, .undef, .undef, .undef, .ptr St.nil.next 0, .int .i64 (N : Nat), .int .i64 0, .int .i64 0, .undef, .undef, .undef, .undef, .undef, .undef, .undef, .undef, .undef, .undef, .undef, .undef, .undef, .undef, .undef, .undef, .undef, .undef, .undef, .undef, .int .i64 (N : Nat), .int .i64 (N : Nat), .bool false, .undef, .undef, .undef, .undef, .undef, .undef, .undef, .undef, .undef, .undef, .undef, .undef, .undef, .undef, .undef, .undef, .undef, .undef, .undef, .undef, .undef, .undef, .undef, .undef, .undef, .undef, .undef, .undef, .undef, .undef, .undef, .undef, .undef, .undef, .undef, .undef, .undef, .undef, .undef, .undef, .undef, .undef, .undef, .undef, .undef, .undef, .undef, .undef, .undef, .undef, .undef, .undef, .undef, .undef, .undef, .undef, .undef, .undef, .undef, .undef, .undef, .undef, .undef, .undef, .undef, .undef, .undef, .undef, .undef, .undef, .undef, .undef, .undef, .undef, .undef, .undef, .undef, .undef, .undef, .undef, .undef, .undef, .undef, .undef, .undef, .undef, .undef, .undef, .undef, .undef, .undef, .undef, .undef, .undef, .undef, .undef, .undef, .undef, .undef, .undef, .undef, .undef, .undef, .undef, .undef, .undef, .undef, .undef, .undef, .undef, .undef] rfl
  dsimp only [X6b1] at ha
  have l2 : lenV x2 = some (.int .i64 (z2.length : Nat)) := by rcases hx2 with ⟨rfl, rfl⟩ | rfl <;> rfl
  have fx : ∀ n s, Ab.freeze n s x2 = some (x2, s) := fun n s => by rcases hx2 with ⟨rfl, _⟩ | rfl <;> rfl
  rw [show (1000 : Nat) = 999 + 1 from rfl, evO_in rfl tab6]
  suffices hv : valR (outR M6.res (evC tabGl (evO 999) 999 M6.body (env0 M6.ntmps [.int .i64 n0, .int .i64 n1, x2]) St.nil)) = some (.bool true) by
    obtain ⟨v0, s', h1, h2⟩ := valR_of hv
    have : v0 = .bool true := by
      cases v0 with
      | bool b => exact h2
      | tup l => cases h2
      | _ => cases h2
    rw [this] at h1
    exact (congrArg Ab.saysTrue h1)
  simp only [M6, h21, n32, m1, m2, m3, m4, w1, w2, w3, hW, hl, ha, fx, evC_loop, ev1_eqv, dryV_bool, beq_self_eq_true, qES0, qES1, qES2, env0, List.length_cons, List.length_nil, Nat.reduceAdd, Nat.reduceSub, List.replicate, List.cons_append, List.nil_append, opd, Env.put, Env.at, List.set_cons_zero, List.set_cons_succ, List.getD_cons_zero, List.getD_cons_succ, freezeL, resVs, oneOr, Option.map_some, Option.map_none, List.map_cons, List.map_nil, if_true, if_false, Bool.not_true, Bool.not_false, Bool.false_eq_true, reduceIte, decide_true, decide_false, Int.reduceLT, Int.reduceLE, Int.reduceGT, Int.reduceGE, Int.reduceEq, Int.reduceBEq, Int.reduceBNe, load_ptr, ldV_some, cellAt_cells, List.getElem?_cons_zero, List.getElem?_cons_succ, store_ptr, stO_some, setAt_0, setAt_1, setAt_2, setAt_3, setAt_4, setAt_5, setAt_6, setAt_7, setAt_8, setAt_9, setAt_10, setAt_11, setAt_12, cells_int, cells_bool, cells_str, cells_nils, cells_nilp, cells_ptr, cells_sl, cells_u8, cells_u16, cells_agg, get_upd_is, Option.isSome_some, upd_upd, ev1_nchkV, ev1_faV, nchkV_ptr, faV_ptr, ev1_extV, extV_tup, eqptr_nil, eqptr_ptr, Nat.zero_add, Nat.add_zero]
end Go.Proofs.YtochnineebgbgaaDoor.outWindow
