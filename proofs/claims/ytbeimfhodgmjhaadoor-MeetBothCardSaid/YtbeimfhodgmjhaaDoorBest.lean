/- No greater speed is common, no smaller patience; no wider window would fit: the loops of the law MeetBest. No conditions. -/
import Derived.Test.YtbeimfhodgmjhaaDoorQ8
import Derived.Test.YtbeimfhodgmjhaaDoorM8_13
set_option linter.unusedSimpArgs false
set_option linter.unusedVariables false
set_option maxRecDepth 100000
set_option maxHeartbeats 4000000
namespace Go.Proofs.YtbeimfhodgmjhaaDoor
open Go Go.Ab
theorem winZ_spec (F : Int) : ∀ n, 1 ≤ n → 1 ≤ winZ F n ∧ winZ F n ≤ (n : Int) ∧ (winZ F n = (n : Int) ∨ (winZ F n + 1) * F > 30) := by
  intro n
  induction n with
  | zero => intro h; omega
  | succ n ih =>
    intro _
    unfold winZ
    by_cases h : n = 0
    · subst h
      rw [if_neg (show ¬ (((0 + 1 : Nat) : Int) > 1 ∧ ((0 + 1 : Nat) : Int) * F > 30) by omega)]
      omega
    · by_cases g : ((n + 1 : Nat) : Int) * F > 30
      · rw [if_pos ⟨by omega, g⟩]
        obtain ⟨h1, h2, h3⟩ := ih (by omega)
        refine ⟨h1, by omega, .inr ?_⟩
        rcases h3 with h3 | h3
        · rw [h3, show ((n : Nat) : Int) + 1 = ((n + 1 : Nat) : Int) by omega]; exact g
        · exact h3
      · rw [if_neg (fun h => g h.2)]
        omega
theorem bb_chk : ((List.range 16).all fun a => (List.range 16).all fun b => (List.range 4).all fun i => decide (tbit (a : Int) i = true → tbit (b : Int) i = true → baudZ (i : Int) ≤ baudZ (highZ (andZ a b)))) = true := by kernel_rfl
theorem ss_chk : ((List.range 8).all fun a => (List.range 8).all fun b => (List.range 3).all fun i => decide (tbit (a : Int) i = true → tbit (b : Int) i = true → silentZ (lowZ (andZ a b)) ≤ silentZ (i : Int))) = true := by kernel_rfl
theorem bb_at (a b : Int) (h0 : 0 ≤ a) (h1 : a < 16) (g0 : 0 ≤ b) (g1 : b < 16) (i : Nat) (hi : i < 4) : tbit a i = true → tbit b i = true → baudZ (i : Int) ≤ baudZ (highZ (andZ a b)) := by
  have h := of_decide_eq_true (List.all_eq_true.1 (List.all_eq_true.1 (List.all_eq_true.1 bb_chk a.toNat (List.mem_range.2 (by omega))) b.toNat (List.mem_range.2 (by omega))) i (List.mem_range.2 hi))
  rw [Int.toNat_of_nonneg h0, Int.toNat_of_nonneg g0] at h
  exact h
theorem ss_at (a b : Int) (h0 : 0 ≤ a) (h1 : a < 8) (g0 : 0 ≤ b) (g1 : b < 8) (i : Nat) (hi : i < 3) : tbit a i = true → tbit b i = true → silentZ (lowZ (andZ a b)) ≤ silentZ (i : Int) := by
  have h := of_decide_eq_true (List.all_eq_true.1 (List.all_eq_true.1 (List.all_eq_true.1 ss_chk a.toNat (List.mem_range.2 (by omega))) b.toNat (List.mem_range.2 (by omega))) i (List.mem_range.2 hi))
  rw [Int.toNat_of_nonneg h0, Int.toNat_of_nonneg g0] at h
  exact h
theorem tbit_q (n : Int) (i : Nat) (hi : i < 16) : (n / ((2 ^ i : Nat) : Int) % 2 == 1) = tbit n i := by
  have := bit_low n i hi
  unfold tbit
  rw [← this]
  rfl
def S13 (m o : Of5) (d : Of5) : St := St.nil.pl [.cells 0 m.cells, .cells 0 o.cells, .cells 0 d.cells]
def E13a (j : Int) : Env := [.undef, .undef, .ptr St.nil.next 0, .ptr (St.nil.next + 1) 0, .undef, .undef, .ptr (St.nil.next + 2) 0, .undef, .int .i64 j, .undef, .undef, .undef, .undef, .undef, .undef, .undef, .undef, .undef, .undef, .undef, .undef, .undef, .undef, .undef, .undef, .undef, .undef, .undef, .undef, .undef, .undef, .undef, .undef, .undef, .undef, .undef, .undef, .undef, .undef, .undef, .undef, .undef, .undef, .undef, .undef, .undef, .undef, .undef, .undef, .undef, .undef, .undef, .undef, .undef, .undef, .undef, .undef, .undef, .undef, .undef, .undef, .undef, .undef, .undef, .undef, .undef, .undef, .undef, .undef, .undef, .undef, .undef, .undef, .undef, .undef, .undef, .undef, .undef, .undef, .undef, .undef, .undef, .undef, .undef, .undef, .undef, .undef, .undef, .undef, .undef, .undef, .undef, .undef, .undef, .undef, .undef, .undef, .undef, .undef]
def E13b (j : Int) : Env := [.undef, .undef, .ptr St.nil.next 0, .ptr (St.nil.next + 1) 0, .undef, .undef, .ptr (St.nil.next + 2) 0, .undef, .undef, .int .i64 j, .undef, .undef, .undef, .undef, .undef, .undef, .undef, .undef, .undef, .undef, .undef, .undef, .undef, .undef, .undef, .undef, .undef, .undef, .undef, .undef, .undef, .undef, .undef, .undef, .undef, .undef, .undef, .undef, .undef, .undef, .undef, .undef, .undef, .undef, .undef, .undef, .undef, .undef, .undef, .undef, .undef, .undef, .undef, .undef, .undef, .undef, .undef, .undef, .undef, .undef, .undef, .undef, .undef, .undef, .undef, .undef, .undef, .undef, .undef, .undef, .undef, .undef, .undef, .undef, .undef, .undef, .undef, .undef, .undef, .undef, .undef, .undef, .undef, .undef, .undef, .undef, .undef, .undef, .undef, .undef, .undef, .undef, .undef, .undef, .undef, .undef, .undef, .undef, .undef]
section
variable (m o d : Of5)
theorem best_b (hs : ∀ i, i < 3 → tbit m.s i = true → tbit o.s i = true → d.s ≤ silentZ (i : Int))
    (hw : ∃ N : Nat, highZ o.w + 1 = (N : Int) ∧ N ≤ 7 ∧ 1 ≤ d.w ∧ d.w ≤ N ∧ (d.w = N ∨ (d.w + 1) * frameZ d.z d.b > 30)) (hz : small1 d.z d.b) (hf : 0 ≤ frameZ d.z d.b ∧ frameZ d.z d.b ≤ 1000) :
    valR (outR M13.res (seqR (blockR 2 (iter (evC tabGl (evB 999) 999 M13b0) M13b0l 999 (E13b 0) (S13 m o d))) (evC tabGl (evB 999) 999 M13r0))) = some (.bool true) := by
  refine iter_leave (evC tabGl (evB 999) 999 M13b0) M13b0l (fun i e st => maskE M13b0l e = E13b (i : Int) ∧ st = S13 m o d)
    (fun out => valR (outR M13.res (seqR (blockR 2 out) (evC tabGl (evB 999) 999 M13r0))) = some (.bool true)) 3 ?_ ?_ 3 0 _ _ 999 (by omega) ⟨rfl, rfl⟩ (by omega)
  · rintro i e st hi ⟨h1, rfl⟩
    rw [h1]
    have s1 := shr_i64 m.s i (by omega)
    have s2 := shr_i64 o.s i (by omega)
    have a1 := and_1 (m.s / ((2 ^ i : Nat) : Int))
    have a2 := and_1 (o.s / ((2 ^ i : Nat) : Int))
    have q1 := tbit_q m.s i (by omega)
    have q2 := tbit_q o.s i (by omega)
    have h32 := b32 998 (i : Int)
    have w2 : IntKind.i64.wrap ((i : Int) + 1) = ((i + 1 : Nat) : Int) := (wrapI _ (by omega) (by omega)).trans (by omega)
    have d1 : decide ((i : Int) < 3) = true := decide_eq_true (by omega)
    have hs' := hs i hi
    left
    cases ht : tbit m.s i <;> cases hu : tbit o.s i <;> rw [ht] at q1 <;> rw [hu] at q2
    all_goals first
      | (have d2 : decide (silentZ (i : Int) < d.s) = false := decide_eq_false (by have := hs' ht hu; omega)
         simp only [M13b0, E13b, S13, ofC, Of5.cells, s1, s2, a1, a2, q1, q2, h32, d1, w2, d2, qES0, qES1, qES2, env0, List.length_cons, List.length_nil, Nat.reduceAdd, Nat.reduceSub, List.replicate, List.cons_append, List.nil_append, opd, Env.put, Env.at, List.set_cons_zero, List.set_cons_succ, List.getD_cons_zero, List.getD_cons_succ, freezeL, resVs, oneOr, Option.map_some, Option.map_none, List.map_cons, List.map_nil, if_true, if_false, Bool.not_true, Bool.not_false, Bool.false_eq_true, reduceIte, decide_true, decide_false, Int.reduceLT, Int.reduceLE, Int.reduceGT, Int.reduceGE, Int.reduceEq, Int.reduceBEq, Int.reduceBNe, load_ptr, ldV_some, cellAt_cells, List.getElem?_cons_zero, List.getElem?_cons_succ, store_ptr, stO_some, setAt_0, setAt_1, setAt_2, setAt_3, setAt_4, setAt_5, setAt_6, setAt_7, setAt_8, setAt_9, setAt_10, setAt_11, setAt_12, cells_int, cells_bool, cells_str, cells_nils, cells_nilp, cells_ptr, cells_sl, cells_u8, cells_u16, cells_agg, get_upd_is, Option.isSome_some, upd_upd, ev1_nchkV, ev1_faV, nchkV_ptr, faV_ptr, ev1_extV, extV_tup, eqptr_nil, eqptr_ptr, Nat.zero_add, Nat.add_zero, qPL0, qPL1, qPL2, qPL3, qPL4, qPL5, beq_self_eq_true, qED0, qED1, placeR]
         rw [drawR_ok]; case h => simp (config := { decide := true }) [calm, calmPair, calmTwo, List.range, List.range.loop, sameO_refl, plg0, plg1, plg2, plg3, plg4, plg5, plg6, plg7, plg8, plg9, plg10, plg11, plg12, plg13]
         simp only [M13b0, E13b, S13, ofC, Of5.cells, s1, s2, a1, a2, q1, q2, h32, d1, w2, d2, qES0, qES1, qES2, env0, List.length_cons, List.length_nil, Nat.reduceAdd, Nat.reduceSub, List.replicate, List.cons_append, List.nil_append, opd, Env.put, Env.at, List.set_cons_zero, List.set_cons_succ, List.getD_cons_zero, List.getD_cons_succ, freezeL, resVs, oneOr, Option.map_some, Option.map_none, List.map_cons, List.map_nil, if_true, if_false, Bool.not_true, Bool.not_false, Bool.false_eq_true, reduceIte, decide_true, decide_false, Int.reduceLT, Int.reduceLE, Int.reduceGT, Int.reduceGE, Int.reduceEq, Int.reduceBEq, Int.reduceBNe, load_ptr, ldV_some, cellAt_cells, List.getElem?_cons_zero, List.getElem?_cons_succ, store_ptr, stO_some, setAt_0, setAt_1, setAt_2, setAt_3, setAt_4, setAt_5, setAt_6, setAt_7, setAt_8, setAt_9, setAt_10, setAt_11, setAt_12, cells_int, cells_bool, cells_str, cells_nils, cells_nilp, cells_ptr, cells_sl, cells_u8, cells_u16, cells_agg, get_upd_is, Option.isSome_some, upd_upd, ev1_nchkV, ev1_faV, nchkV_ptr, faV_ptr, ev1_extV, extV_tup, eqptr_nil, eqptr_ptr, Nat.zero_add, Nat.add_zero, qPL0, qPL1, qPL2, qPL3, qPL4, qPL5, beq_self_eq_true, qED0, qED1, placeR]
         exact ⟨_, _, rfl, rfl, rfl⟩)
      | (simp only [M13b0, E13b, S13, ofC, Of5.cells, s1, s2, a1, a2, q1, q2, h32, d1, w2, qES0, qES1, qES2, env0, List.length_cons, List.length_nil, Nat.reduceAdd, Nat.reduceSub, List.replicate, List.cons_append, List.nil_append, opd, Env.put, Env.at, List.set_cons_zero, List.set_cons_succ, List.getD_cons_zero, List.getD_cons_succ, freezeL, resVs, oneOr, Option.map_some, Option.map_none, List.map_cons, List.map_nil, if_true, if_false, Bool.not_true, Bool.not_false, Bool.false_eq_true, reduceIte, decide_true, decide_false, Int.reduceLT, Int.reduceLE, Int.reduceGT, Int.reduceGE, Int.reduceEq, Int.reduceBEq, Int.reduceBNe, load_ptr, ldV_some, cellAt_cells, List.getElem?_cons_zero, List.getElem?_cons_succ, store_ptr, stO_some, setAt_0, setAt_1, setAt_2, setAt_3, setAt_4, setAt_5, setAt_6, setAt_7, setAt_8, setAt_9, setAt_10, setAt_11, setAt_12, cells_int, cells_bool, cells_str, cells_nils, cells_nilp, cells_ptr, cells_sl, cells_u8, cells_u16, cells_agg, get_upd_is, Option.isSome_some, upd_upd, ev1_nchkV, ev1_faV, nchkV_ptr, faV_ptr, ev1_extV, extV_tup, eqptr_nil, eqptr_ptr, Nat.zero_add, Nat.add_zero, qPL0, qPL1, qPL2, qPL3, qPL4, qPL5, beq_self_eq_true, qED0, qED1, placeR]
         rw [drawR_ok]; case h => simp (config := { decide := true }) [calm, calmPair, calmTwo, List.range, List.range.loop, sameO_refl, plg0, plg1, plg2, plg3, plg4, plg5, plg6, plg7, plg8, plg9, plg10, plg11, plg12, plg13]
         simp only [M13b0, E13b, S13, ofC, Of5.cells, s1, s2, a1, a2, q1, q2, h32, d1, w2, qES0, qES1, qES2, env0, List.length_cons, List.length_nil, Nat.reduceAdd, Nat.reduceSub, List.replicate, List.cons_append, List.nil_append, opd, Env.put, Env.at, List.set_cons_zero, List.set_cons_succ, List.getD_cons_zero, List.getD_cons_succ, freezeL, resVs, oneOr, Option.map_some, Option.map_none, List.map_cons, List.map_nil, if_true, if_false, Bool.not_true, Bool.not_false, Bool.false_eq_true, reduceIte, decide_true, decide_false, Int.reduceLT, Int.reduceLE, Int.reduceGT, Int.reduceGE, Int.reduceEq, Int.reduceBEq, Int.reduceBNe, load_ptr, ldV_some, cellAt_cells, List.getElem?_cons_zero, List.getElem?_cons_succ, store_ptr, stO_some, setAt_0, setAt_1, setAt_2, setAt_3, setAt_4, setAt_5, setAt_6, setAt_7, setAt_8, setAt_9, setAt_10, setAt_11, setAt_12, cells_int, cells_bool, cells_str, cells_nils, cells_nilp, cells_ptr, cells_sl, cells_u8, cells_u16, cells_agg, get_upd_is, Option.isSome_some, upd_upd, ev1_nchkV, ev1_faV, nchkV_ptr, faV_ptr, ev1_extV, extV_tup, eqptr_nil, eqptr_ptr, Nat.zero_add, Nat.add_zero, qPL0, qPL1, qPL2, qPL3, qPL4, qPL5, beq_self_eq_true, qED0, qED1, placeR]
         exact ⟨_, _, rfl, rfl, rfl⟩)
  · rintro e st ⟨h1, rfl⟩
    rw [h1]
    obtain ⟨N, n1, n2, n3, n4, n5⟩ := hw
    have d1 : decide (((3 : Nat) : Int) < 3) = false := rfl
    have w1 : IntKind.i64.wrap (d.w + 1) = d.w + 1 := wrapI _ (by omega) (by omega)
    have h27 := b27 998 o.w
    have w2 : IntKind.i64.wrap (highZ o.w + 1) = (N : Int) := (wrapI _ (by omega) (by omega)).trans n1
    have h44 := b44 998 d.z d.b hz
    obtain ⟨F, hF⟩ : ∃ F, frameZ d.z d.b = F := ⟨_, rfl⟩
    rw [hF] at h44 n5 hf
    have wm : IntKind.i64.wrap ((d.w + 1) * F) = (d.w + 1) * F := by
      obtain ⟨f, rfl⟩ : ∃ f : Nat, F = f := ⟨F.toNat, by omega⟩
      obtain ⟨w, hw⟩ : ∃ w : Nat, d.w = w := ⟨d.w.toNat, by omega⟩
      rw [hw] at n3 n4 ⊢
      have h2 : (w + 1) * f ≤ 8 * 1000 := Nat.mul_le_mul (by omega) (by omega)
      have h3 : ((w : Int) + 1) * (f : Int) = (((w + 1) * f : Nat) : Int) := by push_cast; rfl
      rw [h3]
      exact wrapI _ (by omega) (by omega)
    refine ⟨?_, fun e' s' h => ?_⟩
    · rcases n5 with n5 | n5
      · have d2 : decide (d.w + 1 > (N : Int)) = true := decide_eq_true (by omega)
        simp only [M13, M13r0, M13b0, E13b, S13, ofC, Of5.cells, h27, w1, w2, d1, d2, h44, wm, i64_mul, qES0, qES1, qES2, env0, List.length_cons, List.length_nil, Nat.reduceAdd, Nat.reduceSub, List.replicate, List.cons_append, List.nil_append, opd, Env.put, Env.at, List.set_cons_zero, List.set_cons_succ, List.getD_cons_zero, List.getD_cons_succ, freezeL, resVs, oneOr, Option.map_some, Option.map_none, List.map_cons, List.map_nil, if_true, if_false, Bool.not_true, Bool.not_false, Bool.false_eq_true, reduceIte, decide_true, decide_false, Int.reduceLT, Int.reduceLE, Int.reduceGT, Int.reduceGE, Int.reduceEq, Int.reduceBEq, Int.reduceBNe, load_ptr, ldV_some, cellAt_cells, List.getElem?_cons_zero, List.getElem?_cons_succ, store_ptr, stO_some, setAt_0, setAt_1, setAt_2, setAt_3, setAt_4, setAt_5, setAt_6, setAt_7, setAt_8, setAt_9, setAt_10, setAt_11, setAt_12, cells_int, cells_bool, cells_str, cells_nils, cells_nilp, cells_ptr, cells_sl, cells_u8, cells_u16, cells_agg, get_upd_is, Option.isSome_some, upd_upd, ev1_nchkV, ev1_faV, nchkV_ptr, faV_ptr, ev1_extV, extV_tup, eqptr_nil, eqptr_ptr, Nat.zero_add, Nat.add_zero, qPL0, qPL1, qPL2, qPL3, qPL4, qPL5, beq_self_eq_true, qED0, qED1, placeR]
      · have d3 : decide ((d.w + 1) * F > 30) = true := decide_eq_true n5
        by_cases g : d.w + 1 > (N : Int)
        · have d2 : decide (d.w + 1 > (N : Int)) = true := decide_eq_true g
          simp only [M13, M13r0, M13b0, E13b, S13, ofC, Of5.cells, h27, w1, w2, d1, d2, h44, wm, i64_mul, qES0, qES1, qES2, env0, List.length_cons, List.length_nil, Nat.reduceAdd, Nat.reduceSub, List.replicate, List.cons_append, List.nil_append, opd, Env.put, Env.at, List.set_cons_zero, List.set_cons_succ, List.getD_cons_zero, List.getD_cons_succ, freezeL, resVs, oneOr, Option.map_some, Option.map_none, List.map_cons, List.map_nil, if_true, if_false, Bool.not_true, Bool.not_false, Bool.false_eq_true, reduceIte, decide_true, decide_false, Int.reduceLT, Int.reduceLE, Int.reduceGT, Int.reduceGE, Int.reduceEq, Int.reduceBEq, Int.reduceBNe, load_ptr, ldV_some, cellAt_cells, List.getElem?_cons_zero, List.getElem?_cons_succ, store_ptr, stO_some, setAt_0, setAt_1, setAt_2, setAt_3, setAt_4, setAt_5, setAt_6, setAt_7, setAt_8, setAt_9, setAt_10, setAt_11, setAt_12, cells_int, cells_bool, cells_str, cells_nils, cells_nilp, cells_ptr, cells_sl, cells_u8, cells_u16, cells_agg, get_upd_is, Option.isSome_some, upd_upd, ev1_nchkV, ev1_faV, nchkV_ptr, faV_ptr, ev1_extV, extV_tup, eqptr_nil, eqptr_ptr, Nat.zero_add, Nat.add_zero, qPL0, qPL1, qPL2, qPL3, qPL4, qPL5, beq_self_eq_true, qED0, qED1, placeR]
        · have d2 : decide (d.w + 1 > (N : Int)) = false := decide_eq_false g
          simp only [M13, M13r0, M13b0, E13b, S13, ofC, Of5.cells, h27, w1, w2, d1, d2, d3, h44, wm, i64_mul, qES0, qES1, qES2, env0, List.length_cons, List.length_nil, Nat.reduceAdd, Nat.reduceSub, List.replicate, List.cons_append, List.nil_append, opd, Env.put, Env.at, List.set_cons_zero, List.set_cons_succ, List.getD_cons_zero, List.getD_cons_succ, freezeL, resVs, oneOr, Option.map_some, Option.map_none, List.map_cons, List.map_nil, if_true, if_false, Bool.not_true, Bool.not_false, Bool.false_eq_true, reduceIte, decide_true, decide_false, Int.reduceLT, Int.reduceLE, Int.reduceGT, Int.reduceGE, Int.reduceEq, Int.reduceBEq, Int.reduceBNe, load_ptr, ldV_some, cellAt_cells, List.getElem?_cons_zero, List.getElem?_cons_succ, store_ptr, stO_some, setAt_0, setAt_1, setAt_2, setAt_3, setAt_4, setAt_5, setAt_6, setAt_7, setAt_8, setAt_9, setAt_10, setAt_11, setAt_12, cells_int, cells_bool, cells_str, cells_nils, cells_nilp, cells_ptr, cells_sl, cells_u8, cells_u16, cells_agg, get_upd_is, Option.isSome_some, upd_upd, ev1_nchkV, ev1_faV, nchkV_ptr, faV_ptr, ev1_extV, extV_tup, eqptr_nil, eqptr_ptr, Nat.zero_add, Nat.add_zero, qPL0, qPL1, qPL2, qPL3, qPL4, qPL5, beq_self_eq_true, qED0, qED1, placeR]
    · simp only [M13b0, E13b, S13, d1, qES0, qES1, qES2, env0, List.length_cons, List.length_nil, Nat.reduceAdd, Nat.reduceSub, List.replicate, List.cons_append, List.nil_append, opd, Env.put, Env.at, List.set_cons_zero, List.set_cons_succ, List.getD_cons_zero, List.getD_cons_succ, freezeL, resVs, oneOr, Option.map_some, Option.map_none, List.map_cons, List.map_nil, if_true, if_false, Bool.not_true, Bool.not_false, Bool.false_eq_true, reduceIte, decide_true, decide_false, Int.reduceLT, Int.reduceLE, Int.reduceGT, Int.reduceGE, Int.reduceEq, Int.reduceBEq, Int.reduceBNe, load_ptr, ldV_some, cellAt_cells, List.getElem?_cons_zero, List.getElem?_cons_succ, store_ptr, stO_some, setAt_0, setAt_1, setAt_2, setAt_3, setAt_4, setAt_5, setAt_6, setAt_7, setAt_8, setAt_9, setAt_10, setAt_11, setAt_12, cells_int, cells_bool, cells_str, cells_nils, cells_nilp, cells_ptr, cells_sl, cells_u8, cells_u16, cells_agg, get_upd_is, Option.isSome_some, upd_upd, ev1_nchkV, ev1_faV, nchkV_ptr, faV_ptr, ev1_extV, extV_tup, eqptr_nil, eqptr_ptr, Nat.zero_add, Nat.add_zero, qPL0, qPL1, qPL2, qPL3, qPL4, qPL5, beq_self_eq_true, qED0, qED1, placeR] at h
      cases h
theorem best_a (hbd : ∀ i, i < 4 → tbit m.b i = true → tbit o.b i = true → baudZ (i : Int) ≤ d.b) (hs : ∀ i, i < 3 → tbit m.s i = true → tbit o.s i = true → d.s ≤ silentZ (i : Int))
    (hw : ∃ N : Nat, highZ o.w + 1 = (N : Int) ∧ N ≤ 7 ∧ 1 ≤ d.w ∧ d.w ≤ N ∧ (d.w = N ∨ (d.w + 1) * frameZ d.z d.b > 30)) (hz : small1 d.z d.b) (hf : 0 ≤ frameZ d.z d.b ∧ frameZ d.z d.b ≤ 1000) :
    valR (outR M13.res (seqR (blockR 0 (iter (evC tabGl (evB 999) 999 M13b1) M13b1l 999 (E13a 0) (S13 m o d))) (evC tabGl (evB 999) 999 M13r1))) = some (.bool true) := by
  have hb := best_b m o d hs hw hz hf
  refine iter_leave (evC tabGl (evB 999) 999 M13b1) M13b1l (fun i e st => maskE M13b1l e = E13a (i : Int) ∧ st = S13 m o d)
    (fun out => valR (outR M13.res (seqR (blockR 0 out) (evC tabGl (evB 999) 999 M13r1))) = some (.bool true)) 4 ?_ ?_ 4 0 _ _ 999 (by omega) ⟨rfl, rfl⟩ (by omega)
  · rintro i e st hi ⟨h1, rfl⟩
    rw [h1]
    have s1 := shr_i64 m.b i (by omega)
    have s2 := shr_i64 o.b i (by omega)
    have a1 := and_1 (m.b / ((2 ^ i : Nat) : Int))
    have a2 := and_1 (o.b / ((2 ^ i : Nat) : Int))
    have q1 := tbit_q m.b i (by omega)
    have q2 := tbit_q o.b i (by omega)
    have h30 := b30 998 (i : Int)
    have w2 : IntKind.i64.wrap ((i : Int) + 1) = ((i + 1 : Nat) : Int) := (wrapI _ (by omega) (by omega)).trans (by omega)
    have d1 : decide ((i : Int) < 4) = true := decide_eq_true (by omega)
    have hs' := hbd i hi
    left
    cases ht : tbit m.b i <;> cases hu : tbit o.b i <;> rw [ht] at q1 <;> rw [hu] at q2
    all_goals first
      | (have d2 : decide (baudZ (i : Int) > d.b) = false := decide_eq_false (by have := hs' ht hu; omega)
         simp only [M13b1, E13a, S13, ofC, Of5.cells, s1, s2, a1, a2, q1, q2, h30, d1, w2, d2, qES0, qES1, qES2, env0, List.length_cons, List.length_nil, Nat.reduceAdd, Nat.reduceSub, List.replicate, List.cons_append, List.nil_append, opd, Env.put, Env.at, List.set_cons_zero, List.set_cons_succ, List.getD_cons_zero, List.getD_cons_succ, freezeL, resVs, oneOr, Option.map_some, Option.map_none, List.map_cons, List.map_nil, if_true, if_false, Bool.not_true, Bool.not_false, Bool.false_eq_true, reduceIte, decide_true, decide_false, Int.reduceLT, Int.reduceLE, Int.reduceGT, Int.reduceGE, Int.reduceEq, Int.reduceBEq, Int.reduceBNe, load_ptr, ldV_some, cellAt_cells, List.getElem?_cons_zero, List.getElem?_cons_succ, store_ptr, stO_some, setAt_0, setAt_1, setAt_2, setAt_3, setAt_4, setAt_5, setAt_6, setAt_7, setAt_8, setAt_9, setAt_10, setAt_11, setAt_12, cells_int, cells_bool, cells_str, cells_nils, cells_nilp, cells_ptr, cells_sl, cells_u8, cells_u16, cells_agg, get_upd_is, Option.isSome_some, upd_upd, ev1_nchkV, ev1_faV, nchkV_ptr, faV_ptr, ev1_extV, extV_tup, eqptr_nil, eqptr_ptr, Nat.zero_add, Nat.add_zero, qPL0, qPL1, qPL2, qPL3, qPL4, qPL5, beq_self_eq_true, qED0, qED1, placeR]
         rw [drawR_ok]; case h => simp (config := { decide := true }) [calm, calmPair, calmTwo, List.range, List.range.loop, sameO_refl, plg0, plg1, plg2, plg3, plg4, plg5, plg6, plg7, plg8, plg9, plg10, plg11, plg12, plg13]
         simp only [M13b1, E13a, S13, ofC, Of5.cells, s1, s2, a1, a2, q1, q2, h30, d1, w2, d2, qES0, qES1, qES2, env0, List.length_cons, List.length_nil, Nat.reduceAdd, Nat.reduceSub, List.replicate, List.cons_append, List.nil_append, opd, Env.put, Env.at, List.set_cons_zero, List.set_cons_succ, List.getD_cons_zero, List.getD_cons_succ, freezeL, resVs, oneOr, Option.map_some, Option.map_none, List.map_cons, List.map_nil, if_true, if_false, Bool.not_true, Bool.not_false, Bool.false_eq_true, reduceIte, decide_true, decide_false, Int.reduceLT, Int.reduceLE, Int.reduceGT, Int.reduceGE, Int.reduceEq, Int.reduceBEq, Int.reduceBNe, load_ptr, ldV_some, cellAt_cells, List.getElem?_cons_zero, List.getElem?_cons_succ, store_ptr, stO_some, setAt_0, setAt_1, setAt_2, setAt_3, setAt_4, setAt_5, setAt_6, setAt_7, setAt_8, setAt_9, setAt_10, setAt_11, setAt_12, cells_int, cells_bool, cells_str, cells_nils, cells_nilp, cells_ptr, cells_sl, cells_u8, cells_u16, cells_agg, get_upd_is, Option.isSome_some, upd_upd, ev1_nchkV, ev1_faV, nchkV_ptr, faV_ptr, ev1_extV, extV_tup, eqptr_nil, eqptr_ptr, Nat.zero_add, Nat.add_zero, qPL0, qPL1, qPL2, qPL3, qPL4, qPL5, beq_self_eq_true, qED0, qED1, placeR]
         exact ⟨_, _, rfl, rfl, rfl⟩)
      | (simp only [M13b1, E13a, S13, ofC, Of5.cells, s1, s2, a1, a2, q1, q2, h30, d1, w2, qES0, qES1, qES2, env0, List.length_cons, List.length_nil, Nat.reduceAdd, Nat.reduceSub, List.replicate, List.cons_append, List.nil_append, opd, Env.put, Env.at, List.set_cons_zero, List.set_cons_succ, List.getD_cons_zero, List.getD_cons_succ, freezeL, resVs, oneOr, Option.map_some, Option.map_none, List.map_cons, List.map_nil, if_true, if_false, Bool.not_true, Bool.not_false, Bool.false_eq_true, reduceIte, decide_true, decide_false, Int.reduceLT, Int.reduceLE, Int.reduceGT, Int.reduceGE, Int.reduceEq, Int.reduceBEq, Int.reduceBNe, load_ptr, ldV_some, cellAt_cells, List.getElem?_cons_zero, List.getElem?_cons_succ, store_ptr, stO_some, setAt_0, setAt_1, setAt_2, setAt_3, setAt_4, setAt_5, setAt_6, setAt_7, setAt_8, setAt_9, setAt_10, setAt_11, setAt_12, cells_int, cells_bool, cells_str, cells_nils, cells_nilp, cells_ptr, cells_sl, cells_u8, cells_u16, cells_agg, get_upd_is, Option.isSome_some, upd_upd, ev1_nchkV, ev1_faV, nchkV_ptr, faV_ptr, ev1_extV, extV_tup, eqptr_nil, eqptr_ptr, Nat.zero_add, Nat.add_zero, qPL0, qPL1, qPL2, qPL3, qPL4, qPL5, beq_self_eq_true, qED0, qED1, placeR]
         rw [drawR_ok]; case h => simp (config := { decide := true }) [calm, calmPair, calmTwo, List.range, List.range.loop, sameO_refl, plg0, plg1, plg2, plg3, plg4, plg5, plg6, plg7, plg8, plg9, plg10, plg11, plg12, plg13]
         simp only [M13b1, E13a, S13, ofC, Of5.cells, s1, s2, a1, a2, q1, q2, h30, d1, w2, qES0, qES1, qES2, env0, List.length_cons, List.length_nil, Nat.reduceAdd, Nat.reduceSub, List.replicate, List.cons_append, List.nil_append, opd, Env.put, Env.at, List.set_cons_zero, List.set_cons_succ, List.getD_cons_zero, List.getD_cons_succ, freezeL, resVs, oneOr, Option.map_some, Option.map_none, List.map_cons, List.map_nil, if_true, if_false, Bool.not_true, Bool.not_false, Bool.false_eq_true, reduceIte, decide_true, decide_false, Int.reduceLT, Int.reduceLE, Int.reduceGT, Int.reduceGE, Int.reduceEq, Int.reduceBEq, Int.reduceBNe, load_ptr, ldV_some, cellAt_cells, List.getElem?_cons_zero, List.getElem?_cons_succ, store_ptr, stO_some, setAt_0, setAt_1, setAt_2, setAt_3, setAt_4, setAt_5, setAt_6, setAt_7, setAt_8, setAt_9, setAt_10, setAt_11, setAt_12, cells_int, cells_bool, cells_str, cells_nils, cells_nilp, cells_ptr, cells_sl, cells_u8, cells_u16, cells_agg, get_upd_is, Option.isSome_some, upd_upd, ev1_nchkV, ev1_faV, nchkV_ptr, faV_ptr, ev1_extV, extV_tup, eqptr_nil, eqptr_ptr, Nat.zero_add, Nat.add_zero, qPL0, qPL1, qPL2, qPL3, qPL4, qPL5, beq_self_eq_true, qED0, qED1, placeR]
         exact ⟨_, _, rfl, rfl, rfl⟩)
  · rintro e st ⟨h1, rfl⟩
    rw [h1]
    have d1 : decide (((4 : Nat) : Int) < 4) = false := rfl
    refine ⟨?_, fun e' s' h => ?_⟩
    · simp only [M13r1, M13b1, E13a, S13, ofC, Of5.cells, d1, evC_loop, qES0, qES1, qES2, env0, List.length_cons, List.length_nil, Nat.reduceAdd, Nat.reduceSub, List.replicate, List.cons_append, List.nil_append, opd, Env.put, Env.at, List.set_cons_zero, List.set_cons_succ, List.getD_cons_zero, List.getD_cons_succ, freezeL, resVs, oneOr, Option.map_some, Option.map_none, List.map_cons, List.map_nil, if_true, if_false, Bool.not_true, Bool.not_false, Bool.false_eq_true, reduceIte, decide_true, decide_false, Int.reduceLT, Int.reduceLE, Int.reduceGT, Int.reduceGE, Int.reduceEq, Int.reduceBEq, Int.reduceBNe, load_ptr, ldV_some, cellAt_cells, List.getElem?_cons_zero, List.getElem?_cons_succ, store_ptr, stO_some, setAt_0, setAt_1, setAt_2, setAt_3, setAt_4, setAt_5, setAt_6, setAt_7, setAt_8, setAt_9, setAt_10, setAt_11, setAt_12, cells_int, cells_bool, cells_str, cells_nils, cells_nilp, cells_ptr, cells_sl, cells_u8, cells_u16, cells_agg, get_upd_is, Option.isSome_some, upd_upd, ev1_nchkV, ev1_faV, nchkV_ptr, faV_ptr, ev1_extV, extV_tup, eqptr_nil, eqptr_ptr, Nat.zero_add, Nat.add_zero, qPL0, qPL1, qPL2, qPL3, qPL4, qPL5, beq_self_eq_true, qED0, qED1, placeR]
      exact Eq.trans (congrArg (fun x => valR (outR _ (seqR (blockR 2 x) _))) (iter_mask _ _ _ _ (E13b 0) _ rfl)) hb
    · simp only [M13b1, E13a, S13, d1, qES0, qES1, qES2, env0, List.length_cons, List.length_nil, Nat.reduceAdd, Nat.reduceSub, List.replicate, List.cons_append, List.nil_append, opd, Env.put, Env.at, List.set_cons_zero, List.set_cons_succ, List.getD_cons_zero, List.getD_cons_succ, freezeL, resVs, oneOr, Option.map_some, Option.map_none, List.map_cons, List.map_nil, if_true, if_false, Bool.not_true, Bool.not_false, Bool.false_eq_true, reduceIte, decide_true, decide_false, Int.reduceLT, Int.reduceLE, Int.reduceGT, Int.reduceGE, Int.reduceEq, Int.reduceBEq, Int.reduceBNe, load_ptr, ldV_some, cellAt_cells, List.getElem?_cons_zero, List.getElem?_cons_succ, store_ptr, stO_some, setAt_0, setAt_1, setAt_2, setAt_3, setAt_4, setAt_5, setAt_6, setAt_7, setAt_8, setAt_9, setAt_10, setAt_11, setAt_12, cells_int, cells_bool, cells_str, cells_nils, cells_nilp, cells_ptr, cells_sl, cells_u8, cells_u16, cells_agg, get_upd_is, Option.isSome_some, upd_upd, ev1_nchkV, ev1_faV, nchkV_ptr, faV_ptr, ev1_extV, extV_tup, eqptr_nil, eqptr_ptr, Nat.zero_add, Nat.add_zero, qPL0, qPL1, qPL2, qPL3, qPL4, qPL5, beq_self_eq_true, qED0, qED1, placeR] at h
      cases h
end
end Go.Proofs.YtbeimfhodgmjhaaDoor
