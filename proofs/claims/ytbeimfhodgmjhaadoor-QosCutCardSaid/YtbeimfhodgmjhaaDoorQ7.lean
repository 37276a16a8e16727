/- The document's Deal, as the evaluator answers it. No conditions. -/
import Derived.Test.YtbeimfhodgmjhaaDoorQ6
set_option linter.unusedSimpArgs false
set_option linter.unusedVariables false
set_option maxRecDepth 100000
set_option maxHeartbeats 4000000
namespace Go.Proofs.YtbeimfhodgmjhaaDoor
open Go Go.Ab
def bAcc (t : Nat → Bool) : Nat → Int
  | 0 => 0
  | i + 1 => if t i = true then baudZ ((i : Nat) : Int) else bAcc t i
def sAcc (t : Nat → Bool) : Nat → Int
  | 0 => 0
  | i + 1 => if t (2 - i) = true then silentZ ((2 - i : Nat) : Int) else sAcc t i
def wAcc (F : Int) : Nat → Int
  | 0 => 1
  | i + 1 => if ((i + 1 : Nat) : Int) * F ≤ 30 then ((i + 1 : Nat) : Int) else wAcc F i
theorem wAcc_eq (F : Int) : ∀ n, 1 ≤ n → wAcc F n = winZ F n := by
  intro n
  induction n with
  | zero => intro h; omega
  | succ n ih =>
    intro _
    unfold wAcc winZ
    by_cases h : n = 0
    · subst h
      rw [if_neg (show ¬ (((0 + 1 : Nat) : Int) > 1 ∧ ((0 + 1 : Nat) : Int) * F > 30) by omega)]
      unfold wAcc
      split <;> rfl
    · by_cases g : ((n + 1 : Nat) : Int) * F ≤ 30
      · rw [if_pos g, if_neg (by omega)]
      · rw [if_neg g, if_pos (by omega), ih (by omega)]
theorem b_chk : ((List.range 16).all fun a => (List.range 16).all fun b => decide (bAcc (fun i => tbit (a : Int) i && tbit (b : Int) i) 4 = baudZ (highZ (andZ a b)))) = true := by kernel_rfl
theorem s_chk : ((List.range 8).all fun a => (List.range 8).all fun b => decide (sAcc (fun i => tbit (a : Int) i && tbit (b : Int) i) 3 = silentZ (lowZ (andZ a b)))) = true := by kernel_rfl
theorem b_at (a b : Int) (h0 : 0 ≤ a) (h1 : a < 16) (g0 : 0 ≤ b) (g1 : b < 16) : bAcc (fun i => tbit a i && tbit b i) 4 = baudZ (highZ (andZ a b)) := by
  have h := of_decide_eq_true (List.all_eq_true.1 (List.all_eq_true.1 b_chk a.toNat (List.mem_range.2 (by omega))) b.toNat (List.mem_range.2 (by omega)))
  rw [Int.toNat_of_nonneg h0, Int.toNat_of_nonneg g0] at h
  exact h
theorem s_at (a b : Int) (h0 : 0 ≤ a) (h1 : a < 8) (g0 : 0 ≤ b) (g1 : b < 8) : sAcc (fun i => tbit a i && tbit b i) 3 = silentZ (lowZ (andZ a b)) := by
  have h := of_decide_eq_true (List.all_eq_true.1 (List.all_eq_true.1 s_chk a.toNat (List.mem_range.2 (by omega))) b.toNat (List.mem_range.2 (by omega)))
  rw [Int.toNat_of_nonneg h0, Int.toNat_of_nonneg g0] at h
  exact h
def E43c (w : Int) : Env := [.undef, .undef, .undef, .ptr (St.nil.next + 1) 0, .ptr (St.nil.next + 2) 0, .undef, .ptr (St.nil.next + 3) 0, .undef, .undef, .int .i64 w, .undef, .undef, .undef, .undef, .undef, .undef, .undef, .undef, .undef, .undef, .undef, .undef, .undef, .undef, .undef, .undef, .undef, .undef, .undef, .undef, .undef, .undef, .undef, .undef, .undef, .undef, .undef, .undef, .undef, .undef, .undef, .undef, .undef, .undef, .undef, .undef, .undef, .undef, .undef, .undef, .undef, .undef, .undef, .undef, .undef, .undef, .undef, .undef, .undef, .undef, .undef, .undef, .undef, .undef, .undef, .undef, .undef, .undef, .undef, .undef, .undef, .undef, .undef, .undef, .undef, .undef, .undef, .undef, .undef, .undef]
def E43b (j : Int) : Env := [.undef, .undef, .ptr St.nil.next 0, .ptr (St.nil.next + 1) 0, .ptr (St.nil.next + 2) 0, .undef, .ptr (St.nil.next + 3) 0, .undef, .int .i64 j, .undef, .undef, .undef, .undef, .undef, .undef, .undef, .undef, .undef, .undef, .undef, .undef, .undef, .undef, .undef, .undef, .undef, .undef, .undef, .undef, .undef, .undef, .undef, .undef, .undef, .undef, .undef, .undef, .undef, .undef, .undef, .undef, .undef, .undef, .undef, .undef, .undef, .undef, .undef, .undef, .undef, .undef, .undef, .undef, .undef, .undef, .undef, .undef, .undef, .undef, .undef, .undef, .undef, .undef, .undef, .undef, .undef, .undef, .undef, .undef, .undef, .undef, .undef, .undef, .undef, .undef, .undef, .undef, .undef, .undef, .undef]
def E43a (j : Int) : Env := [.undef, .undef, .ptr St.nil.next 0, .ptr (St.nil.next + 1) 0, .ptr (St.nil.next + 2) 0, .undef, .ptr (St.nil.next + 3) 0, .int .i64 j, .undef, .undef, .undef, .undef, .undef, .undef, .undef, .undef, .undef, .undef, .undef, .undef, .undef, .undef, .undef, .undef, .undef, .undef, .undef, .undef, .undef, .undef, .undef, .undef, .undef, .undef, .undef, .undef, .undef, .undef, .undef, .undef, .undef, .undef, .undef, .undef, .undef, .undef, .undef, .undef, .undef, .undef, .undef, .undef, .undef, .undef, .undef, .undef, .undef, .undef, .undef, .undef, .undef, .undef, .undef, .undef, .undef, .undef, .undef, .undef, .undef, .undef, .undef, .undef, .undef, .undef, .undef, .undef, .undef, .undef, .undef, .undef]
section
variable (k : Nat) (m o : Of5) (b s z t : Int) (N : Nat) (i j : Int)
theorem rdeal_c (hN : highZ o.w + 1 = (N : Int)) (hN7 : N ≤ 7) (hz : z = sizeZ i) (hb : b = baudZ j) :
    valR (outR M43.res (seqR (blockR 4 (iter (evC tabGl (evA (k + 19)) (k + 19) M43b0) M43b0l (k + 19) (E43c 1) (S42 m o .undef ⟨b, s, 1, z, t⟩))) (evC tabGl (evA (k + 19)) (k + 19) M43r0))) = some (.tup [.agg (ofC b s (wAcc (frameZ z b) N) z t), .bool true]) := by
  have hf := frame_le i j
  rw [← hz, ← hb] at hf
  have h45 := p45 (k + 18) z b ⟨by rw [hz]; exact (size_le i).1, by rw [hz]; have := (size_le i).2; omega⟩
  obtain ⟨F, hF⟩ : ∃ F, frameZ z b = F := ⟨_, rfl⟩
  rw [hF] at h45 hf ⊢
  have h27 := p27 (k + 18) o.w
  have wN : IntKind.i64.wrap (highZ o.w + 1) = (N : Int) := (wrapI _ (by omega) (by omega)).trans hN
  refine iter_leave (evC tabGl (evA (k + 19)) (k + 19) M43b0) M43b0l (fun i e st => maskE M43b0l e = E43c ((i + 1 : Nat) : Int) ∧ st = S42 m o .undef ⟨b, s, wAcc F i, z, t⟩)
    (fun out => valR (outR M43.res (seqR (blockR 4 out) (evC tabGl (evA (k + 19)) (k + 19) M43r0))) = some (.tup [.agg (ofC b s (wAcc F N) z t), .bool true])) N ?_ ?_ N 0 _ _ (k + 19) (by omega) ⟨rfl, rfl⟩ (by omega)
  · rintro i e st hi ⟨h1, rfl⟩
    rw [h1]
    have wm : IntKind.i64.wrap (((i + 1 : Nat) : Int) * F) = ((i + 1 : Nat) : Int) * F := by
      obtain ⟨f, rfl⟩ : ∃ f : Nat, F = f := ⟨F.toNat, by omega⟩
      have : (i + 1) * f ≤ 7 * 1000 := Nat.mul_le_mul (by omega) (by omega)
      refine wrapI _ ?_ ?_
      · have : (0 : Int) ≤ (((i + 1) * f : Nat) : Int) := Int.natCast_nonneg _
        rw [Int.natCast_mul] at this; omega
      · have : (((i + 1) * f : Nat) : Int) ≤ 7000 := by omega
        rw [Int.natCast_mul] at this; omega
    have w2 : IntKind.i64.wrap (((i + 1 : Nat) : Int) + 1) = ((i + 1 + 1 : Nat) : Int) := (wrapI _ (by omega) (by omega)).trans (by omega)
    have d1 : decide (((i + 1 : Nat) : Int) ≤ (N : Int)) = true := decide_eq_true (by omega)
    left
    by_cases g : ((i + 1 : Nat) : Int) * F ≤ 30
    · have d2 : decide (((i + 1 : Nat) : Int) * F ≤ 30) = true := decide_eq_true g
      simp only [M43b0, E43c, S42, ofC, Of5.cells, h27, wN, d1, d2, wm, w2, h45, i64_mul, qES0, qES1, qES2, env0, List.length_cons, List.length_nil, Nat.reduceAdd, Nat.reduceSub, List.replicate, List.cons_append, List.nil_append, opd, Env.put, Env.at, List.set_cons_zero, List.set_cons_succ, List.getD_cons_zero, List.getD_cons_succ, freezeL, resVs, oneOr, Option.map_some, Option.map_none, List.map_cons, List.map_nil, if_true, if_false, Bool.not_true, Bool.not_false, Bool.false_eq_true, reduceIte, decide_true, decide_false, Int.reduceLT, Int.reduceLE, Int.reduceGT, Int.reduceGE, Int.reduceEq, Int.reduceBEq, Int.reduceBNe, load_ptr, ldV_some, cellAt_cells, List.getElem?_cons_zero, List.getElem?_cons_succ, store_ptr, stO_some, setAt_0, setAt_1, setAt_2, setAt_3, setAt_4, setAt_5, setAt_6, setAt_7, setAt_8, setAt_9, setAt_10, setAt_11, setAt_12, cells_int, cells_bool, cells_str, cells_nils, cells_nilp, cells_ptr, cells_sl, cells_u8, cells_u16, cells_agg, get_upd_is, Option.isSome_some, upd_upd, ev1_nchkV, ev1_faV, nchkV_ptr, faV_ptr, ev1_extV, extV_tup, eqptr_nil, eqptr_ptr, Nat.zero_add, Nat.add_zero, qPL0, qPL1, qPL2, qPL3, qPL4, qPL5, beq_self_eq_true]
      refine ⟨_, _, rfl, rfl, ?_⟩
      unfold wAcc
      rw [if_pos g]
    · have d2 : decide (((i + 1 : Nat) : Int) * F ≤ 30) = false := decide_eq_false g
      simp only [M43b0, E43c, S42, ofC, Of5.cells, h27, wN, d1, d2, wm, w2, h45, i64_mul, qES0, qES1, qES2, env0, List.length_cons, List.length_nil, Nat.reduceAdd, Nat.reduceSub, List.replicate, List.cons_append, List.nil_append, opd, Env.put, Env.at, List.set_cons_zero, List.set_cons_succ, List.getD_cons_zero, List.getD_cons_succ, freezeL, resVs, oneOr, Option.map_some, Option.map_none, List.map_cons, List.map_nil, if_true, if_false, Bool.not_true, Bool.not_false, Bool.false_eq_true, reduceIte, decide_true, decide_false, Int.reduceLT, Int.reduceLE, Int.reduceGT, Int.reduceGE, Int.reduceEq, Int.reduceBEq, Int.reduceBNe, load_ptr, ldV_some, cellAt_cells, List.getElem?_cons_zero, List.getElem?_cons_succ, store_ptr, stO_some, setAt_0, setAt_1, setAt_2, setAt_3, setAt_4, setAt_5, setAt_6, setAt_7, setAt_8, setAt_9, setAt_10, setAt_11, setAt_12, cells_int, cells_bool, cells_str, cells_nils, cells_nilp, cells_ptr, cells_sl, cells_u8, cells_u16, cells_agg, get_upd_is, Option.isSome_some, upd_upd, ev1_nchkV, ev1_faV, nchkV_ptr, faV_ptr, ev1_extV, extV_tup, eqptr_nil, eqptr_ptr, Nat.zero_add, Nat.add_zero, qPL0, qPL1, qPL2, qPL3, qPL4, qPL5, beq_self_eq_true]
      refine ⟨_, _, rfl, rfl, ?_⟩
      rw [show wAcc F (i + 1) = wAcc F i by show (if ((i + 1 : Nat) : Int) * F ≤ 30 then ((i + 1 : Nat) : Int) else wAcc F i) = _; rw [if_neg g]]
  · rintro e st ⟨h1, rfl⟩
    rw [h1]
    have d1 : decide (((N + 1 : Nat) : Int) ≤ (N : Int)) = false := decide_eq_false (by omega)
    simp only [M43, M43r0, M43b0, E43c, S42, ofC, Of5.cells, h27, wN, d1, i64_mul, qES0, qES1, qES2, env0, List.length_cons, List.length_nil, Nat.reduceAdd, Nat.reduceSub, List.replicate, List.cons_append, List.nil_append, opd, Env.put, Env.at, List.set_cons_zero, List.set_cons_succ, List.getD_cons_zero, List.getD_cons_succ, freezeL, resVs, oneOr, Option.map_some, Option.map_none, List.map_cons, List.map_nil, if_true, if_false, Bool.not_true, Bool.not_false, Bool.false_eq_true, reduceIte, decide_true, decide_false, Int.reduceLT, Int.reduceLE, Int.reduceGT, Int.reduceGE, Int.reduceEq, Int.reduceBEq, Int.reduceBNe, load_ptr, ldV_some, cellAt_cells, List.getElem?_cons_zero, List.getElem?_cons_succ, store_ptr, stO_some, setAt_0, setAt_1, setAt_2, setAt_3, setAt_4, setAt_5, setAt_6, setAt_7, setAt_8, setAt_9, setAt_10, setAt_11, setAt_12, cells_int, cells_bool, cells_str, cells_nils, cells_nilp, cells_ptr, cells_sl, cells_u8, cells_u16, cells_agg, get_upd_is, Option.isSome_some, upd_upd, ev1_nchkV, ev1_faV, nchkV_ptr, faV_ptr, ev1_extV, extV_tup, eqptr_nil, eqptr_ptr, Nat.zero_add, Nat.add_zero, qPL0, qPL1, qPL2, qPL3, qPL4, qPL5, beq_self_eq_true]
    exact ⟨by first | trivial | rfl, fun _ _ h => by cases h⟩
theorem rdeal_b (hN : highZ o.w + 1 = (N : Int)) (hN7 : N ≤ 7) (hz : z = sizeZ i) (hb : b = baudZ j) :
    valR (outR M43.res (seqR (blockR 2 (iter (evC tabGl (evA (k + 19)) (k + 19) M43b1) M43b1l (k + 19) (E43b 2) (S42 m o .undef ⟨b, 0, 1, z, t⟩))) (evC tabGl (evA (k + 19)) (k + 19) M43r1))) = some (.tup [.agg (ofC b (sAcc (fun i => tbit m.s i && tbit o.s i) 3) (wAcc (frameZ z b) N) z t), .bool true]) := by
  have hc := rdeal_c k m o b (sAcc (fun i => tbit m.s i && tbit o.s i) 3) z t N i j hN hN7 hz hb
  refine iter_leave (evC tabGl (evA (k + 19)) (k + 19) M43b1) M43b1l (fun i e st => maskE M43b1l e = E43b (2 - (i : Int)) ∧ st = S42 m o .undef ⟨b, sAcc (fun i => tbit m.s i && tbit o.s i) i, 1, z, t⟩)
    (fun out => valR (outR M43.res (seqR (blockR 2 out) (evC tabGl (evA (k + 19)) (k + 19) M43r1))) = some (.tup [.agg (ofC b (sAcc (fun i => tbit m.s i && tbit o.s i) 3) (wAcc (frameZ z b) N) z t), .bool true])) 3 ?_ ?_ 3 0 _ _ (k + 19) (by omega) ⟨rfl, rfl⟩ (by omega)
  · rintro i e st hi ⟨h1, rfl⟩
    rw [h1]
    obtain ⟨l, hl⟩ : ∃ l : Nat, 2 - i = l := ⟨_, rfl⟩
    have hl2 : 2 - (i : Int) = (l : Int) := by omega
    have h64 := p64 (k + 18) m.s l (by omega)
    have h64' := p64 (k + 18) o.s l (by omega)
    have h33 := p33 (k + 18) (l : Int)
    have w2 : IntKind.i64.wrap ((l : Int) - 1) = 2 - ((i + 1 : Nat) : Int) := (wrapI _ (by omega) (by omega)).trans (by omega)
    have d1 : decide ((l : Int) ≥ 0) = true := decide_eq_true (by omega)
    have hs : sAcc (fun i => tbit m.s i && tbit o.s i) (i + 1) = if (tbit m.s l && tbit o.s l) = true then silentZ (l : Int) else sAcc (fun i => tbit m.s i && tbit o.s i) i := by
      rw [← hl]; rfl
    rw [hl2, hs]
    left
    cases ht : tbit m.s l <;> cases hu : tbit o.s l <;> rw [ht] at h64 <;> rw [hu] at h64' <;>
      (simp only [M43b1, E43b, S42, ofC, Of5.cells, h64, h64', h33, d1, w2, Bool.and_self, Bool.and_false, Bool.and_true, Bool.false_and, qES0, qES1, qES2, env0, List.length_cons, List.length_nil, Nat.reduceAdd, Nat.reduceSub, List.replicate, List.cons_append, List.nil_append, opd, Env.put, Env.at, List.set_cons_zero, List.set_cons_succ, List.getD_cons_zero, List.getD_cons_succ, freezeL, resVs, oneOr, Option.map_some, Option.map_none, List.map_cons, List.map_nil, if_true, if_false, Bool.not_true, Bool.not_false, Bool.false_eq_true, reduceIte, decide_true, decide_false, Int.reduceLT, Int.reduceLE, Int.reduceGT, Int.reduceGE, Int.reduceEq, Int.reduceBEq, Int.reduceBNe, load_ptr, ldV_some, cellAt_cells, List.getElem?_cons_zero, List.getElem?_cons_succ, store_ptr, stO_some, setAt_0, setAt_1, setAt_2, setAt_3, setAt_4, setAt_5, setAt_6, setAt_7, setAt_8, setAt_9, setAt_10, setAt_11, setAt_12, cells_int, cells_bool, cells_str, cells_nils, cells_nilp, cells_ptr, cells_sl, cells_u8, cells_u16, cells_agg, get_upd_is, Option.isSome_some, upd_upd, ev1_nchkV, ev1_faV, nchkV_ptr, faV_ptr, ev1_extV, extV_tup, eqptr_nil, eqptr_ptr, Nat.zero_add, Nat.add_zero, qPL0, qPL1, qPL2, qPL3, qPL4, qPL5, beq_self_eq_true]; exact ⟨_, _, rfl, rfl, rfl⟩)
  · rintro e st ⟨h1, rfl⟩
    rw [h1]
    have d1 : decide (2 - ((3 : Nat) : Int) ≥ 0) = false := rfl
    simp only [M43r1, M43b1, E43b, S42, ofC, Of5.cells, d1, evC_loop, qES0, qES1, qES2, env0, List.length_cons, List.length_nil, Nat.reduceAdd, Nat.reduceSub, List.replicate, List.cons_append, List.nil_append, opd, Env.put, Env.at, List.set_cons_zero, List.set_cons_succ, List.getD_cons_zero, List.getD_cons_succ, freezeL, resVs, oneOr, Option.map_some, Option.map_none, List.map_cons, List.map_nil, if_true, if_false, Bool.not_true, Bool.not_false, Bool.false_eq_true, reduceIte, decide_true, decide_false, Int.reduceLT, Int.reduceLE, Int.reduceGT, Int.reduceGE, Int.reduceEq, Int.reduceBEq, Int.reduceBNe, load_ptr, ldV_some, cellAt_cells, List.getElem?_cons_zero, List.getElem?_cons_succ, store_ptr, stO_some, setAt_0, setAt_1, setAt_2, setAt_3, setAt_4, setAt_5, setAt_6, setAt_7, setAt_8, setAt_9, setAt_10, setAt_11, setAt_12, cells_int, cells_bool, cells_str, cells_nils, cells_nilp, cells_ptr, cells_sl, cells_u8, cells_u16, cells_agg, get_upd_is, Option.isSome_some, upd_upd, ev1_nchkV, ev1_faV, nchkV_ptr, faV_ptr, ev1_extV, extV_tup, eqptr_nil, eqptr_ptr, Nat.zero_add, Nat.add_zero, qPL0, qPL1, qPL2, qPL3, qPL4, qPL5, beq_self_eq_true]
    refine ⟨?_, fun _ _ h => by cases h⟩
    exact Eq.trans (congrArg (fun x => valR (outR _ (seqR (blockR 4 x) _))) (iter_mask _ _ _ _ (E43c 1) _ rfl)) hc
theorem rdeal_a (hN : highZ o.w + 1 = (N : Int)) (hN7 : N ≤ 7) (hz : z = sizeZ i) (hb : bAcc (fun i => tbit m.b i && tbit o.b i) 4 = baudZ j) :
    valR (outR M43.res (seqR (blockR 0 (iter (evC tabGl (evA (k + 19)) (k + 19) M43b2) M43b2l (k + 19) (E43a 0) (S42 m o .undef ⟨0, 0, 1, z, t⟩))) (evC tabGl (evA (k + 19)) (k + 19) M43r2))) = some (.tup [.agg (ofC (bAcc (fun i => tbit m.b i && tbit o.b i) 4) (sAcc (fun i => tbit m.s i && tbit o.s i) 3) (wAcc (frameZ z (bAcc (fun i => tbit m.b i && tbit o.b i) 4)) N) z t), .bool true]) := by
  have hc := rdeal_b k m o (bAcc (fun i => tbit m.b i && tbit o.b i) 4) z t N i j hN hN7 hz hb
  refine iter_leave (evC tabGl (evA (k + 19)) (k + 19) M43b2) M43b2l (fun i e st => maskE M43b2l e = E43a (i : Int) ∧ st = S42 m o .undef ⟨bAcc (fun i => tbit m.b i && tbit o.b i) i, 0, 1, z, t⟩)
    (fun out => valR (outR M43.res (seqR (blockR 0 out) (evC tabGl (evA (k + 19)) (k + 19) M43r2))) = some (.tup [.agg (ofC (bAcc (fun i => tbit m.b i && tbit o.b i) 4) (sAcc (fun i => tbit m.s i && tbit o.s i) 3) (wAcc (frameZ z (bAcc (fun i => tbit m.b i && tbit o.b i) 4)) N) z t), .bool true])) 4 ?_ ?_ 4 0 _ _ (k + 19) (by omega) ⟨rfl, rfl⟩ (by omega)
  · rintro i e st hi ⟨h1, rfl⟩
    rw [h1]
    have h64 := p64 (k + 18) m.b i (by omega)
    have h64' := p64 (k + 18) o.b i (by omega)
    have h31 := p31 (k + 18) (i : Int)
    have w2 : IntKind.i64.wrap ((i : Int) + 1) = ((i + 1 : Nat) : Int) := (wrapI _ (by omega) (by omega)).trans (by omega)
    have d1 : decide ((i : Int) < 4) = true := decide_eq_true (by omega)
    have hs : bAcc (fun i => tbit m.b i && tbit o.b i) (i + 1) = if (tbit m.b i && tbit o.b i) = true then baudZ (i : Int) else bAcc (fun i => tbit m.b i && tbit o.b i) i := rfl
    rw [hs]
    left
    cases ht : tbit m.b i <;> cases hu : tbit o.b i <;> rw [ht] at h64 <;> rw [hu] at h64' <;>
      (simp only [M43b2, E43a, S42, ofC, Of5.cells, h64, h64', h31, d1, w2, Bool.and_self, Bool.and_false, Bool.and_true, Bool.false_and, qES0, qES1, qES2, env0, List.length_cons, List.length_nil, Nat.reduceAdd, Nat.reduceSub, List.replicate, List.cons_append, List.nil_append, opd, Env.put, Env.at, List.set_cons_zero, List.set_cons_succ, List.getD_cons_zero, List.getD_cons_succ, freezeL, resVs, oneOr, Option.map_some, Option.map_none, List.map_cons, List.map_nil, if_true, if_false, Bool.not_true, Bool.not_false, Bool.false_eq_true, reduceIte, decide_true, decide_false, Int.reduceLT, Int.reduceLE, Int.reduceGT, Int.reduceGE, Int.reduceEq, Int.reduceBEq, Int.reduceBNe, load_ptr, ldV_some, cellAt_cells, List.getElem?_cons_zero, List.getElem?_cons_succ, store_ptr, stO_some, setAt_0, setAt_1, setAt_2, setAt_3, setAt_4, setAt_5, setAt_6, setAt_7, setAt_8, setAt_9, setAt_10, setAt_11, setAt_12, cells_int, cells_bool, cells_str, cells_nils, cells_nilp, cells_ptr, cells_sl, cells_u8, cells_u16, cells_agg, get_upd_is, Option.isSome_some, upd_upd, ev1_nchkV, ev1_faV, nchkV_ptr, faV_ptr, ev1_extV, extV_tup, eqptr_nil, eqptr_ptr, Nat.zero_add, Nat.add_zero, qPL0, qPL1, qPL2, qPL3, qPL4, qPL5, beq_self_eq_true]; exact ⟨_, _, rfl, rfl, rfl⟩)
  · rintro e st ⟨h1, rfl⟩
    rw [h1]
    have d1 : decide (((4 : Nat) : Int) < 4) = false := rfl
    simp only [M43r2, M43b2, E43a, S42, ofC, Of5.cells, d1, evC_loop, qES0, qES1, qES2, env0, List.length_cons, List.length_nil, Nat.reduceAdd, Nat.reduceSub, List.replicate, List.cons_append, List.nil_append, opd, Env.put, Env.at, List.set_cons_zero, List.set_cons_succ, List.getD_cons_zero, List.getD_cons_succ, freezeL, resVs, oneOr, Option.map_some, Option.map_none, List.map_cons, List.map_nil, if_true, if_false, Bool.not_true, Bool.not_false, Bool.false_eq_true, reduceIte, decide_true, decide_false, Int.reduceLT, Int.reduceLE, Int.reduceGT, Int.reduceGE, Int.reduceEq, Int.reduceBEq, Int.reduceBNe, load_ptr, ldV_some, cellAt_cells, List.getElem?_cons_zero, List.getElem?_cons_succ, store_ptr, stO_some, setAt_0, setAt_1, setAt_2, setAt_3, setAt_4, setAt_5, setAt_6, setAt_7, setAt_8, setAt_9, setAt_10, setAt_11, setAt_12, cells_int, cells_bool, cells_str, cells_nils, cells_nilp, cells_ptr, cells_sl, cells_u8, cells_u16, cells_agg, get_upd_is, Option.isSome_some, upd_upd, ev1_nchkV, ev1_faV, nchkV_ptr, faV_ptr, ev1_extV, extV_tup, eqptr_nil, eqptr_ptr, Nat.zero_add, Nat.add_zero, qPL0, qPL1, qPL2, qPL3, qPL4, qPL5, beq_self_eq_true]
    refine ⟨?_, fun _ _ h => by cases h⟩
    exact Eq.trans (congrArg (fun x => valR (outR _ (seqR (blockR 2 x) _))) (iter_mask _ _ _ _ (E43b 2) _ rfl)) hc
end
theorem rdeal_val (m o : Of5) : valR (evA 1000 43 [.agg m.cells, .agg o.cells] St.nil) = some (if m.may ∧ o.may then .tup [.agg (dealO m o).cells, .bool true] else .tup [.agg (ofC 0 0 0 0 0), .bool false]) := by
  rw [show (1000 : Nat) = 999 + 1 from rfl, evA_in rfl tab43, show St.nil = St.nil.pl [] from rfl]
  have hm := p58 998 m
  have ho := p58 998 o
  obtain ⟨mb, ms, mw, mz, mt⟩ := m
  obtain ⟨ob, os, ow, oz, ot⟩ := o
  by_cases gm : Of5.may ⟨mb, ms, mw, mz, mt⟩
  · rw [decide_eq_true gm] at hm
    by_cases go : Of5.may ⟨ob, os, ow, oz, ot⟩
    · rw [decide_eq_true go] at ho
      rw [if_pos ⟨gm, go⟩]
      have gm' : mayP mb ms mw mz mt := gm
      have go' : mayP ob os ow oz ot := go
      unfold mayP at gm' go'
      have hw := high_at ow (by omega) (by omega)
      have q27 := p27 998
      have q29 := p29 998
      have q35 := p35 998
      have eb := b_at mb ob (by omega) (by omega) (by omega) (by omega)
      have es := s_at ms os (by omega) (by omega) (by omega) (by omega)
      have hl := rdeal_a 980 ⟨mb, ms, mw, mz, mt⟩ ⟨ob, os, ow, oz, ot⟩ (sizeZ (highZ oz)) (lowZ ot) (highZ ow + 1).toNat _ _ (by show highZ ow + 1 = _; omega) (by omega) rfl eb
      simp only [Of5.cells, ofC] at hm ho
      simp only [M43, Of5.cells, ofC, hm, ho, q27, q29, q35, evC_loop, qES0, qES1, qES2, env0, List.length_cons, List.length_nil, Nat.reduceAdd, Nat.reduceSub, List.replicate, List.cons_append, List.nil_append, opd, Env.put, Env.at, List.set_cons_zero, List.set_cons_succ, List.getD_cons_zero, List.getD_cons_succ, freezeL, resVs, oneOr, Option.map_some, Option.map_none, List.map_cons, List.map_nil, if_true, if_false, Bool.not_true, Bool.not_false, Bool.false_eq_true, reduceIte, decide_true, decide_false, Int.reduceLT, Int.reduceLE, Int.reduceGT, Int.reduceGE, Int.reduceEq, Int.reduceBEq, Int.reduceBNe, load_ptr, ldV_some, cellAt_cells, List.getElem?_cons_zero, List.getElem?_cons_succ, store_ptr, stO_some, setAt_0, setAt_1, setAt_2, setAt_3, setAt_4, setAt_5, setAt_6, setAt_7, setAt_8, setAt_9, setAt_10, setAt_11, setAt_12, cells_int, cells_bool, cells_str, cells_nils, cells_nilp, cells_ptr, cells_sl, cells_u8, cells_u16, cells_agg, get_upd_is, Option.isSome_some, upd_upd, ev1_nchkV, ev1_faV, nchkV_ptr, faV_ptr, ev1_extV, extV_tup, eqptr_nil, eqptr_ptr, Nat.zero_add, Nat.add_zero, qPL0, qPL1, qPL2, qPL3, qPL4, qPL5, beq_self_eq_true, qED0, qED1, placeR]
      rw [drawR_ok]; case h => simp (config := { decide := true }) [calm, calmPair, calmTwo, List.range, List.range.loop, sameO_refl, plg0, plg1, plg2, plg3, plg4, plg5, plg6, plg7, plg8, plg9, plg10, plg11, plg12, plg13]
      simp only [hm, ho, q27, q29, q35, evC_loop, qES0, qES1, qES2, env0, List.length_cons, List.length_nil, Nat.reduceAdd, Nat.reduceSub, List.replicate, List.cons_append, List.nil_append, opd, Env.put, Env.at, List.set_cons_zero, List.set_cons_succ, List.getD_cons_zero, List.getD_cons_succ, freezeL, resVs, oneOr, Option.map_some, Option.map_none, List.map_cons, List.map_nil, if_true, if_false, Bool.not_true, Bool.not_false, Bool.false_eq_true, reduceIte, decide_true, decide_false, Int.reduceLT, Int.reduceLE, Int.reduceGT, Int.reduceGE, Int.reduceEq, Int.reduceBEq, Int.reduceBNe, load_ptr, ldV_some, cellAt_cells, List.getElem?_cons_zero, List.getElem?_cons_succ, store_ptr, stO_some, setAt_0, setAt_1, setAt_2, setAt_3, setAt_4, setAt_5, setAt_6, setAt_7, setAt_8, setAt_9, setAt_10, setAt_11, setAt_12, cells_int, cells_bool, cells_str, cells_nils, cells_nilp, cells_ptr, cells_sl, cells_u8, cells_u16, cells_agg, get_upd_is, Option.isSome_some, upd_upd, ev1_nchkV, ev1_faV, nchkV_ptr, faV_ptr, ev1_extV, extV_tup, eqptr_nil, eqptr_ptr, Nat.zero_add, Nat.add_zero, qPL0, qPL1, qPL2, qPL3, qPL4, qPL5, beq_self_eq_true, qED0, qED1, placeR]
      refine Eq.trans (congrArg (fun x => valR (outR _ (seqR (blockR 0 x) _))) (iter_mask _ _ _ _ (E43a 0) _ rfl)) (hl.trans ?_)
      simp only [dealO]
      rw [eb, es, wAcc_eq _ _ (by omega)]
      rfl
    · rw [decide_eq_false go] at ho
      rw [if_neg (fun h => go h.2)]
      simp only [Of5.cells, ofC] at hm ho
      simp only [M43, Of5.cells, ofC, hm, ho, ev1_build, fill_nil, qES0, qES1, qES2, env0, List.length_cons, List.length_nil, Nat.reduceAdd, Nat.reduceSub, List.replicate, List.cons_append, List.nil_append, opd, Env.put, Env.at, List.set_cons_zero, List.set_cons_succ, List.getD_cons_zero, List.getD_cons_succ, freezeL, resVs, oneOr, Option.map_some, Option.map_none, List.map_cons, List.map_nil, if_true, if_false, Bool.not_true, Bool.not_false, Bool.false_eq_true, reduceIte, decide_true, decide_false, Int.reduceLT, Int.reduceLE, Int.reduceGT, Int.reduceGE, Int.reduceEq, Int.reduceBEq, Int.reduceBNe, load_ptr, ldV_some, cellAt_cells, List.getElem?_cons_zero, List.getElem?_cons_succ, store_ptr, stO_some, setAt_0, setAt_1, setAt_2, setAt_3, setAt_4, setAt_5, setAt_6, setAt_7, setAt_8, setAt_9, setAt_10, setAt_11, setAt_12, cells_int, cells_bool, cells_str, cells_nils, cells_nilp, cells_ptr, cells_sl, cells_u8, cells_u16, cells_agg, get_upd_is, Option.isSome_some, upd_upd, ev1_nchkV, ev1_faV, nchkV_ptr, faV_ptr, ev1_extV, extV_tup, eqptr_nil, eqptr_ptr, Nat.zero_add, Nat.add_zero, qPL0, qPL1, qPL2, qPL3, qPL4, qPL5, beq_self_eq_true, qED0, qED1, placeR]
  · rw [decide_eq_false gm] at hm
    rw [if_neg (fun h => gm h.1)]
    simp only [Of5.cells, ofC] at hm ho
    simp only [M43, Of5.cells, ofC, hm, ev1_build, fill_nil, qES0, qES1, qES2, env0, List.length_cons, List.length_nil, Nat.reduceAdd, Nat.reduceSub, List.replicate, List.cons_append, List.nil_append, opd, Env.put, Env.at, List.set_cons_zero, List.set_cons_succ, List.getD_cons_zero, List.getD_cons_succ, freezeL, resVs, oneOr, Option.map_some, Option.map_none, List.map_cons, List.map_nil, if_true, if_false, Bool.not_true, Bool.not_false, Bool.false_eq_true, reduceIte, decide_true, decide_false, Int.reduceLT, Int.reduceLE, Int.reduceGT, Int.reduceGE, Int.reduceEq, Int.reduceBEq, Int.reduceBNe, load_ptr, ldV_some, cellAt_cells, List.getElem?_cons_zero, List.getElem?_cons_succ, store_ptr, stO_some, setAt_0, setAt_1, setAt_2, setAt_3, setAt_4, setAt_5, setAt_6, setAt_7, setAt_8, setAt_9, setAt_10, setAt_11, setAt_12, cells_int, cells_bool, cells_str, cells_nils, cells_nilp, cells_ptr, cells_sl, cells_u8, cells_u16, cells_agg, get_upd_is, Option.isSome_some, upd_upd, ev1_nchkV, ev1_faV, nchkV_ptr, faV_ptr, ev1_extV, extV_tup, eqptr_nil, eqptr_ptr, Nat.zero_add, Nat.add_zero, qPL0, qPL1, qPL2, qPL3, qPL4, qPL5, beq_self_eq_true, qED0, qED1, placeR]
/-- Two offers, and what two agree on. -/
def hDeal : List AV → St → Option AV
  | [v, u], _ => match toOf v, toOf u with
    | some m, some o => some (if m.may ∧ o.may then .tup [.agg (dealO m o).cells, .bool true] else .tup [.agg (ofC 0 0 0 0 0), .bool false])
    | _, _ => none
  | _, _ => none
theorem pureDeal {call : Calls'} {F : Nat} (h : ∀ m o : Of5, valR (call F [.agg m.cells, .agg o.cells] St.nil) = some (if m.may ∧ o.may then .tup [.agg (dealO m o).cells, .bool true] else .tup [.agg (ofC 0 0 0 0 0), .bool false])) : PureOk call F hDeal := pureOk_of (by
  intro args s v hv
  unfold hDeal at hv
  split at hv
  · split at hv
    · rename_i m o hm ho
      cases hv
      rw [toOf_of hm, toOf_of ho]
      refine ⟨?_, by simp [flatL, Of5.flat], h m o⟩
      split <;> rfl
    · cases hv
  · cases hv)
theorem puB42 : PureOk (evA 1000) 42 (hDeal) := (pureDeal deal_val)
theorem puB43 : PureOk (evA 1000) 43 (hDeal) := (pureDeal rdeal_val)
def lstB (f : Nat) : Option (List AV → St → Option AV) := if f = 42 then some (hDeal) else if f = 43 then some (hDeal) else none
noncomputable def extB := extWith extA lstB
theorem extB_ok : ∀ w0, ExtOk Tryd.prog tabGl w0 extB := extOk_add (tableOf_ok _) mixed tab_flat (extA_ok) lstB (by
  intro f h hf
  unfold lstB at hf
  rcases some_of hf with ⟨rfl, rfl⟩ | hf
  · exact ⟨by rw [tab42]; rfl, 1000, puB42⟩
  rcases some_of hf with ⟨rfl, rfl⟩ | hf
  · exact ⟨by rw [tab43]; rfl, 1000, puB43⟩
  cases hf)
noncomputable def evB : Nat → Calls' := evF tabGl (tableOf Tryd.prog) extB
theorem evB_ok (w0 : World) (k : Nat) : CallOk Tryd.prog tabGl w0 (evB k) := evF_sound (tableOf_ok _) (extB_ok w0) mixed k
theorem evB_in {k f : Nat} {m : MFun} (hx : extB f = none) (hF : tableOf Tryd.prog f = some m) (args : List AV) (s : St) :
    evB (k + 1) f args s = outR m.res (evC tabGl (evB k) k m.body (env0 m.ntmps args) s) := evF_in hx hF args s
theorem b42 (k : Nat) (m o : Of5) (s : St) : evB (k + 1) 42 [.agg m.cells, .agg o.cells] s = some (if m.may ∧ o.may then .tup [.agg (dealO m o).cells, .bool true] else .tup [.agg (ofC 0 0 0 0 0), .bool false], s) := evF_ext (H := hDeal) rfl rfl
theorem b43 (k : Nat) (m o : Of5) (s : St) : evB (k + 1) 43 [.agg m.cells, .agg o.cells] s = some (if m.may ∧ o.may then .tup [.agg (dealO m o).cells, .bool true] else .tup [.agg (ofC 0 0 0 0 0), .bool false], s) := evF_ext (H := hDeal) rfl rfl
theorem b26 (k : Nat) (n : Int) (s : St) : evB (k + 1) 26 [.int .i64 n] s = some (.int .i64 (highZ n), s) := evF_ext (H := h1 highZ) rfl rfl
theorem b27 (k : Nat) (n : Int) (s : St) : evB (k + 1) 27 [.int .i64 n] s = some (.int .i64 (highZ n), s) := evF_ext (H := h1 highZ) rfl rfl
theorem b28 (k : Nat) (n : Int) (s : St) : evB (k + 1) 28 [.int .i64 n] s = some (.int .i64 (lowZ n), s) := evF_ext (H := h1 lowZ) rfl rfl
theorem b29 (k : Nat) (n : Int) (s : St) : evB (k + 1) 29 [.int .i64 n] s = some (.int .i64 (lowZ n), s) := evF_ext (H := h1 lowZ) rfl rfl
theorem b30 (k : Nat) (n : Int) (s : St) : evB (k + 1) 30 [.int .i64 n] s = some (.int .i64 (baudZ n), s) := evF_ext (H := h1 baudZ) rfl rfl
theorem b31 (k : Nat) (n : Int) (s : St) : evB (k + 1) 31 [.int .i64 n] s = some (.int .i64 (baudZ n), s) := evF_ext (H := h1 baudZ) rfl rfl
theorem b32 (k : Nat) (n : Int) (s : St) : evB (k + 1) 32 [.int .i64 n] s = some (.int .i64 (silentZ n), s) := evF_ext (H := h1 silentZ) rfl rfl
theorem b33 (k : Nat) (n : Int) (s : St) : evB (k + 1) 33 [.int .i64 n] s = some (.int .i64 (silentZ n), s) := evF_ext (H := h1 silentZ) rfl rfl
theorem b34 (k : Nat) (n : Int) (s : St) : evB (k + 1) 34 [.int .i64 n] s = some (.int .i64 (sizeZ n), s) := evF_ext (H := h1 sizeZ) rfl rfl
theorem b35 (k : Nat) (n : Int) (s : St) : evB (k + 1) 35 [.int .i64 n] s = some (.int .i64 (sizeZ n), s) := evF_ext (H := h1 sizeZ) rfl rfl
theorem b36 (k : Nat) (a b : Int) (h : has1 a b) (s : St) : evB (k + 1) 36 [.int .i64 a, .int .i64 b] s = some (.int .i64 (ticksZ a b), s) := evF_ext (H := h2 has1 ticksZ) rfl (if_pos h)
theorem b37 (k : Nat) (a b : Int) (h : has1 a b) (s : St) : evB (k + 1) 37 [.int .i64 a, .int .i64 b] s = some (.int .i64 (ticksZ a b), s) := evF_ext (H := h2 has1 ticksZ) rfl (if_pos h)
theorem b44 (k : Nat) (a b : Int) (h : small1 a b) (s : St) : evB (k + 1) 44 [.int .i64 a, .int .i64 b] s = some (.int .i64 (frameZ a b), s) := evF_ext (H := h2 small1 frameZ) rfl (if_pos h)
theorem b45 (k : Nat) (a b : Int) (h : small1 a b) (s : St) : evB (k + 1) 45 [.int .i64 a, .int .i64 b] s = some (.int .i64 (frameZ a b), s) := evF_ext (H := h2 small1 frameZ) rfl (if_pos h)
theorem b21 (k : Nat) (s : St) : evB (k + 1) 21 [] s = some (.bool true, s) := evF_ext (H := hTrue) rfl rfl
theorem b25 (k : Nat) (o : Of5) (s : St) : evB (k + 1) 25 [.agg o.cells] s = some (.bool (decide o.may), s) := evF_ext (H := hMayO) rfl rfl
theorem b58 (k : Nat) (o : Of5) (s : St) : evB (k + 1) 58 [.agg o.cells] s = some (.bool (decide o.may), s) := evF_ext (H := hMayO) rfl rfl
theorem b64 (k : Nat) (n : Int) (i : Nat) (hi : i < 16) (s : St) : evB (k + 1) 64 [.int .i64 n, .int .i64 (i : Int)] s = some (.bool (tbit n i), s) := evF_ext (H := hAt) rfl (if_pos ⟨by omega, by omega⟩)
end Go.Proofs.YtbeimfhodgmjhaaDoor
