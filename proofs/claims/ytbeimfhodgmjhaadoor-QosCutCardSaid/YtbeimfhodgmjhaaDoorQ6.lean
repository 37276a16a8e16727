/- meet.Deal, as the evaluator answers it. No conditions. -/
import Derived.Test.YtbeimfhodgmjhaaDoorQ5
set_option linter.unusedSimpArgs false
set_option linter.unusedVariables false
set_option maxRecDepth 100000
set_option maxHeartbeats 4000000
namespace Go.Proofs.YtbeimfhodgmjhaaDoor
open Go Go.Ab
def andZ (a b : Int) : Int := ((a.toNat &&& b.toNat : Nat) : Int)
theorem and_nn (a b : Int) (ha : 0 ≤ a) (ha2 : a < 1000000) (hb : 0 ≤ b) (hb2 : b < 1000000) : binV .and (.int .i64 a) (.int .i64 b) = some (.int .i64 (andZ a b)) := by
  show some (AV.int .i64 (IntKind.i64.wrap ((BitVec.ofInt 64 a &&& BitVec.ofInt 64 b).toNat : Int))) = _
  have hx : (BitVec.ofInt 64 a &&& BitVec.ofInt 64 b).toNat = a.toNat &&& b.toNat := by
    rw [BitVec.toNat_and, BitVec.toNat_ofInt, BitVec.toNat_ofInt]
    have q1 : (a % ((2 ^ 64 : Nat) : Int)).toNat = a.toNat := by omega
    have q2 : (b % ((2 ^ 64 : Nat) : Int)).toNat = b.toNat := by omega
    rw [q1, q2]
  have hle := Nat.and_le_left (n := a.toNat) (m := b.toNat)
  rw [hx, wrapI _ (by omega) (by omega)]
  rfl
/-- The widest window that fits. -/
def winZ (F : Int) : Nat → Int
  | 0 => 0
  | w + 1 => if ((w + 1 : Nat) : Int) > 1 ∧ ((w + 1 : Nat) : Int) * F > 30 then winZ F w else ((w + 1 : Nat) : Int)
def dealO (m o : Of5) : Of5 := ⟨baudZ (highZ (andZ m.b o.b)), silentZ (lowZ (andZ m.s o.s)), winZ (frameZ (sizeZ (highZ o.z)) (baudZ (highZ (andZ m.b o.b)))) (highZ o.w + 1).toNat, sizeZ (highZ o.z), lowZ o.t⟩
theorem high_w : ((List.range 128).all fun n => decide (n = 0 ∨ (0 ≤ highZ n ∧ highZ n ≤ 6))) = true := by kernel_rfl
theorem high_at (w : Int) (h0 : 1 ≤ w) (h1 : w ≤ 127) : 0 ≤ highZ w ∧ highZ w ≤ 6 := by
  have h := of_decide_eq_true (List.all_eq_true.1 high_w w.toNat (List.mem_range.2 (by omega)))
  rw [Int.toNat_of_nonneg (by omega)] at h
  omega
theorem size_le (i : Int) : 0 ≤ sizeZ i ∧ sizeZ i ≤ 64 := by unfold sizeZ; repeat' split <;> omega
theorem baud_le (i : Int) : 0 ≤ baudZ i ∧ baudZ i ≤ 256 := by unfold baudZ; repeat' split <;> omega
theorem frame_le (i j : Int) : 0 ≤ frameZ (sizeZ i) (baudZ j) ∧ frameZ (sizeZ i) (baudZ j) ≤ 1000 := by
  have h1 := size_le i
  have h2 := baud_le j
  unfold frameZ ticksZ
  split
  · omega
  · have q0 : 0 ≤ (2 * (sizeZ i + 5) + 2 - 1) / baudZ j := Int.ediv_nonneg (by omega) (by omega)
    have q1 : (2 * (sizeZ i + 5) + 2 - 1) / baudZ j ≤ 2 * (sizeZ i + 5) + 2 - 1 := Int.ediv_le_self _ (by omega)
    omega
def E42 : Env := [.undef, .undef, .undef, .undef, .ptr (St.nil.next + 2) 0, .undef, .ptr (St.nil.next + 3) 0, .undef, .undef, .undef, .undef, .undef, .undef, .undef, .undef, .undef, .undef, .undef, .undef, .undef, .undef, .undef, .undef, .undef, .undef, .undef, .undef, .undef, .undef, .undef, .undef, .undef, .undef, .undef, .undef, .undef, .undef, .undef, .undef, .undef, .undef, .undef, .undef, .undef, .undef, .undef, .undef, .undef, .undef, .undef, .undef, .undef, .undef, .undef, .undef, .undef, .undef, .undef, .undef, .undef, .undef]
def S42 (m o : Of5) (r : AV) (d : Of5) : St := St.nil.pl [.cells 0 m.cells, .cells 0 o.cells, .cells 0 [.int .i64 0, .int .i64 0, .int .i64 0, .int .i64 0, .int .i64 0], .cells 0 d.cells]
theorem deal_loop (k : Nat) (m o : Of5) (b s z t : Int) (w0 : Nat) (hw : w0 ≤ 7) (i j : Int) (hz : z = sizeZ i) (hb : b = baudZ j) (R : AV) :
    valR (outR M42.res (seqR (blockR 0 (iter (evC tabGl (evA (k + 19)) (k + 19) M42b0) M42b0l (k + 19) E42 (S42 m o R ⟨b, s, w0, z, t⟩))) (evC tabGl (evA (k + 19)) (k + 19) M42r0))) = some (.tup [.agg (ofC b s (winZ (frameZ z b) w0) z t), .bool true]) := by
  have hf := frame_le i j
  rw [← hz, ← hb] at hf
  have h44 := p44 (k + 18) z b ⟨by rw [hz]; exact (size_le i).1, by rw [hz]; have := (size_le i).2; omega⟩
  obtain ⟨F, hF⟩ : ∃ F, frameZ z b = F := ⟨_, rfl⟩
  rw [hF] at h44 hf ⊢
  obtain ⟨W, hW⟩ : ∃ W, winZ F w0 = W := ⟨_, rfl⟩
  rw [hW]
  refine iter_leave (evC tabGl (evA (k + 19)) (k + 19) M42b0) M42b0l (fun i e st => maskE M42b0l e = E42 ∧ st = S42 m o R ⟨b, s, ((w0 - i : Nat) : Int), z, t⟩ ∧ W = winZ F (w0 - i))
    (fun out => valR (outR M42.res (seqR (blockR 0 out) (evC tabGl (evA (k + 19)) (k + 19) M42r0))) = some (.tup [.agg (ofC b s W z t), .bool true])) w0 ?_ ?_ w0 0 _ _ (k + 19) (by omega) ⟨rfl, rfl, hW.symm⟩ (by omega)
  · rintro i e st hi ⟨h1, rfl, h3⟩
    rw [h1]
    obtain ⟨w, hw'⟩ : ∃ w, w0 - i = w + 1 := ⟨w0 - i - 1, by omega⟩
    rw [hw'] at h3 ⊢
    unfold winZ at h3
    have wm : IntKind.i64.wrap (((w + 1 : Nat) : Int) * F) = ((w + 1 : Nat) : Int) * F := by
      obtain ⟨f, rfl⟩ : ∃ f : Nat, F = f := ⟨F.toNat, by omega⟩
      have : (w + 1) * f ≤ 7 * 1000 := Nat.mul_le_mul (by omega) (by omega)
      refine wrapI _ ?_ ?_
      · have : (0 : Int) ≤ (((w + 1) * f : Nat) : Int) := Int.natCast_nonneg _
        rw [Int.natCast_mul] at this; omega
      · have : (((w + 1) * f : Nat) : Int) ≤ 7000 := by omega
        rw [Int.natCast_mul] at this; omega
    by_cases g1 : ((w + 1 : Nat) : Int) > 1
    · have d1 : decide (((w + 1 : Nat) : Int) > 1) = true := decide_eq_true g1
      by_cases g2 : ((w + 1 : Nat) : Int) * F > 30
      · left
        have d2 : decide (((w + 1 : Nat) : Int) * F > 30) = true := decide_eq_true g2
        have ws : IntKind.i64.wrap (((w + 1 : Nat) : Int) - 1) = (w : Int) := (wrapI _ (by omega) (by omega)).trans (by omega)
        rw [if_pos ⟨g1, g2⟩] at h3
        simp only [M42b0, E42, S42, ofC, Of5.cells, d1, d2, wm, ws, h44, i64_mul, qES0, qES1, qES2, env0, List.length_cons, List.length_nil, Nat.reduceAdd, Nat.reduceSub, List.replicate, List.cons_append, List.nil_append, opd, Env.put, Env.at, List.set_cons_zero, List.set_cons_succ, List.getD_cons_zero, List.getD_cons_succ, freezeL, resVs, oneOr, Option.map_some, Option.map_none, List.map_cons, List.map_nil, if_true, if_false, Bool.not_true, Bool.not_false, Bool.false_eq_true, reduceIte, decide_true, decide_false, Int.reduceLT, Int.reduceLE, Int.reduceGT, Int.reduceGE, Int.reduceEq, Int.reduceBEq, Int.reduceBNe, load_ptr, ldV_some, cellAt_cells, List.getElem?_cons_zero, List.getElem?_cons_succ, store_ptr, stO_some, setAt_0, setAt_1, setAt_2, setAt_3, setAt_4, setAt_5, setAt_6, setAt_7, setAt_8, setAt_9, setAt_10, setAt_11, setAt_12, cells_int, cells_bool, cells_str, cells_nils, cells_nilp, cells_ptr, cells_sl, cells_u8, cells_u16, cells_agg, get_upd_is, Option.isSome_some, upd_upd, ev1_nchkV, ev1_faV, nchkV_ptr, faV_ptr, ev1_extV, extV_tup, eqptr_nil, eqptr_ptr, Nat.zero_add, Nat.add_zero, qPL0, qPL1, qPL2, qPL3, qPL4, qPL5, beq_self_eq_true, qED0, qED1, placeR]
        rw [drawR_ok]; case h => simp (config := { decide := true }) [calm, calmPair, calmTwo, List.range, List.range.loop, sameO_refl, plg0, plg1, plg2, plg3, plg4, plg5, plg6, plg7, plg8, plg9, plg10, plg11, plg12, plg13]
        simp only [M42b0, E42, S42, ofC, Of5.cells, d1, d2, wm, ws, h44, i64_mul, qES0, qES1, qES2, env0, List.length_cons, List.length_nil, Nat.reduceAdd, Nat.reduceSub, List.replicate, List.cons_append, List.nil_append, opd, Env.put, Env.at, List.set_cons_zero, List.set_cons_succ, List.getD_cons_zero, List.getD_cons_succ, freezeL, resVs, oneOr, Option.map_some, Option.map_none, List.map_cons, List.map_nil, if_true, if_false, Bool.not_true, Bool.not_false, Bool.false_eq_true, reduceIte, decide_true, decide_false, Int.reduceLT, Int.reduceLE, Int.reduceGT, Int.reduceGE, Int.reduceEq, Int.reduceBEq, Int.reduceBNe, load_ptr, ldV_some, cellAt_cells, List.getElem?_cons_zero, List.getElem?_cons_succ, store_ptr, stO_some, setAt_0, setAt_1, setAt_2, setAt_3, setAt_4, setAt_5, setAt_6, setAt_7, setAt_8, setAt_9, setAt_10, setAt_11, setAt_12, cells_int, cells_bool, cells_str, cells_nils, cells_nilp, cells_ptr, cells_sl, cells_u8, cells_u16, cells_agg, get_upd_is, Option.isSome_some, upd_upd, ev1_nchkV, ev1_faV, nchkV_ptr, faV_ptr, ev1_extV, extV_tup, eqptr_nil, eqptr_ptr, Nat.zero_add, Nat.add_zero, qPL0, qPL1, qPL2, qPL3, qPL4, qPL5, beq_self_eq_true, qED0, qED1, placeR]
        exact ⟨_, _, rfl, rfl, by rw [show w0 - (i + 1) = w by omega], by rw [show w0 - (i + 1) = w by omega]; exact h3⟩
      · right
        have d2 : decide (((w + 1 : Nat) : Int) * F > 30) = false := decide_eq_false g2
        rw [if_neg (by omega)] at h3
        rw [h3]
        simp only [M42, M42r0, M42b0, E42, S42, ofC, Of5.cells, d1, d2, wm, h44, i64_mul, qES0, qES1, qES2, env0, List.length_cons, List.length_nil, Nat.reduceAdd, Nat.reduceSub, List.replicate, List.cons_append, List.nil_append, opd, Env.put, Env.at, List.set_cons_zero, List.set_cons_succ, List.getD_cons_zero, List.getD_cons_succ, freezeL, resVs, oneOr, Option.map_some, Option.map_none, List.map_cons, List.map_nil, if_true, if_false, Bool.not_true, Bool.not_false, Bool.false_eq_true, reduceIte, decide_true, decide_false, Int.reduceLT, Int.reduceLE, Int.reduceGT, Int.reduceGE, Int.reduceEq, Int.reduceBEq, Int.reduceBNe, load_ptr, ldV_some, cellAt_cells, List.getElem?_cons_zero, List.getElem?_cons_succ, store_ptr, stO_some, setAt_0, setAt_1, setAt_2, setAt_3, setAt_4, setAt_5, setAt_6, setAt_7, setAt_8, setAt_9, setAt_10, setAt_11, setAt_12, cells_int, cells_bool, cells_str, cells_nils, cells_nilp, cells_ptr, cells_sl, cells_u8, cells_u16, cells_agg, get_upd_is, Option.isSome_some, upd_upd, ev1_nchkV, ev1_faV, nchkV_ptr, faV_ptr, ev1_extV, extV_tup, eqptr_nil, eqptr_ptr, Nat.zero_add, Nat.add_zero, qPL0, qPL1, qPL2, qPL3, qPL4, qPL5, beq_self_eq_true, qED0, qED1, placeR]
        rw [drawR_ok]; case h => simp (config := { decide := true }) [calm, calmPair, calmTwo, List.range, List.range.loop, sameO_refl, plg0, plg1, plg2, plg3, plg4, plg5, plg6, plg7, plg8, plg9, plg10, plg11, plg12, plg13]
        simp only [d1, d2, wm, h44, i64_mul, qES0, qES1, qES2, env0, List.length_cons, List.length_nil, Nat.reduceAdd, Nat.reduceSub, List.replicate, List.cons_append, List.nil_append, opd, Env.put, Env.at, List.set_cons_zero, List.set_cons_succ, List.getD_cons_zero, List.getD_cons_succ, freezeL, resVs, oneOr, Option.map_some, Option.map_none, List.map_cons, List.map_nil, if_true, if_false, Bool.not_true, Bool.not_false, Bool.false_eq_true, reduceIte, decide_true, decide_false, Int.reduceLT, Int.reduceLE, Int.reduceGT, Int.reduceGE, Int.reduceEq, Int.reduceBEq, Int.reduceBNe, load_ptr, ldV_some, cellAt_cells, List.getElem?_cons_zero, List.getElem?_cons_succ, store_ptr, stO_some, setAt_0, setAt_1, setAt_2, setAt_3, setAt_4, setAt_5, setAt_6, setAt_7, setAt_8, setAt_9, setAt_10, setAt_11, setAt_12, cells_int, cells_bool, cells_str, cells_nils, cells_nilp, cells_ptr, cells_sl, cells_u8, cells_u16, cells_agg, get_upd_is, Option.isSome_some, upd_upd, ev1_nchkV, ev1_faV, nchkV_ptr, faV_ptr, ev1_extV, extV_tup, eqptr_nil, eqptr_ptr, Nat.zero_add, Nat.add_zero, qPL0, qPL1, qPL2, qPL3, qPL4, qPL5, beq_self_eq_true, qED0, qED1, placeR]
        exact ⟨by first | trivial | rfl, fun _ _ h => by cases h⟩
    · right
      have d1 : decide (((w + 1 : Nat) : Int) > 1) = false := decide_eq_false g1
      rw [if_neg (by omega)] at h3
      rw [h3]
      simp only [M42, M42r0, M42b0, E42, S42, ofC, Of5.cells, d1, wm, h44, i64_mul, qES0, qES1, qES2, env0, List.length_cons, List.length_nil, Nat.reduceAdd, Nat.reduceSub, List.replicate, List.cons_append, List.nil_append, opd, Env.put, Env.at, List.set_cons_zero, List.set_cons_succ, List.getD_cons_zero, List.getD_cons_succ, freezeL, resVs, oneOr, Option.map_some, Option.map_none, List.map_cons, List.map_nil, if_true, if_false, Bool.not_true, Bool.not_false, Bool.false_eq_true, reduceIte, decide_true, decide_false, Int.reduceLT, Int.reduceLE, Int.reduceGT, Int.reduceGE, Int.reduceEq, Int.reduceBEq, Int.reduceBNe, load_ptr, ldV_some, cellAt_cells, List.getElem?_cons_zero, List.getElem?_cons_succ, store_ptr, stO_some, setAt_0, setAt_1, setAt_2, setAt_3, setAt_4, setAt_5, setAt_6, setAt_7, setAt_8, setAt_9, setAt_10, setAt_11, setAt_12, cells_int, cells_bool, cells_str, cells_nils, cells_nilp, cells_ptr, cells_sl, cells_u8, cells_u16, cells_agg, get_upd_is, Option.isSome_some, upd_upd, ev1_nchkV, ev1_faV, nchkV_ptr, faV_ptr, ev1_extV, extV_tup, eqptr_nil, eqptr_ptr, Nat.zero_add, Nat.add_zero, qPL0, qPL1, qPL2, qPL3, qPL4, qPL5, beq_self_eq_true, qED0, qED1, placeR]
      rw [drawR_ok]; case h => simp (config := { decide := true }) [calm, calmPair, calmTwo, List.range, List.range.loop, sameO_refl, plg0, plg1, plg2, plg3, plg4, plg5, plg6, plg7, plg8, plg9, plg10, plg11, plg12, plg13]
      simp only [d1, wm, h44, i64_mul, qES0, qES1, qES2, env0, List.length_cons, List.length_nil, Nat.reduceAdd, Nat.reduceSub, List.replicate, List.cons_append, List.nil_append, opd, Env.put, Env.at, List.set_cons_zero, List.set_cons_succ, List.getD_cons_zero, List.getD_cons_succ, freezeL, resVs, oneOr, Option.map_some, Option.map_none, List.map_cons, List.map_nil, if_true, if_false, Bool.not_true, Bool.not_false, Bool.false_eq_true, reduceIte, decide_true, decide_false, Int.reduceLT, Int.reduceLE, Int.reduceGT, Int.reduceGE, Int.reduceEq, Int.reduceBEq, Int.reduceBNe, load_ptr, ldV_some, cellAt_cells, List.getElem?_cons_zero, List.getElem?_cons_succ, store_ptr, stO_some, setAt_0, setAt_1, setAt_2, setAt_3, setAt_4, setAt_5, setAt_6, setAt_7, setAt_8, setAt_9, setAt_10, setAt_11, setAt_12, cells_int, cells_bool, cells_str, cells_nils, cells_nilp, cells_ptr, cells_sl, cells_u8, cells_u16, cells_agg, get_upd_is, Option.isSome_some, upd_upd, ev1_nchkV, ev1_faV, nchkV_ptr, faV_ptr, ev1_extV, extV_tup, eqptr_nil, eqptr_ptr, Nat.zero_add, Nat.add_zero, qPL0, qPL1, qPL2, qPL3, qPL4, qPL5, beq_self_eq_true, qED0, qED1, placeR]
      exact ⟨by first | trivial | rfl, fun _ _ h => by cases h⟩
  · rintro e st ⟨h1, rfl, h3⟩
    rw [h1, Nat.sub_self]
    rw [Nat.sub_self] at h3
    have d1 : decide (((0 : Nat) : Int) > 1) = false := rfl
    rw [h3]
    simp only [M42, M42r0, M42b0, E42, S42, ofC, Of5.cells, d1, h44, i64_mul, qES0, qES1, qES2, env0, List.length_cons, List.length_nil, Nat.reduceAdd, Nat.reduceSub, List.replicate, List.cons_append, List.nil_append, opd, Env.put, Env.at, List.set_cons_zero, List.set_cons_succ, List.getD_cons_zero, List.getD_cons_succ, freezeL, resVs, oneOr, Option.map_some, Option.map_none, List.map_cons, List.map_nil, if_true, if_false, Bool.not_true, Bool.not_false, Bool.false_eq_true, reduceIte, decide_true, decide_false, Int.reduceLT, Int.reduceLE, Int.reduceGT, Int.reduceGE, Int.reduceEq, Int.reduceBEq, Int.reduceBNe, load_ptr, ldV_some, cellAt_cells, List.getElem?_cons_zero, List.getElem?_cons_succ, store_ptr, stO_some, setAt_0, setAt_1, setAt_2, setAt_3, setAt_4, setAt_5, setAt_6, setAt_7, setAt_8, setAt_9, setAt_10, setAt_11, setAt_12, cells_int, cells_bool, cells_str, cells_nils, cells_nilp, cells_ptr, cells_sl, cells_u8, cells_u16, cells_agg, get_upd_is, Option.isSome_some, upd_upd, ev1_nchkV, ev1_faV, nchkV_ptr, faV_ptr, ev1_extV, extV_tup, eqptr_nil, eqptr_ptr, Nat.zero_add, Nat.add_zero, qPL0, qPL1, qPL2, qPL3, qPL4, qPL5, beq_self_eq_true, qED0, qED1, placeR]
    rw [drawR_ok]; case h => simp (config := { decide := true }) [calm, calmPair, calmTwo, List.range, List.range.loop, sameO_refl, plg0, plg1, plg2, plg3, plg4, plg5, plg6, plg7, plg8, plg9, plg10, plg11, plg12, plg13]
    simp only [d1, h44, i64_mul, qES0, qES1, qES2, env0, List.length_cons, List.length_nil, Nat.reduceAdd, Nat.reduceSub, List.replicate, List.cons_append, List.nil_append, opd, Env.put, Env.at, List.set_cons_zero, List.set_cons_succ, List.getD_cons_zero, List.getD_cons_succ, freezeL, resVs, oneOr, Option.map_some, Option.map_none, List.map_cons, List.map_nil, if_true, if_false, Bool.not_true, Bool.not_false, Bool.false_eq_true, reduceIte, decide_true, decide_false, Int.reduceLT, Int.reduceLE, Int.reduceGT, Int.reduceGE, Int.reduceEq, Int.reduceBEq, Int.reduceBNe, load_ptr, ldV_some, cellAt_cells, List.getElem?_cons_zero, List.getElem?_cons_succ, store_ptr, stO_some, setAt_0, setAt_1, setAt_2, setAt_3, setAt_4, setAt_5, setAt_6, setAt_7, setAt_8, setAt_9, setAt_10, setAt_11, setAt_12, cells_int, cells_bool, cells_str, cells_nils, cells_nilp, cells_ptr, cells_sl, cells_u8, cells_u16, cells_agg, get_upd_is, Option.isSome_some, upd_upd, ev1_nchkV, ev1_faV, nchkV_ptr, faV_ptr, ev1_extV, extV_tup, eqptr_nil, eqptr_ptr, Nat.zero_add, Nat.add_zero, qPL0, qPL1, qPL2, qPL3, qPL4, qPL5, beq_self_eq_true, qED0, qED1, placeR]
    exact ⟨by first | trivial | rfl, fun _ _ h => by cases h⟩
theorem deal_val (m o : Of5) : valR (evA 1000 42 [.agg m.cells, .agg o.cells] St.nil) = some (if m.may ∧ o.may then .tup [.agg (dealO m o).cells, .bool true] else .tup [.agg (ofC 0 0 0 0 0), .bool false]) := by
  rw [show (1000 : Nat) = 999 + 1 from rfl, evA_in rfl tab42, show St.nil = St.nil.pl [] from rfl]
  have hm := p25 998 m
  have ho := p25 998 o
  obtain ⟨mb, ms, mw, mz, mt⟩ := m
  obtain ⟨ob, os, ow, oz, ot⟩ := o
  by_cases gm : Of5.may ⟨mb, ms, mw, mz, mt⟩
  · rw [decide_eq_true gm] at hm
    by_cases go : Of5.may ⟨ob, os, ow, oz, ot⟩
    · rw [decide_eq_true go] at ho
      rw [if_pos ⟨gm, go⟩]
      have gm' : mayP mb ms mw mz mt := gm
      have go' : mayP ob os ow oz ot := go
      unfold mayP at gm' go'
      have a1 := and_nn mb ob (by omega) (by omega) (by omega) (by omega)
      have a2 := and_nn ms os (by omega) (by omega) (by omega) (by omega)
      have hw := high_at ow (by omega) (by omega)
      have w1 : IntKind.i64.wrap (highZ ow + 1) = ((highZ ow + 1).toNat : Int) := (wrapI _ (by omega) (by omega)).trans (by omega)
      have q26 := p26 998
      have q28 := p28 998
      have q30 := p30 998
      have q32 := p32 998
      have q34 := p34 998
      have hl := deal_loop 980 ⟨mb, ms, mw, mz, mt⟩ ⟨ob, os, ow, oz, ot⟩ (baudZ (highZ (andZ mb ob))) (silentZ (lowZ (andZ ms os))) (sizeZ (highZ oz)) (lowZ ot) (highZ ow + 1).toNat (by omega) _ _ rfl rfl .undef
      simp only [Of5.cells, ofC] at hm ho
      simp only [M42, Of5.cells, ofC, hm, ho, a1, a2, w1, q26, q28, q30, q32, q34, evC_loop, qES0, qES1, qES2, env0, List.length_cons, List.length_nil, Nat.reduceAdd, Nat.reduceSub, List.replicate, List.cons_append, List.nil_append, opd, Env.put, Env.at, List.set_cons_zero, List.set_cons_succ, List.getD_cons_zero, List.getD_cons_succ, freezeL, resVs, oneOr, Option.map_some, Option.map_none, List.map_cons, List.map_nil, if_true, if_false, Bool.not_true, Bool.not_false, Bool.false_eq_true, reduceIte, decide_true, decide_false, Int.reduceLT, Int.reduceLE, Int.reduceGT, Int.reduceGE, Int.reduceEq, Int.reduceBEq, Int.reduceBNe, load_ptr, ldV_some, cellAt_cells, List.getElem?_cons_zero, List.getElem?_cons_succ, store_ptr, stO_some, setAt_0, setAt_1, setAt_2, setAt_3, setAt_4, setAt_5, setAt_6, setAt_7, setAt_8, setAt_9, setAt_10, setAt_11, setAt_12, cells_int, cells_bool, cells_str, cells_nils, cells_nilp, cells_ptr, cells_sl, cells_u8, cells_u16, cells_agg, get_upd_is, Option.isSome_some, upd_upd, ev1_nchkV, ev1_faV, nchkV_ptr, faV_ptr, ev1_extV, extV_tup, eqptr_nil, eqptr_ptr, Nat.zero_add, Nat.add_zero, qPL0, qPL1, qPL2, qPL3, qPL4, qPL5, beq_self_eq_true, qED0, qED1, placeR]
      rw [drawR_ok]; case h => simp (config := { decide := true }) [calm, calmPair, calmTwo, List.range, List.range.loop, sameO_refl, plg0, plg1, plg2, plg3, plg4, plg5, plg6, plg7, plg8, plg9, plg10, plg11, plg12, plg13]
      simp only [hm, ho, a1, a2, w1, q26, q28, q30, q32, q34, evC_loop, qES0, qES1, qES2, env0, List.length_cons, List.length_nil, Nat.reduceAdd, Nat.reduceSub, List.replicate, List.cons_append, List.nil_append, opd, Env.put, Env.at, List.set_cons_zero, List.set_cons_succ, List.getD_cons_zero, List.getD_cons_succ, freezeL, resVs, oneOr, Option.map_some, Option.map_none, List.map_cons, List.map_nil, if_true, if_false, Bool.not_true, Bool.not_false, Bool.false_eq_true, reduceIte, decide_true, decide_false, Int.reduceLT, Int.reduceLE, Int.reduceGT, Int.reduceGE, Int.reduceEq, Int.reduceBEq, Int.reduceBNe, load_ptr, ldV_some, cellAt_cells, List.getElem?_cons_zero, List.getElem?_cons_succ, store_ptr, stO_some, setAt_0, setAt_1, setAt_2, setAt_3, setAt_4, setAt_5, setAt_6, setAt_7, setAt_8, setAt_9, setAt_10, setAt_11, setAt_12, cells_int, cells_bool, cells_str, cells_nils, cells_nilp, cells_ptr, cells_sl, cells_u8, cells_u16, cells_agg, get_upd_is, Option.isSome_some, upd_upd, ev1_nchkV, ev1_faV, nchkV_ptr, faV_ptr, ev1_extV, extV_tup, eqptr_nil, eqptr_ptr, Nat.zero_add, Nat.add_zero, qPL0, qPL1, qPL2, qPL3, qPL4, qPL5, beq_self_eq_true, qED0, qED1, placeR]
      exact Eq.trans (congrArg (fun x => valR (outR _ (seqR (blockR 0 x) _))) (iter_mask _ _ _ _ E42 _ rfl)) hl
    · rw [decide_eq_false go] at ho
      rw [if_neg (fun h => go h.2)]
      simp only [Of5.cells, ofC] at hm ho
      simp only [M42, Of5.cells, ofC, hm, ho, ev1_build, fill_nil, qES0, qES1, qES2, env0, List.length_cons, List.length_nil, Nat.reduceAdd, Nat.reduceSub, List.replicate, List.cons_append, List.nil_append, opd, Env.put, Env.at, List.set_cons_zero, List.set_cons_succ, List.getD_cons_zero, List.getD_cons_succ, freezeL, resVs, oneOr, Option.map_some, Option.map_none, List.map_cons, List.map_nil, if_true, if_false, Bool.not_true, Bool.not_false, Bool.false_eq_true, reduceIte, decide_true, decide_false, Int.reduceLT, Int.reduceLE, Int.reduceGT, Int.reduceGE, Int.reduceEq, Int.reduceBEq, Int.reduceBNe, load_ptr, ldV_some, cellAt_cells, List.getElem?_cons_zero, List.getElem?_cons_succ, store_ptr, stO_some, setAt_0, setAt_1, setAt_2, setAt_3, setAt_4, setAt_5, setAt_6, setAt_7, setAt_8, setAt_9, setAt_10, setAt_11, setAt_12, cells_int, cells_bool, cells_str, cells_nils, cells_nilp, cells_ptr, cells_sl, cells_u8, cells_u16, cells_agg, get_upd_is, Option.isSome_some, upd_upd, ev1_nchkV, ev1_faV, nchkV_ptr, faV_ptr, ev1_extV, extV_tup, eqptr_nil, eqptr_ptr, Nat.zero_add, Nat.add_zero, qPL0, qPL1, qPL2, qPL3, qPL4, qPL5, beq_self_eq_true, qED0, qED1, placeR]
  · rw [decide_eq_false gm] at hm
    rw [if_neg (fun h => gm h.1)]
    simp only [Of5.cells, ofC] at hm ho
    simp only [M42, Of5.cells, ofC, hm, ev1_build, fill_nil, qES0, qES1, qES2, env0, List.length_cons, List.length_nil, Nat.reduceAdd, Nat.reduceSub, List.replicate, List.cons_append, List.nil_append, opd, Env.put, Env.at, List.set_cons_zero, List.set_cons_succ, List.getD_cons_zero, List.getD_cons_succ, freezeL, resVs, oneOr, Option.map_some, Option.map_none, List.map_cons, List.map_nil, if_true, if_false, Bool.not_true, Bool.not_false, Bool.false_eq_true, reduceIte, decide_true, decide_false, Int.reduceLT, Int.reduceLE, Int.reduceGT, Int.reduceGE, Int.reduceEq, Int.reduceBEq, Int.reduceBNe, load_ptr, ldV_some, cellAt_cells, List.getElem?_cons_zero, List.getElem?_cons_succ, store_ptr, stO_some, setAt_0, setAt_1, setAt_2, setAt_3, setAt_4, setAt_5, setAt_6, setAt_7, setAt_8, setAt_9, setAt_10, setAt_11, setAt_12, cells_int, cells_bool, cells_str, cells_nils, cells_nilp, cells_ptr, cells_sl, cells_u8, cells_u16, cells_agg, get_upd_is, Option.isSome_some, upd_upd, ev1_nchkV, ev1_faV, nchkV_ptr, faV_ptr, ev1_extV, extV_tup, eqptr_nil, eqptr_ptr, Nat.zero_add, Nat.add_zero, qPL0, qPL1, qPL2, qPL3, qPL4, qPL5, beq_self_eq_true, qED0, qED1, placeR]
end Go.Proofs.YtbeimfhodgmjhaaDoor
