/- The document's High and Low: bits one by one. No conditions. -/
import Derived.Test.YtbeimfhodgmjhaaDoorQ3
import Derived.Test.YtbeimfhodgmjhaaDoorTup
set_option linter.unusedSimpArgs false
set_option linter.unusedVariables false
set_option maxRecDepth 100000
set_option maxHeartbeats 4000000
namespace Go.Ab
open Go
theorem set_getD (e : Env) (i : Nat) (v : AV) (h : i < e.length) : (List.set e i v).getD i .undef = v := by
  rw [List.getD_eq_getElem?_getD, List.getElem?_set_self h]; rfl
end Go.Ab
namespace Go.Proofs.YtbeimfhodgmjhaaDoor
open Go Go.Ab
/-! Bits one by one. -/
theorem shr_i64 (n : Int) (i : Nat) (hi : i < 64) : binV .shr (.int .i64 n) (.int .i64 (i : Int)) = some (.int .i64 (n / ((2 ^ i : Nat) : Int))) := by
  show (if (i : Int) < 0 then none else some (AV.int .i64 (n.fdiv (2 ^ (min (Int.toNat (i : Int)) 64))))) = _
  rw [if_neg (by omega), Int.toNat_natCast, Nat.min_eq_left (by omega)]
  congr 2
  rw [show ((2 : Int) ^ i) = ((2 ^ i : Nat) : Int) by norm_cast, Int.fdiv_eq_ediv_of_nonneg _ (Int.natCast_nonneg _)]
theorem bit_low (n : Int) (i : Nat) (hi : i < 16) : decide (n / ((2 ^ i : Nat) : Int) % 2 = 1) = (n % 65536).toNat.testBit i := by
  obtain ⟨m, hm⟩ : ∃ m : Nat, n % 65536 = (m : Int) := ⟨(n % 65536).toNat, by omega⟩
  obtain ⟨q, hq⟩ : ∃ q : Int, n = 65536 * q + m := ⟨n / 65536, by omega⟩
  rw [hm, Int.toNat_natCast, Nat.testBit_eq_decide_div_mod_eq]
  apply decide_eq_decide.2
  have h2 : (65536 : Int) = ((2 ^ i : Nat) : Int) * ((2 ^ (16 - i) : Nat) : Int) := by
    rw [← Int.natCast_mul, ← Nat.pow_add, show i + (16 - i) = 16 by omega]; rfl
  have hp : (0 : Int) < ((2 ^ i : Nat) : Int) := by exact_mod_cast Nat.pow_pos (by omega)
  have h3 : n / ((2 ^ i : Nat) : Int) = ((2 ^ (16 - i) : Nat) : Int) * q + ((m / 2 ^ i : Nat) : Int) := by
    rw [hq, h2, Int.mul_assoc, Int.mul_add_ediv_left _ _ (by omega)]
    rw [Int.natCast_ediv]
  have h4 : ∃ r : Nat, 2 ^ (16 - i) = 2 * r := ⟨2 ^ (15 - i), by rw [show 16 - i = (15 - i) + 1 by omega, Nat.pow_succ]; omega⟩
  obtain ⟨r, hr⟩ := h4
  rw [h3, hr]
  obtain ⟨y, hy⟩ : ∃ y : Int, y = (r : Int) * q := ⟨_, rfl⟩
  have : ((2 * r : Nat) : Int) * q = 2 * y := by rw [hy]; push_cast; rw [Int.mul_assoc]
  rw [this]
  omega
theorem at_ev (k : Nat) (n : Int) (i : Nat) (hi : i < 16) (s : St) : evT (k + 1) 64 [.int .i64 n, .int .i64 (i : Int)] s = some (.bool ((n % 65536).toNat.testBit i), s) := by
  rw [evT_in rfl tab64]
  have h1 := shr_i64 n i (by omega)
  have h2 := and_1 (n / ((2 ^ i : Nat) : Int))
  have h3 := bit_low n i hi
  simp only [M64, h1, h2, qES0, qES1, qES2, env0, List.length_cons, List.length_nil, Nat.reduceAdd, Nat.reduceSub, List.replicate, List.cons_append, List.nil_append, opd, Env.put, Env.at, List.set_cons_zero, List.set_cons_succ, List.getD_cons_zero, List.getD_cons_succ, freezeL, resVs, oneOr, Option.map_some, Option.map_none, List.map_cons, List.map_nil, if_true, if_false, Bool.not_true, Bool.not_false, Bool.false_eq_true, reduceIte, decide_true, decide_false, Int.reduceLT, Int.reduceLE, Int.reduceGT, Int.reduceGE, Int.reduceEq, Int.reduceBEq, Int.reduceBNe, load_ptr, ldV_some, cellAt_cells, List.getElem?_cons_zero, List.getElem?_cons_succ, store_ptr, stO_some, setAt_0, setAt_1, setAt_2, setAt_3, setAt_4, setAt_5, setAt_6, setAt_7, setAt_8, setAt_9, setAt_10, setAt_11, setAt_12, cells_int, cells_bool, cells_str, cells_nils, cells_nilp, cells_ptr, cells_sl, cells_u8, cells_u16, cells_agg, get_upd_is, Option.isSome_some, upd_upd, ev1_nchkV, ev1_faV, nchkV_ptr, faV_ptr, ev1_extV, extV_tup, eqptr_nil, eqptr_ptr, Nat.zero_add, Nat.add_zero, qPL0, qPL1, qPL2, qPL3, qPL4, qPL5, beq_self_eq_true]
  rw [← h3]
  congr 2
def E27 (n j : Int) : Env := [.int .i64 n, .undef, .undef, .int .i64 j, .undef, .undef, .undef, .undef, .undef, .undef, .undef, .undef]
theorem rhigh_ev (k : Nat) (n : Int) (s : St) : evT (k + 30) 27 [.int .i64 n] s = some (.int .i64 (highZ n), s) := by
  rw [show k + 30 = (k + 29) + 1 from rfl, evT_in rfl tab27]
  obtain ⟨m, hm⟩ : ∃ m : Nat, (n % 65536).toNat = m := ⟨_, rfl⟩
  have hat := fun (i : Nat) (hi : i < 16) => at_ev (k + 28) n i hi s
  rw [hm] at hat
  obtain ⟨R, hR⟩ : ∃ R, hiW m 16 = R := ⟨_, rfl⟩
  obtain ⟨out, ho, hp⟩ : ∃ out, iter (evC tabGl (evT (k + 29)) (k + 29) M27b0) M27b0l (k + 29) (E27 n 15) s = out ∧ ((∃ e', out = some (.ret, e', s) ∧ e'.getD 2 .undef = .int .i64 (R)) ∨ (∃ e', out = some (.exit 0, e', s) ∧ e'.length = 12 ∧ R = -1)) := by
    refine ⟨_, rfl, iter_leave (evC tabGl (evT (k + 29)) (k + 29) M27b0) M27b0l (fun i e st => maskE M27b0l e = E27 n (15 - (i : Int)) ∧ st = s ∧ R = hiW m (16 - i)) (fun out => (∃ e', out = some (.ret, e', s) ∧ e'.getD 2 .undef = .int .i64 (R)) ∨ (∃ e', out = some (.exit 0, e', s) ∧ e'.length = 12 ∧ R = -1)) 16 ?_ ?_ 16 0 _ _ (k + 29) rfl ⟨rfl, rfl, hR.symm⟩ (by omega)⟩
    · rintro i e st hi ⟨h1, rfl, h3⟩
      rw [h1]
      obtain ⟨j, hj⟩ : ∃ j : Nat, 15 - i = j := ⟨_, rfl⟩
      have hj2 : 15 - (i : Int) = (j : Int) := by omega
      have d : decide ((j : Int) ≥ 0) = true := decide_eq_true (by omega)
      have w : IntKind.i64.wrap ((j : Int) - 1) = (j : Int) - 1 := wrapI _ (by omega) (by omega)
      have ha := hat j (by omega)
      rw [show 16 - i = j + 1 by omega] at h3
      unfold hiW at h3
      rw [hj2]
      cases hb : m.testBit j with
      | true =>
        right
        rw [hb] at ha h3
        rw [if_pos rfl] at h3
        simp only [M27b0, E27, d, ha, qES0, qES1, qES2, env0, List.length_cons, List.length_nil, Nat.reduceAdd, Nat.reduceSub, List.replicate, List.cons_append, List.nil_append, opd, Env.put, Env.at, List.set_cons_zero, List.set_cons_succ, List.getD_cons_zero, List.getD_cons_succ, freezeL, resVs, oneOr, Option.map_some, Option.map_none, List.map_cons, List.map_nil, if_true, if_false, Bool.not_true, Bool.not_false, Bool.false_eq_true, reduceIte, decide_true, decide_false, Int.reduceLT, Int.reduceLE, Int.reduceGT, Int.reduceGE, Int.reduceEq, Int.reduceBEq, Int.reduceBNe, load_ptr, ldV_some, cellAt_cells, List.getElem?_cons_zero, List.getElem?_cons_succ, store_ptr, stO_some, setAt_0, setAt_1, setAt_2, setAt_3, setAt_4, setAt_5, setAt_6, setAt_7, setAt_8, setAt_9, setAt_10, setAt_11, setAt_12, cells_int, cells_bool, cells_str, cells_nils, cells_nilp, cells_ptr, cells_sl, cells_u8, cells_u16, cells_agg, get_upd_is, Option.isSome_some, upd_upd, ev1_nchkV, ev1_faV, nchkV_ptr, faV_ptr, ev1_extV, extV_tup, eqptr_nil, eqptr_ptr, Nat.zero_add, Nat.add_zero, qPL0, qPL1, qPL2, qPL3, qPL4, qPL5, beq_self_eq_true]
        refine ⟨.inl ⟨_, rfl, ?_⟩, fun _ _ h => by cases h⟩
        rw [h3]; rfl
      | false =>
        left
        rw [hb] at ha h3
        rw [if_neg (by decide)] at h3
        simp only [M27b0, E27, d, ha, w, qES0, qES1, qES2, env0, List.length_cons, List.length_nil, Nat.reduceAdd, Nat.reduceSub, List.replicate, List.cons_append, List.nil_append, opd, Env.put, Env.at, List.set_cons_zero, List.set_cons_succ, List.getD_cons_zero, List.getD_cons_succ, freezeL, resVs, oneOr, Option.map_some, Option.map_none, List.map_cons, List.map_nil, if_true, if_false, Bool.not_true, Bool.not_false, Bool.false_eq_true, reduceIte, decide_true, decide_false, Int.reduceLT, Int.reduceLE, Int.reduceGT, Int.reduceGE, Int.reduceEq, Int.reduceBEq, Int.reduceBNe, load_ptr, ldV_some, cellAt_cells, List.getElem?_cons_zero, List.getElem?_cons_succ, store_ptr, stO_some, setAt_0, setAt_1, setAt_2, setAt_3, setAt_4, setAt_5, setAt_6, setAt_7, setAt_8, setAt_9, setAt_10, setAt_11, setAt_12, cells_int, cells_bool, cells_str, cells_nils, cells_nilp, cells_ptr, cells_sl, cells_u8, cells_u16, cells_agg, get_upd_is, Option.isSome_some, upd_upd, ev1_nchkV, ev1_faV, nchkV_ptr, faV_ptr, ev1_extV, extV_tup, eqptr_nil, eqptr_ptr, Nat.zero_add, Nat.add_zero, qPL0, qPL1, qPL2, qPL3, qPL4, qPL5, beq_self_eq_true]
        refine ⟨_, _, rfl, ?_, rfl, ?_⟩
        · show E27 n ((j : Int) - 1) = E27 n (15 - ((i + 1 : Nat) : Int))
          congr 1; omega
        · rw [h3]; congr 1; omega
    · rintro e st ⟨h1, rfl, h3⟩
      rw [h1]
      have d : decide ((15 - ((16 : Nat) : Int)) ≥ 0) = false := rfl
      simp only [M27b0, E27, d, qES0, qES1, qES2, env0, List.length_cons, List.length_nil, Nat.reduceAdd, Nat.reduceSub, List.replicate, List.cons_append, List.nil_append, opd, Env.put, Env.at, List.set_cons_zero, List.set_cons_succ, List.getD_cons_zero, List.getD_cons_succ, freezeL, resVs, oneOr, Option.map_some, Option.map_none, List.map_cons, List.map_nil, if_true, if_false, Bool.not_true, Bool.not_false, Bool.false_eq_true, reduceIte, decide_true, decide_false, Int.reduceLT, Int.reduceLE, Int.reduceGT, Int.reduceGE, Int.reduceEq, Int.reduceBEq, Int.reduceBNe, load_ptr, ldV_some, cellAt_cells, List.getElem?_cons_zero, List.getElem?_cons_succ, store_ptr, stO_some, setAt_0, setAt_1, setAt_2, setAt_3, setAt_4, setAt_5, setAt_6, setAt_7, setAt_8, setAt_9, setAt_10, setAt_11, setAt_12, cells_int, cells_bool, cells_str, cells_nils, cells_nilp, cells_ptr, cells_sl, cells_u8, cells_u16, cells_agg, get_upd_is, Option.isSome_some, upd_upd, ev1_nchkV, ev1_faV, nchkV_ptr, faV_ptr, ev1_extV, extV_tup, eqptr_nil, eqptr_ptr, Nat.zero_add, Nat.add_zero, qPL0, qPL1, qPL2, qPL3, qPL4, qPL5, beq_self_eq_true]
      exact ⟨.inr ⟨_, rfl, rfl, h3⟩, fun _ _ h => by cases h⟩
  have hl := iter_to rfl ho
  have e : highZ n = R := by unfold highZ; rw [hm, hR]
  rw [e]
  simp only [M27, evC_loop, qES0, qES1, qES2, env0, List.length_cons, List.length_nil, Nat.reduceAdd, Nat.reduceSub, List.replicate, List.cons_append, List.nil_append, opd, Env.put, Env.at, List.set_cons_zero, List.set_cons_succ, List.getD_cons_zero, List.getD_cons_succ, freezeL, resVs, oneOr, Option.map_some, Option.map_none, List.map_cons, List.map_nil, if_true, if_false, Bool.not_true, Bool.not_false, Bool.false_eq_true, reduceIte, decide_true, decide_false, Int.reduceLT, Int.reduceLE, Int.reduceGT, Int.reduceGE, Int.reduceEq, Int.reduceBEq, Int.reduceBNe, load_ptr, ldV_some, cellAt_cells, List.getElem?_cons_zero, List.getElem?_cons_succ, store_ptr, stO_some, setAt_0, setAt_1, setAt_2, setAt_3, setAt_4, setAt_5, setAt_6, setAt_7, setAt_8, setAt_9, setAt_10, setAt_11, setAt_12, cells_int, cells_bool, cells_str, cells_nils, cells_nilp, cells_ptr, cells_sl, cells_u8, cells_u16, cells_agg, get_upd_is, Option.isSome_some, upd_upd, ev1_nchkV, ev1_faV, nchkV_ptr, faV_ptr, ev1_extV, extV_tup, eqptr_nil, eqptr_ptr, Nat.zero_add, Nat.add_zero, qPL0, qPL1, qPL2, qPL3, qPL4, qPL5, beq_self_eq_true]
  rw [hl _ rfl]
  rcases hp with ⟨e', rfl, h2⟩ | ⟨e', rfl, h2, h3⟩
  · simp only [M27r0, h2, qES0, qES1, qES2, env0, List.length_cons, List.length_nil, Nat.reduceAdd, Nat.reduceSub, List.replicate, List.cons_append, List.nil_append, opd, Env.put, Env.at, List.set_cons_zero, List.set_cons_succ, List.getD_cons_zero, List.getD_cons_succ, freezeL, resVs, oneOr, Option.map_some, Option.map_none, List.map_cons, List.map_nil, if_true, if_false, Bool.not_true, Bool.not_false, Bool.false_eq_true, reduceIte, decide_true, decide_false, Int.reduceLT, Int.reduceLE, Int.reduceGT, Int.reduceGE, Int.reduceEq, Int.reduceBEq, Int.reduceBNe, load_ptr, ldV_some, cellAt_cells, List.getElem?_cons_zero, List.getElem?_cons_succ, store_ptr, stO_some, setAt_0, setAt_1, setAt_2, setAt_3, setAt_4, setAt_5, setAt_6, setAt_7, setAt_8, setAt_9, setAt_10, setAt_11, setAt_12, cells_int, cells_bool, cells_str, cells_nils, cells_nilp, cells_ptr, cells_sl, cells_u8, cells_u16, cells_agg, get_upd_is, Option.isSome_some, upd_upd, ev1_nchkV, ev1_faV, nchkV_ptr, faV_ptr, ev1_extV, extV_tup, eqptr_nil, eqptr_ptr, Nat.zero_add, Nat.add_zero, qPL0, qPL1, qPL2, qPL3, qPL4, qPL5, beq_self_eq_true]
  · have h4 := set_getD e' 2 (.int .i64 (-1)) (by omega)
    simp only [M27r0, h3, h4, qES0, qES1, qES2, env0, List.length_cons, List.length_nil, Nat.reduceAdd, Nat.reduceSub, List.replicate, List.cons_append, List.nil_append, opd, Env.put, Env.at, List.set_cons_zero, List.set_cons_succ, List.getD_cons_zero, List.getD_cons_succ, freezeL, resVs, oneOr, Option.map_some, Option.map_none, List.map_cons, List.map_nil, if_true, if_false, Bool.not_true, Bool.not_false, Bool.false_eq_true, reduceIte, decide_true, decide_false, Int.reduceLT, Int.reduceLE, Int.reduceGT, Int.reduceGE, Int.reduceEq, Int.reduceBEq, Int.reduceBNe, load_ptr, ldV_some, cellAt_cells, List.getElem?_cons_zero, List.getElem?_cons_succ, store_ptr, stO_some, setAt_0, setAt_1, setAt_2, setAt_3, setAt_4, setAt_5, setAt_6, setAt_7, setAt_8, setAt_9, setAt_10, setAt_11, setAt_12, cells_int, cells_bool, cells_str, cells_nils, cells_nilp, cells_ptr, cells_sl, cells_u8, cells_u16, cells_agg, get_upd_is, Option.isSome_some, upd_upd, ev1_nchkV, ev1_faV, nchkV_ptr, faV_ptr, ev1_extV, extV_tup, eqptr_nil, eqptr_ptr, Nat.zero_add, Nat.add_zero, qPL0, qPL1, qPL2, qPL3, qPL4, qPL5, beq_self_eq_true]
theorem rlow_ev (k : Nat) (n : Int) (s : St) : evT (k + 30) 29 [.int .i64 n] s = some (.int .i64 (lowZ n), s) := by
  rw [show k + 30 = (k + 29) + 1 from rfl, evT_in rfl tab29]
  obtain ⟨m, hm⟩ : ∃ m : Nat, (n % 65536).toNat = m := ⟨_, rfl⟩
  have hat := fun (i : Nat) (hi : i < 16) => at_ev (k + 28) n i hi s
  rw [hm] at hat
  obtain ⟨R, hR⟩ : ∃ R, loW m 16 0 = R := ⟨_, rfl⟩
  obtain ⟨out, ho, hp⟩ : ∃ out, iter (evC tabGl (evT (k + 29)) (k + 29) M29b0) M29b0l (k + 29) (E27 n 0) s = out ∧ ((∃ e', out = some (.ret, e', s) ∧ e'.getD 2 .undef = .int .i64 (R)) ∨ (∃ e', out = some (.exit 0, e', s) ∧ e'.length = 12 ∧ R = -1)) := by
    refine ⟨_, rfl, iter_leave (evC tabGl (evT (k + 29)) (k + 29) M29b0) M29b0l (fun i e st => maskE M29b0l e = E27 n (i : Int) ∧ st = s ∧ R = loW m (16 - i) i) (fun out => (∃ e', out = some (.ret, e', s) ∧ e'.getD 2 .undef = .int .i64 (R)) ∨ (∃ e', out = some (.exit 0, e', s) ∧ e'.length = 12 ∧ R = -1)) 16 ?_ ?_ 16 0 _ _ (k + 29) rfl ⟨rfl, rfl, hR.symm⟩ (by omega)⟩
    · rintro j e st hi ⟨h1, rfl, h3⟩
      rw [h1]
      have d : decide ((j : Int) ≤ 15) = true := decide_eq_true (by omega)
      have w : IntKind.i64.wrap ((j : Int) + 1) = ((j + 1 : Nat) : Int) := (wrapI _ (by omega) (by omega)).trans (by omega)
      have ha := hat j (by omega)
      rw [show 16 - j = (15 - j) + 1 by omega] at h3
      unfold loW at h3
      cases hb : m.testBit j with
      | true =>
        right
        rw [hb] at ha h3
        rw [if_pos rfl] at h3
        simp only [M29b0, E27, d, ha, qES0, qES1, qES2, env0, List.length_cons, List.length_nil, Nat.reduceAdd, Nat.reduceSub, List.replicate, List.cons_append, List.nil_append, opd, Env.put, Env.at, List.set_cons_zero, List.set_cons_succ, List.getD_cons_zero, List.getD_cons_succ, freezeL, resVs, oneOr, Option.map_some, Option.map_none, List.map_cons, List.map_nil, if_true, if_false, Bool.not_true, Bool.not_false, Bool.false_eq_true, reduceIte, decide_true, decide_false, Int.reduceLT, Int.reduceLE, Int.reduceGT, Int.reduceGE, Int.reduceEq, Int.reduceBEq, Int.reduceBNe, load_ptr, ldV_some, cellAt_cells, List.getElem?_cons_zero, List.getElem?_cons_succ, store_ptr, stO_some, setAt_0, setAt_1, setAt_2, setAt_3, setAt_4, setAt_5, setAt_6, setAt_7, setAt_8, setAt_9, setAt_10, setAt_11, setAt_12, cells_int, cells_bool, cells_str, cells_nils, cells_nilp, cells_ptr, cells_sl, cells_u8, cells_u16, cells_agg, get_upd_is, Option.isSome_some, upd_upd, ev1_nchkV, ev1_faV, nchkV_ptr, faV_ptr, ev1_extV, extV_tup, eqptr_nil, eqptr_ptr, Nat.zero_add, Nat.add_zero, qPL0, qPL1, qPL2, qPL3, qPL4, qPL5, beq_self_eq_true]
        refine ⟨.inl ⟨_, rfl, ?_⟩, fun _ _ h => by cases h⟩
        rw [h3]; rfl
      | false =>
        left
        rw [hb] at ha h3
        rw [if_neg (by decide)] at h3
        simp only [M29b0, E27, d, ha, w, qES0, qES1, qES2, env0, List.length_cons, List.length_nil, Nat.reduceAdd, Nat.reduceSub, List.replicate, List.cons_append, List.nil_append, opd, Env.put, Env.at, List.set_cons_zero, List.set_cons_succ, List.getD_cons_zero, List.getD_cons_succ, freezeL, resVs, oneOr, Option.map_some, Option.map_none, List.map_cons, List.map_nil, if_true, if_false, Bool.not_true, Bool.not_false, Bool.false_eq_true, reduceIte, decide_true, decide_false, Int.reduceLT, Int.reduceLE, Int.reduceGT, Int.reduceGE, Int.reduceEq, Int.reduceBEq, Int.reduceBNe, load_ptr, ldV_some, cellAt_cells, List.getElem?_cons_zero, List.getElem?_cons_succ, store_ptr, stO_some, setAt_0, setAt_1, setAt_2, setAt_3, setAt_4, setAt_5, setAt_6, setAt_7, setAt_8, setAt_9, setAt_10, setAt_11, setAt_12, cells_int, cells_bool, cells_str, cells_nils, cells_nilp, cells_ptr, cells_sl, cells_u8, cells_u16, cells_agg, get_upd_is, Option.isSome_some, upd_upd, ev1_nchkV, ev1_faV, nchkV_ptr, faV_ptr, ev1_extV, extV_tup, eqptr_nil, eqptr_ptr, Nat.zero_add, Nat.add_zero, qPL0, qPL1, qPL2, qPL3, qPL4, qPL5, beq_self_eq_true]
        refine ⟨_, _, rfl, rfl, rfl, ?_⟩
        rw [h3]; congr 1; omega
    · rintro e st ⟨h1, rfl, h3⟩
      rw [h1]
      have d : decide (((16 : Nat) : Int) ≤ 15) = false := rfl
      simp only [M29b0, E27, d, qES0, qES1, qES2, env0, List.length_cons, List.length_nil, Nat.reduceAdd, Nat.reduceSub, List.replicate, List.cons_append, List.nil_append, opd, Env.put, Env.at, List.set_cons_zero, List.set_cons_succ, List.getD_cons_zero, List.getD_cons_succ, freezeL, resVs, oneOr, Option.map_some, Option.map_none, List.map_cons, List.map_nil, if_true, if_false, Bool.not_true, Bool.not_false, Bool.false_eq_true, reduceIte, decide_true, decide_false, Int.reduceLT, Int.reduceLE, Int.reduceGT, Int.reduceGE, Int.reduceEq, Int.reduceBEq, Int.reduceBNe, load_ptr, ldV_some, cellAt_cells, List.getElem?_cons_zero, List.getElem?_cons_succ, store_ptr, stO_some, setAt_0, setAt_1, setAt_2, setAt_3, setAt_4, setAt_5, setAt_6, setAt_7, setAt_8, setAt_9, setAt_10, setAt_11, setAt_12, cells_int, cells_bool, cells_str, cells_nils, cells_nilp, cells_ptr, cells_sl, cells_u8, cells_u16, cells_agg, get_upd_is, Option.isSome_some, upd_upd, ev1_nchkV, ev1_faV, nchkV_ptr, faV_ptr, ev1_extV, extV_tup, eqptr_nil, eqptr_ptr, Nat.zero_add, Nat.add_zero, qPL0, qPL1, qPL2, qPL3, qPL4, qPL5, beq_self_eq_true]
      exact ⟨.inr ⟨_, rfl, rfl, h3⟩, fun _ _ h => by cases h⟩
  have hl := iter_to rfl ho
  have e : lowZ n = R := by unfold lowZ; rw [hm, hR]
  rw [e]
  simp only [M29, evC_loop, qES0, qES1, qES2, env0, List.length_cons, List.length_nil, Nat.reduceAdd, Nat.reduceSub, List.replicate, List.cons_append, List.nil_append, opd, Env.put, Env.at, List.set_cons_zero, List.set_cons_succ, List.getD_cons_zero, List.getD_cons_succ, freezeL, resVs, oneOr, Option.map_some, Option.map_none, List.map_cons, List.map_nil, if_true, if_false, Bool.not_true, Bool.not_false, Bool.false_eq_true, reduceIte, decide_true, decide_false, Int.reduceLT, Int.reduceLE, Int.reduceGT, Int.reduceGE, Int.reduceEq, Int.reduceBEq, Int.reduceBNe, load_ptr, ldV_some, cellAt_cells, List.getElem?_cons_zero, List.getElem?_cons_succ, store_ptr, stO_some, setAt_0, setAt_1, setAt_2, setAt_3, setAt_4, setAt_5, setAt_6, setAt_7, setAt_8, setAt_9, setAt_10, setAt_11, setAt_12, cells_int, cells_bool, cells_str, cells_nils, cells_nilp, cells_ptr, cells_sl, cells_u8, cells_u16, cells_agg, get_upd_is, Option.isSome_some, upd_upd, ev1_nchkV, ev1_faV, nchkV_ptr, faV_ptr, ev1_extV, extV_tup, eqptr_nil, eqptr_ptr, Nat.zero_add, Nat.add_zero, qPL0, qPL1, qPL2, qPL3, qPL4, qPL5, beq_self_eq_true]
  rw [hl _ rfl]
  rcases hp with ⟨e', rfl, h2⟩ | ⟨e', rfl, h2, h3⟩
  · simp only [M29r0, h2, qES0, qES1, qES2, env0, List.length_cons, List.length_nil, Nat.reduceAdd, Nat.reduceSub, List.replicate, List.cons_append, List.nil_append, opd, Env.put, Env.at, List.set_cons_zero, List.set_cons_succ, List.getD_cons_zero, List.getD_cons_succ, freezeL, resVs, oneOr, Option.map_some, Option.map_none, List.map_cons, List.map_nil, if_true, if_false, Bool.not_true, Bool.not_false, Bool.false_eq_true, reduceIte, decide_true, decide_false, Int.reduceLT, Int.reduceLE, Int.reduceGT, Int.reduceGE, Int.reduceEq, Int.reduceBEq, Int.reduceBNe, load_ptr, ldV_some, cellAt_cells, List.getElem?_cons_zero, List.getElem?_cons_succ, store_ptr, stO_some, setAt_0, setAt_1, setAt_2, setAt_3, setAt_4, setAt_5, setAt_6, setAt_7, setAt_8, setAt_9, setAt_10, setAt_11, setAt_12, cells_int, cells_bool, cells_str, cells_nils, cells_nilp, cells_ptr, cells_sl, cells_u8, cells_u16, cells_agg, get_upd_is, Option.isSome_some, upd_upd, ev1_nchkV, ev1_faV, nchkV_ptr, faV_ptr, ev1_extV, extV_tup, eqptr_nil, eqptr_ptr, Nat.zero_add, Nat.add_zero, qPL0, qPL1, qPL2, qPL3, qPL4, qPL5, beq_self_eq_true]
  · have h4 := set_getD e' 2 (.int .i64 (-1)) (by omega)
    simp only [M29r0, h3, h4, qES0, qES1, qES2, env0, List.length_cons, List.length_nil, Nat.reduceAdd, Nat.reduceSub, List.replicate, List.cons_append, List.nil_append, opd, Env.put, Env.at, List.set_cons_zero, List.set_cons_succ, List.getD_cons_zero, List.getD_cons_succ, freezeL, resVs, oneOr, Option.map_some, Option.map_none, List.map_cons, List.map_nil, if_true, if_false, Bool.not_true, Bool.not_false, Bool.false_eq_true, reduceIte, decide_true, decide_false, Int.reduceLT, Int.reduceLE, Int.reduceGT, Int.reduceGE, Int.reduceEq, Int.reduceBEq, Int.reduceBNe, load_ptr, ldV_some, cellAt_cells, List.getElem?_cons_zero, List.getElem?_cons_succ, store_ptr, stO_some, setAt_0, setAt_1, setAt_2, setAt_3, setAt_4, setAt_5, setAt_6, setAt_7, setAt_8, setAt_9, setAt_10, setAt_11, setAt_12, cells_int, cells_bool, cells_str, cells_nils, cells_nilp, cells_ptr, cells_sl, cells_u8, cells_u16, cells_agg, get_upd_is, Option.isSome_some, upd_upd, ev1_nchkV, ev1_faV, nchkV_ptr, faV_ptr, ev1_extV, extV_tup, eqptr_nil, eqptr_ptr, Nat.zero_add, Nat.add_zero, qPL0, qPL1, qPL2, qPL3, qPL4, qPL5, beq_self_eq_true]
end Go.Proofs.YtbeimfhodgmjhaaDoor
