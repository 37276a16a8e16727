/- The document's rune at the front of a text, a rune's kind, a name: as the evaluator answers them. No conditions. -/
import Derived.Test.YthcblggiojpmcaaDoorNk
import Derived.Test.YthcblggiojpmcaaDoorTupFind
import Derived.Test.YthcblggiojpmcaaDoorHs
import Derived.Test.YthcblggiojpmcaaDoorDec
import Derived.Test.YthcblggiojpmcaaDoorM4n
set_option linter.unusedSimpArgs false
set_option linter.unusedVariables false
set_option maxRecDepth 100000
set_option maxHeartbeats 4000000
namespace Go.Proofs.YthcblggiojpmcaaDoor
open Go Go.Ab
theorem u8_lss' (a b : Int) : binV .lss (.int .u8 a) (.int .u8 b) = some (.bool (decide (a < b))) := (id rfl)
theorem u8_geq' (a b : Int) : binV .geq (.int .u8 a) (.int .u8 b) = some (.bool (decide (a ≥ b))) := (id rfl)
def runeV (r : Int × Nat × Bool) : AV := .tup [.int .i64 r.1, .int .i64 (r.2.1 : Nat), .bool r.2.2]
def ER (l : List UInt8) (n : Nat) (least r i : Int) : Env := [.str l, .undef, .undef, .undef, .undef, .undef, .int .i64 (n : Nat), .int .i64 least, .int .i64 r, .int .i64 i, .undef, .undef, .undef, .undef, .undef, .undef, .undef, .undef, .undef, .undef, .undef, .undef, .undef, .undef, .undef, .undef, .undef, .undef, .undef, .undef, .undef, .undef, .undef, .undef, .undef, .undef, .undef, .undef, .undef, .undef, .undef, .undef, .undef, .undef, .undef, .undef, .undef, .undef, .undef, .undef, .undef, .undef, .undef, .undef, .undef, .undef, .undef, .undef, .undef, .undef, .undef, .undef, .undef, .undef, .undef, .undef, .undef, .undef, .undef, .undef, .undef, .undef, .undef, .undef, .undef, .undef, .undef, .undef, .undef, .undef, .undef, .undef, .undef, .undef, .undef, .undef, .undef, .undef, .undef, .undef, .undef]
def bdR : Nat → Int
  | 0 => 32
  | j + 1 => bdR j * 64
theorem bdR_le (j : Nat) (h : j < 3) : bdR j ≤ 131072 := by
  match j, h with
  | 0, _ => decide
  | 1, _ => decide
  | 2, _ => decide
section
variable (k : Nat) (b : UInt8) (t : List UInt8) (n : Nat) (hn : n ≤ 4) (hn2 : 2 ≤ n) (least : Int) (S : St)
include hn hn2
theorem rune1_loop (r0 : Int) (h0 : 0 ≤ r0) (h1 : r0 < 32) : ∀ e, maskE M64b0l e = ER (b :: t) n least r0 1 →
    outR M64.res (seqR (blockR 1 (iter (evC tabGl (evT (k + 5)) (k + 5) M64b0) M64b0l (k + 5) e S)) (evC tabGl (evT (k + 5)) (k + 5) M64r0)) = some (runeV (finR n least (scanR (n - 1) r0 t)), S) := by
  intro e he
  obtain ⟨R, hR⟩ : ∃ R, finR n least (scanR (n - 1) r0 t) = R := ⟨_, rfl⟩
  rw [hR]
  refine iter_leave (evC tabGl (evT (k + 5)) (k + 5) M64b0) M64b0l (fun j e st => ∃ r, maskE M64b0l e = ER (b :: t) n least r ((j : Int) + 1) ∧ st = S ∧ 0 ≤ r ∧ r < bdR j ∧ R = finR n least (scanR (n - 1 - j) r (t.drop j)))
    (fun out => outR M64.res (seqR (blockR 1 out) (evC tabGl (evT (k + 5)) (k + 5) M64r0)) = some (runeV R, S)) (n - 1) ?_ ?_ (n - 1) 0 _ _ (k + 5) (by omega) ⟨r0, he, rfl, h0, h1, hR.symm⟩ (by omega)
  · rintro j e st hj ⟨r, h1, rfl, h3, h4, h5⟩
    rw [h1]
    have hb := bdR_le j (by omega)
    have d0 : decide ((j : Int) + 1 < (n : Nat)) = true := decide_eq_true (by omega)
    have w1 : IntKind.i64.wrap ((j : Int) + 1 + 1) = ((j + 1 : Nat) : Int) + 1 := (wrapI _ (by omega) (by omega)).trans (by omega)
    have lx : lensV' (.str (b :: t)) = some (.int .i64 ((t.length + 1 : Nat))) := rfl
    by_cases g : j < t.length
    · have d1 : decide ((j : Int) + 1 ≥ ((t.length + 1 : Nat) : Int)) = false := decide_eq_false (by omega)
      have ix : ixsV (.str (b :: t)) (.int .i64 ((j : Int) + 1)) = some (.int .u8 (t[j].toNat : Int)) := by
        have := ixsV_at (b :: t) (j + 1) (by simp; omega)
        rw [show ((j + 1 : Nat) : Int) = (j : Int) + 1 by omega] at this
        exact this
      have hc := t[j].toNat_lt
      rw [List.drop_eq_getElem_cons g, show n - 1 - j = (n - 1 - (j + 1)) + 1 by omega] at h5
      unfold scanR at h5
      obtain ⟨c, hcv⟩ : ∃ c : Int, (t[j].toNat : Int) = c := ⟨_, rfl⟩
      have hc0 : 0 ≤ c ∧ c < 256 := by omega
      rw [hcv] at ix h5
      by_cases g1 : c < 128
      · right
        have d2 : decide (c < 128) = true := decide_eq_true g1
        rw [if_pos (.inl g1)] at h5
        refine ⟨?_, fun e' s' hh => ?_⟩
        · rw [h5]
          simp only [M64, M64b0, ER, d0, d1, d2, ix, lx, finR, runeV, u8_lss', u8_geq', ev1_ixsV, ev1_lensV', qES0, qES1, qES2, env0, List.length_cons, List.length_nil, Nat.reduceAdd, Nat.reduceSub, List.replicate, List.cons_append, List.nil_append, opd, Env.put, Env.at, List.set_cons_zero, List.set_cons_succ, List.getD_cons_zero, List.getD_cons_succ, freezeL, resVs, oneOr, Option.map_some, Option.map_none, List.map_cons, List.map_nil, if_true, if_false, Bool.not_true, Bool.not_false, Bool.false_eq_true, reduceIte, decide_true, decide_false, Int.reduceLT, Int.reduceLE, Int.reduceGT, Int.reduceGE, Int.reduceEq, Int.reduceBEq, Int.reduceBNe, load_ptr, ldV_some, cellAt_cells, List.getElem?_cons_zero, List.getElem?_cons_succ, store_ptr, stO_some, setAt_0, setAt_1, setAt_2, setAt_3, setAt_4, setAt_5, setAt_6, setAt_7, setAt_8, setAt_9, setAt_10, setAt_11, setAt_12, cells_int, cells_bool, cells_str, cells_nils, cells_nilp, cells_ptr, cells_sl, cells_u8, cells_u16, cells_agg, get_upd_is, Option.isSome_some, upd_upd, ev1_nchkV, ev1_faV, nchkV_ptr, faV_ptr, ev1_extV, extV_tup, eqptr_nil, eqptr_ptr, Nat.zero_add, Nat.add_zero, qPL0, qPL1, qPL2, qPL3, qPL4, qPL5, beq_self_eq_true]
          rfl
        · simp only [M64b0, ER, d0, d1, d2, ix, lx, u8_lss', u8_geq', ev1_ixsV, ev1_lensV', qES0, qES1, qES2, env0, List.length_cons, List.length_nil, Nat.reduceAdd, Nat.reduceSub, List.replicate, List.cons_append, List.nil_append, opd, Env.put, Env.at, List.set_cons_zero, List.set_cons_succ, List.getD_cons_zero, List.getD_cons_succ, freezeL, resVs, oneOr, Option.map_some, Option.map_none, List.map_cons, List.map_nil, if_true, if_false, Bool.not_true, Bool.not_false, Bool.false_eq_true, reduceIte, decide_true, decide_false, Int.reduceLT, Int.reduceLE, Int.reduceGT, Int.reduceGE, Int.reduceEq, Int.reduceBEq, Int.reduceBNe, load_ptr, ldV_some, cellAt_cells, List.getElem?_cons_zero, List.getElem?_cons_succ, store_ptr, stO_some, setAt_0, setAt_1, setAt_2, setAt_3, setAt_4, setAt_5, setAt_6, setAt_7, setAt_8, setAt_9, setAt_10, setAt_11, setAt_12, cells_int, cells_bool, cells_str, cells_nils, cells_nilp, cells_ptr, cells_sl, cells_u8, cells_u16, cells_agg, get_upd_is, Option.isSome_some, upd_upd, ev1_nchkV, ev1_faV, nchkV_ptr, faV_ptr, ev1_extV, extV_tup, eqptr_nil, eqptr_ptr, Nat.zero_add, Nat.add_zero, qPL0, qPL1, qPL2, qPL3, qPL4, qPL5, beq_self_eq_true] at hh
          cases hh
      · have d2 : decide (c < 128) = false := decide_eq_false g1
        by_cases g2 : c ≥ 192
        · right
          have d3 : decide (c ≥ 192) = true := decide_eq_true g2
          rw [if_pos (.inr g2)] at h5
          refine ⟨?_, fun e' s' hh => ?_⟩
          · rw [h5]
            simp only [M64, M64b0, ER, d0, d1, d2, d3, ix, lx, finR, runeV, u8_lss', u8_geq', ev1_ixsV, ev1_lensV', qES0, qES1, qES2, env0, List.length_cons, List.length_nil, Nat.reduceAdd, Nat.reduceSub, List.replicate, List.cons_append, List.nil_append, opd, Env.put, Env.at, List.set_cons_zero, List.set_cons_succ, List.getD_cons_zero, List.getD_cons_succ, freezeL, resVs, oneOr, Option.map_some, Option.map_none, List.map_cons, List.map_nil, if_true, if_false, Bool.not_true, Bool.not_false, Bool.false_eq_true, reduceIte, decide_true, decide_false, Int.reduceLT, Int.reduceLE, Int.reduceGT, Int.reduceGE, Int.reduceEq, Int.reduceBEq, Int.reduceBNe, load_ptr, ldV_some, cellAt_cells, List.getElem?_cons_zero, List.getElem?_cons_succ, store_ptr, stO_some, setAt_0, setAt_1, setAt_2, setAt_3, setAt_4, setAt_5, setAt_6, setAt_7, setAt_8, setAt_9, setAt_10, setAt_11, setAt_12, cells_int, cells_bool, cells_str, cells_nils, cells_nilp, cells_ptr, cells_sl, cells_u8, cells_u16, cells_agg, get_upd_is, Option.isSome_some, upd_upd, ev1_nchkV, ev1_faV, nchkV_ptr, faV_ptr, ev1_extV, extV_tup, eqptr_nil, eqptr_ptr, Nat.zero_add, Nat.add_zero, qPL0, qPL1, qPL2, qPL3, qPL4, qPL5, beq_self_eq_true]
            rfl
          · simp only [M64b0, ER, d0, d1, d2, d3, ix, lx, u8_lss', u8_geq', ev1_ixsV, ev1_lensV', qES0, qES1, qES2, env0, List.length_cons, List.length_nil, Nat.reduceAdd, Nat.reduceSub, List.replicate, List.cons_append, List.nil_append, opd, Env.put, Env.at, List.set_cons_zero, List.set_cons_succ, List.getD_cons_zero, List.getD_cons_succ, freezeL, resVs, oneOr, Option.map_some, Option.map_none, List.map_cons, List.map_nil, if_true, if_false, Bool.not_true, Bool.not_false, Bool.false_eq_true, reduceIte, decide_true, decide_false, Int.reduceLT, Int.reduceLE, Int.reduceGT, Int.reduceGE, Int.reduceEq, Int.reduceBEq, Int.reduceBNe, load_ptr, ldV_some, cellAt_cells, List.getElem?_cons_zero, List.getElem?_cons_succ, store_ptr, stO_some, setAt_0, setAt_1, setAt_2, setAt_3, setAt_4, setAt_5, setAt_6, setAt_7, setAt_8, setAt_9, setAt_10, setAt_11, setAt_12, cells_int, cells_bool, cells_str, cells_nils, cells_nilp, cells_ptr, cells_sl, cells_u8, cells_u16, cells_agg, get_upd_is, Option.isSome_some, upd_upd, ev1_nchkV, ev1_faV, nchkV_ptr, faV_ptr, ev1_extV, extV_tup, eqptr_nil, eqptr_ptr, Nat.zero_add, Nat.add_zero, qPL0, qPL1, qPL2, qPL3, qPL4, qPL5, beq_self_eq_true] at hh
            cases hh
        · left
          have d3 : decide (c ≥ 192) = false := decide_eq_false g2
          rw [if_neg (by omega)] at h5
          have w2 : IntKind.i64.wrap (r * 64) = r * 64 := wrapI _ (by omega) (by omega)
          have w3 : IntKind.i64.wrap (r * 64 + c) = r * 64 + c := wrapI _ (by omega) (by omega)
          have w4 : IntKind.i64.wrap (r * 64 + c - 128) = r * 64 + c - 128 := wrapI _ (by omega) (by omega)
          have w5 : IntKind.i64.wrap c = c := wrapI _ (by omega) (by omega)
          simp only [M64b0, ER, d0, d1, d2, d3, ix, lx, w1, w2, w3, w4, w5, u8_lss', u8_geq', i64_mul, conv_int, ev1_ixsV, ev1_lensV', qES0, qES1, qES2, env0, List.length_cons, List.length_nil, Nat.reduceAdd, Nat.reduceSub, List.replicate, List.cons_append, List.nil_append, opd, Env.put, Env.at, List.set_cons_zero, List.set_cons_succ, List.getD_cons_zero, List.getD_cons_succ, freezeL, resVs, oneOr, Option.map_some, Option.map_none, List.map_cons, List.map_nil, if_true, if_false, Bool.not_true, Bool.not_false, Bool.false_eq_true, reduceIte, decide_true, decide_false, Int.reduceLT, Int.reduceLE, Int.reduceGT, Int.reduceGE, Int.reduceEq, Int.reduceBEq, Int.reduceBNe, load_ptr, ldV_some, cellAt_cells, List.getElem?_cons_zero, List.getElem?_cons_succ, store_ptr, stO_some, setAt_0, setAt_1, setAt_2, setAt_3, setAt_4, setAt_5, setAt_6, setAt_7, setAt_8, setAt_9, setAt_10, setAt_11, setAt_12, cells_int, cells_bool, cells_str, cells_nils, cells_nilp, cells_ptr, cells_sl, cells_u8, cells_u16, cells_agg, get_upd_is, Option.isSome_some, upd_upd, ev1_nchkV, ev1_faV, nchkV_ptr, faV_ptr, ev1_extV, extV_tup, eqptr_nil, eqptr_ptr, Nat.zero_add, Nat.add_zero, qPL0, qPL1, qPL2, qPL3, qPL4, qPL5, beq_self_eq_true]
          exact ⟨_, _, rfl, r * 64 + c - 128, rfl, rfl, by omega, by show _ < bdR j * 64; omega, h5⟩
    · right
      have d1 : decide ((j : Int) + 1 ≥ ((t.length + 1 : Nat) : Int)) = true := decide_eq_true (by omega)
      rw [List.drop_eq_nil_of_le (by omega), show n - 1 - j = (n - 1 - (j + 1)) + 1 by omega] at h5
      unfold scanR at h5
      refine ⟨?_, fun e' s' hh => ?_⟩
      · rw [h5]
        simp only [M64, M64b0, ER, d0, d1, lx, finR, runeV, u8_lss', u8_geq', ev1_ixsV, ev1_lensV', qES0, qES1, qES2, env0, List.length_cons, List.length_nil, Nat.reduceAdd, Nat.reduceSub, List.replicate, List.cons_append, List.nil_append, opd, Env.put, Env.at, List.set_cons_zero, List.set_cons_succ, List.getD_cons_zero, List.getD_cons_succ, freezeL, resVs, oneOr, Option.map_some, Option.map_none, List.map_cons, List.map_nil, if_true, if_false, Bool.not_true, Bool.not_false, Bool.false_eq_true, reduceIte, decide_true, decide_false, Int.reduceLT, Int.reduceLE, Int.reduceGT, Int.reduceGE, Int.reduceEq, Int.reduceBEq, Int.reduceBNe, load_ptr, ldV_some, cellAt_cells, List.getElem?_cons_zero, List.getElem?_cons_succ, store_ptr, stO_some, setAt_0, setAt_1, setAt_2, setAt_3, setAt_4, setAt_5, setAt_6, setAt_7, setAt_8, setAt_9, setAt_10, setAt_11, setAt_12, cells_int, cells_bool, cells_str, cells_nils, cells_nilp, cells_ptr, cells_sl, cells_u8, cells_u16, cells_agg, get_upd_is, Option.isSome_some, upd_upd, ev1_nchkV, ev1_faV, nchkV_ptr, faV_ptr, ev1_extV, extV_tup, eqptr_nil, eqptr_ptr, Nat.zero_add, Nat.add_zero, qPL0, qPL1, qPL2, qPL3, qPL4, qPL5, beq_self_eq_true]
        rfl
      · simp only [M64b0, ER, d0, d1, lx, u8_lss', u8_geq', ev1_ixsV, ev1_lensV', qES0, qES1, qES2, env0, List.length_cons, List.length_nil, Nat.reduceAdd, Nat.reduceSub, List.replicate, List.cons_append, List.nil_append, opd, Env.put, Env.at, List.set_cons_zero, List.set_cons_succ, List.getD_cons_zero, List.getD_cons_succ, freezeL, resVs, oneOr, Option.map_some, Option.map_none, List.map_cons, List.map_nil, if_true, if_false, Bool.not_true, Bool.not_false, Bool.false_eq_true, reduceIte, decide_true, decide_false, Int.reduceLT, Int.reduceLE, Int.reduceGT, Int.reduceGE, Int.reduceEq, Int.reduceBEq, Int.reduceBNe, load_ptr, ldV_some, cellAt_cells, List.getElem?_cons_zero, List.getElem?_cons_succ, store_ptr, stO_some, setAt_0, setAt_1, setAt_2, setAt_3, setAt_4, setAt_5, setAt_6, setAt_7, setAt_8, setAt_9, setAt_10, setAt_11, setAt_12, cells_int, cells_bool, cells_str, cells_nils, cells_nilp, cells_ptr, cells_sl, cells_u8, cells_u16, cells_agg, get_upd_is, Option.isSome_some, upd_upd, ev1_nchkV, ev1_faV, nchkV_ptr, faV_ptr, ev1_extV, extV_tup, eqptr_nil, eqptr_ptr, Nat.zero_add, Nat.add_zero, qPL0, qPL1, qPL2, qPL3, qPL4, qPL5, beq_self_eq_true] at hh
        cases hh
  · rintro e st ⟨r, h1, rfl, h3, h4, h5⟩
    rw [h1]
    have e1 : ((n - 1 : Nat) : Int) + 1 = (n : Nat) := by omega
    rw [e1, Nat.sub_self] at *
    have d0 : decide ((n : Int) < (n : Nat)) = false := decide_eq_false (by omega)
    refine ⟨?_, fun e' s' hh => ?_⟩
    · rw [h5]
      by_cases c1 : r < least
      · have q1 : decide (r < least) = true := decide_eq_true c1
        show _ = some (runeV (if r < least ∨ (55296 ≤ r ∧ r < 57344) ∨ 1114111 < r then (0, 1, false) else (r, n, true)), st)
        rw [if_pos (.inl c1)]
        simp only [M64, M64r0, M64b0, ER, d0, q1, runeV, qES0, qES1, qES2, env0, List.length_cons, List.length_nil, Nat.reduceAdd, Nat.reduceSub, List.replicate, List.cons_append, List.nil_append, opd, Env.put, Env.at, List.set_cons_zero, List.set_cons_succ, List.getD_cons_zero, List.getD_cons_succ, freezeL, resVs, oneOr, Option.map_some, Option.map_none, List.map_cons, List.map_nil, if_true, if_false, Bool.not_true, Bool.not_false, Bool.false_eq_true, reduceIte, decide_true, decide_false, Int.reduceLT, Int.reduceLE, Int.reduceGT, Int.reduceGE, Int.reduceEq, Int.reduceBEq, Int.reduceBNe, load_ptr, ldV_some, cellAt_cells, List.getElem?_cons_zero, List.getElem?_cons_succ, store_ptr, stO_some, setAt_0, setAt_1, setAt_2, setAt_3, setAt_4, setAt_5, setAt_6, setAt_7, setAt_8, setAt_9, setAt_10, setAt_11, setAt_12, cells_int, cells_bool, cells_str, cells_nils, cells_nilp, cells_ptr, cells_sl, cells_u8, cells_u16, cells_agg, get_upd_is, Option.isSome_some, upd_upd, ev1_nchkV, ev1_faV, nchkV_ptr, faV_ptr, ev1_extV, extV_tup, eqptr_nil, eqptr_ptr, Nat.zero_add, Nat.add_zero, qPL0, qPL1, qPL2, qPL3, qPL4, qPL5, beq_self_eq_true]
        rfl
      · have q1 : decide (r < least) = false := decide_eq_false c1
        by_cases c2 : r ≥ 55296
        · have q2 : decide (r ≥ 55296) = true := decide_eq_true c2
          by_cases c3 : r < 57344
          · have q3 : decide (r < 57344) = true := decide_eq_true c3
            show _ = some (runeV (if r < least ∨ (55296 ≤ r ∧ r < 57344) ∨ 1114111 < r then (0, 1, false) else (r, n, true)), st)
            rw [if_pos (.inr (.inl ⟨c2, c3⟩))]
            simp only [M64, M64r0, M64b0, ER, d0, q1, q2, q3, runeV, qES0, qES1, qES2, env0, List.length_cons, List.length_nil, Nat.reduceAdd, Nat.reduceSub, List.replicate, List.cons_append, List.nil_append, opd, Env.put, Env.at, List.set_cons_zero, List.set_cons_succ, List.getD_cons_zero, List.getD_cons_succ, freezeL, resVs, oneOr, Option.map_some, Option.map_none, List.map_cons, List.map_nil, if_true, if_false, Bool.not_true, Bool.not_false, Bool.false_eq_true, reduceIte, decide_true, decide_false, Int.reduceLT, Int.reduceLE, Int.reduceGT, Int.reduceGE, Int.reduceEq, Int.reduceBEq, Int.reduceBNe, load_ptr, ldV_some, cellAt_cells, List.getElem?_cons_zero, List.getElem?_cons_succ, store_ptr, stO_some, setAt_0, setAt_1, setAt_2, setAt_3, setAt_4, setAt_5, setAt_6, setAt_7, setAt_8, setAt_9, setAt_10, setAt_11, setAt_12, cells_int, cells_bool, cells_str, cells_nils, cells_nilp, cells_ptr, cells_sl, cells_u8, cells_u16, cells_agg, get_upd_is, Option.isSome_some, upd_upd, ev1_nchkV, ev1_faV, nchkV_ptr, faV_ptr, ev1_extV, extV_tup, eqptr_nil, eqptr_ptr, Nat.zero_add, Nat.add_zero, qPL0, qPL1, qPL2, qPL3, qPL4, qPL5, beq_self_eq_true]
            rfl
          · have q3 : decide (r < 57344) = false := decide_eq_false c3
            by_cases c4 : r > 1114111
            · have q4 : decide (r > 1114111) = true := decide_eq_true c4
              show _ = some (runeV (if r < least ∨ (55296 ≤ r ∧ r < 57344) ∨ 1114111 < r then (0, 1, false) else (r, n, true)), st)
              rw [if_pos (.inr (.inr c4))]
              simp only [M64, M64r0, M64b0, ER, d0, q1, q2, q3, q4, runeV, qES0, qES1, qES2, env0, List.length_cons, List.length_nil, Nat.reduceAdd, Nat.reduceSub, List.replicate, List.cons_append, List.nil_append, opd, Env.put, Env.at, List.set_cons_zero, List.set_cons_succ, List.getD_cons_zero, List.getD_cons_succ, freezeL, resVs, oneOr, Option.map_some, Option.map_none, List.map_cons, List.map_nil, if_true, if_false, Bool.not_true, Bool.not_false, Bool.false_eq_true, reduceIte, decide_true, decide_false, Int.reduceLT, Int.reduceLE, Int.reduceGT, Int.reduceGE, Int.reduceEq, Int.reduceBEq, Int.reduceBNe, load_ptr, ldV_some, cellAt_cells, List.getElem?_cons_zero, List.getElem?_cons_succ, store_ptr, stO_some, setAt_0, setAt_1, setAt_2, setAt_3, setAt_4, setAt_5, setAt_6, setAt_7, setAt_8, setAt_9, setAt_10, setAt_11, setAt_12, cells_int, cells_bool, cells_str, cells_nils, cells_nilp, cells_ptr, cells_sl, cells_u8, cells_u16, cells_agg, get_upd_is, Option.isSome_some, upd_upd, ev1_nchkV, ev1_faV, nchkV_ptr, faV_ptr, ev1_extV, extV_tup, eqptr_nil, eqptr_ptr, Nat.zero_add, Nat.add_zero, qPL0, qPL1, qPL2, qPL3, qPL4, qPL5, beq_self_eq_true]
              rfl
            · have q4 : decide (r > 1114111) = false := decide_eq_false c4
              show _ = some (runeV (if r < least ∨ (55296 ≤ r ∧ r < 57344) ∨ 1114111 < r then (0, 1, false) else (r, n, true)), st)
              rw [if_neg (by omega)]
              simp only [M64, M64r0, M64b0, ER, d0, q1, q2, q3, q4, runeV, qES0, qES1, qES2, env0, List.length_cons, List.length_nil, Nat.reduceAdd, Nat.reduceSub, List.replicate, List.cons_append, List.nil_append, opd, Env.put, Env.at, List.set_cons_zero, List.set_cons_succ, List.getD_cons_zero, List.getD_cons_succ, freezeL, resVs, oneOr, Option.map_some, Option.map_none, List.map_cons, List.map_nil, if_true, if_false, Bool.not_true, Bool.not_false, Bool.false_eq_true, reduceIte, decide_true, decide_false, Int.reduceLT, Int.reduceLE, Int.reduceGT, Int.reduceGE, Int.reduceEq, Int.reduceBEq, Int.reduceBNe, load_ptr, ldV_some, cellAt_cells, List.getElem?_cons_zero, List.getElem?_cons_succ, store_ptr, stO_some, setAt_0, setAt_1, setAt_2, setAt_3, setAt_4, setAt_5, setAt_6, setAt_7, setAt_8, setAt_9, setAt_10, setAt_11, setAt_12, cells_int, cells_bool, cells_str, cells_nils, cells_nilp, cells_ptr, cells_sl, cells_u8, cells_u16, cells_agg, get_upd_is, Option.isSome_some, upd_upd, ev1_nchkV, ev1_faV, nchkV_ptr, faV_ptr, ev1_extV, extV_tup, eqptr_nil, eqptr_ptr, Nat.zero_add, Nat.add_zero, qPL0, qPL1, qPL2, qPL3, qPL4, qPL5, beq_self_eq_true]
        · have q2 : decide (r ≥ 55296) = false := decide_eq_false c2
          have q4 : decide (r > 1114111) = false := decide_eq_false (by omega)
          show _ = some (runeV (if r < least ∨ (55296 ≤ r ∧ r < 57344) ∨ 1114111 < r then (0, 1, false) else (r, n, true)), st)
          rw [if_neg (by omega)]
          simp only [M64, M64r0, M64b0, ER, d0, q1, q2, q4, runeV, qES0, qES1, qES2, env0, List.length_cons, List.length_nil, Nat.reduceAdd, Nat.reduceSub, List.replicate, List.cons_append, List.nil_append, opd, Env.put, Env.at, List.set_cons_zero, List.set_cons_succ, List.getD_cons_zero, List.getD_cons_succ, freezeL, resVs, oneOr, Option.map_some, Option.map_none, List.map_cons, List.map_nil, if_true, if_false, Bool.not_true, Bool.not_false, Bool.false_eq_true, reduceIte, decide_true, decide_false, Int.reduceLT, Int.reduceLE, Int.reduceGT, Int.reduceGE, Int.reduceEq, Int.reduceBEq, Int.reduceBNe, load_ptr, ldV_some, cellAt_cells, List.getElem?_cons_zero, List.getElem?_cons_succ, store_ptr, stO_some, setAt_0, setAt_1, setAt_2, setAt_3, setAt_4, setAt_5, setAt_6, setAt_7, setAt_8, setAt_9, setAt_10, setAt_11, setAt_12, cells_int, cells_bool, cells_str, cells_nils, cells_nilp, cells_ptr, cells_sl, cells_u8, cells_u16, cells_agg, get_upd_is, Option.isSome_some, upd_upd, ev1_nchkV, ev1_faV, nchkV_ptr, faV_ptr, ev1_extV, extV_tup, eqptr_nil, eqptr_ptr, Nat.zero_add, Nat.add_zero, qPL0, qPL1, qPL2, qPL3, qPL4, qPL5, beq_self_eq_true]
    · simp only [M64b0, ER, d0, qES0, qES1, qES2, env0, List.length_cons, List.length_nil, Nat.reduceAdd, Nat.reduceSub, List.replicate, List.cons_append, List.nil_append, opd, Env.put, Env.at, List.set_cons_zero, List.set_cons_succ, List.getD_cons_zero, List.getD_cons_succ, freezeL, resVs, oneOr, Option.map_some, Option.map_none, List.map_cons, List.map_nil, if_true, if_false, Bool.not_true, Bool.not_false, Bool.false_eq_true, reduceIte, decide_true, decide_false, Int.reduceLT, Int.reduceLE, Int.reduceGT, Int.reduceGE, Int.reduceEq, Int.reduceBEq, Int.reduceBNe, load_ptr, ldV_some, cellAt_cells, List.getElem?_cons_zero, List.getElem?_cons_succ, store_ptr, stO_some, setAt_0, setAt_1, setAt_2, setAt_3, setAt_4, setAt_5, setAt_6, setAt_7, setAt_8, setAt_9, setAt_10, setAt_11, setAt_12, cells_int, cells_bool, cells_str, cells_nils, cells_nilp, cells_ptr, cells_sl, cells_u8, cells_u16, cells_agg, get_upd_is, Option.isSome_some, upd_upd, ev1_nchkV, ev1_faV, nchkV_ptr, faV_ptr, ev1_extV, extV_tup, eqptr_nil, eqptr_ptr, Nat.zero_add, Nat.add_zero, qPL0, qPL1, qPL2, qPL3, qPL4, qPL5, beq_self_eq_true] at hh
      cases hh
end
theorem rune1_ev (k : Nat) (b : UInt8) (t : List UInt8) (hl : t.length ≤ 1000) (S : St) :
    evT (k + 6) 64 [.str (b :: t)] S = some (runeV (rune1 b t), S) := by
  rw [show k + 6 = (k + 5) + 1 from rfl, evT_in rfl tab64, show S = S.pl [] from rfl]
  have ix : ixsV (.str (b :: t)) (.int .i64 0) = some (.int .u8 (b.toNat : Int)) := ixsV_at (b :: t) 0 (by simp)
  have hb := b.toNat_lt
  obtain ⟨c, hc⟩ : ∃ c, b.toNat = c := ⟨_, rfl⟩
  unfold rune1
  rw [hc] at ix hb ⊢
  have w5 : IntKind.i64.wrap (c : Int) = c := wrapI _ (by omega) (by omega)
  have L := fun n h4 h2 least => rune1_loop k b t n h4 h2 least (S.pl [])
  by_cases g1 : c < 128
  · have d1 : decide ((c : Int) < 128) = true := decide_eq_true (by omega)
    rw [if_pos g1]
    simp only [M64, ix, w5, d1, runeV, conv_int, ev1_ixsV, qES0, qES1, qES2, env0, List.length_cons, List.length_nil, Nat.reduceAdd, Nat.reduceSub, List.replicate, List.cons_append, List.nil_append, opd, Env.put, Env.at, List.set_cons_zero, List.set_cons_succ, List.getD_cons_zero, List.getD_cons_succ, freezeL, resVs, oneOr, Option.map_some, Option.map_none, List.map_cons, List.map_nil, if_true, if_false, Bool.not_true, Bool.not_false, Bool.false_eq_true, reduceIte, decide_true, decide_false, Int.reduceLT, Int.reduceLE, Int.reduceGT, Int.reduceGE, Int.reduceEq, Int.reduceBEq, Int.reduceBNe, load_ptr, ldV_some, cellAt_cells, List.getElem?_cons_zero, List.getElem?_cons_succ, store_ptr, stO_some, setAt_0, setAt_1, setAt_2, setAt_3, setAt_4, setAt_5, setAt_6, setAt_7, setAt_8, setAt_9, setAt_10, setAt_11, setAt_12, cells_int, cells_bool, cells_str, cells_nils, cells_nilp, cells_ptr, cells_sl, cells_u8, cells_u16, cells_agg, get_upd_is, Option.isSome_some, upd_upd, ev1_nchkV, ev1_faV, nchkV_ptr, faV_ptr, ev1_extV, extV_tup, eqptr_nil, eqptr_ptr, Nat.zero_add, Nat.add_zero, qPL0, qPL1, qPL2, qPL3, qPL4, qPL5, beq_self_eq_true]
    rfl
  · have d1 : decide ((c : Int) < 128) = false := decide_eq_false (by omega)
    rw [if_neg g1]
    by_cases g2 : 194 ≤ c ∧ c < 224
    · have d2 : decide ((c : Int) ≥ 194) = true := decide_eq_true (by omega)
      have d3 : decide ((c : Int) < 224) = true := decide_eq_true (by omega)
      have w6 : IntKind.i64.wrap ((c : Int) - 192) = c - 192 := wrapI _ (by omega) (by omega)
      rw [if_pos g2]
      simp only [M64, ix, w5, w6, d1, d2, d3, conv_int, ev1_ixsV, evC_loop, qES0, qES1, qES2, env0, List.length_cons, List.length_nil, Nat.reduceAdd, Nat.reduceSub, List.replicate, List.cons_append, List.nil_append, opd, Env.put, Env.at, List.set_cons_zero, List.set_cons_succ, List.getD_cons_zero, List.getD_cons_succ, freezeL, resVs, oneOr, Option.map_some, Option.map_none, List.map_cons, List.map_nil, if_true, if_false, Bool.not_true, Bool.not_false, Bool.false_eq_true, reduceIte, decide_true, decide_false, Int.reduceLT, Int.reduceLE, Int.reduceGT, Int.reduceGE, Int.reduceEq, Int.reduceBEq, Int.reduceBNe, load_ptr, ldV_some, cellAt_cells, List.getElem?_cons_zero, List.getElem?_cons_succ, store_ptr, stO_some, setAt_0, setAt_1, setAt_2, setAt_3, setAt_4, setAt_5, setAt_6, setAt_7, setAt_8, setAt_9, setAt_10, setAt_11, setAt_12, cells_int, cells_bool, cells_str, cells_nils, cells_nilp, cells_ptr, cells_sl, cells_u8, cells_u16, cells_agg, get_upd_is, Option.isSome_some, upd_upd, ev1_nchkV, ev1_faV, nchkV_ptr, faV_ptr, ev1_extV, extV_tup, eqptr_nil, eqptr_ptr, Nat.zero_add, Nat.add_zero, qPL0, qPL1, qPL2, qPL3, qPL4, qPL5, beq_self_eq_true]
      exact L 2 (by omega) (by omega) 128 (c - 192) (by omega) (by omega) _ rfl
    · rw [if_neg g2]
      by_cases g3 : 224 ≤ c ∧ c < 240
      · have d2 : decide ((c : Int) ≥ 194) = true := decide_eq_true (by omega)
        have d3 : decide ((c : Int) < 224) = false := decide_eq_false (by omega)
        have d4 : decide ((c : Int) ≥ 224) = true := decide_eq_true (by omega)
        have d5 : decide ((c : Int) < 240) = true := decide_eq_true (by omega)
        have w6 : IntKind.i64.wrap ((c : Int) - 224) = c - 224 := wrapI _ (by omega) (by omega)
        rw [if_pos g3]
        simp only [M64, ix, w5, w6, d1, d2, d3, d4, d5, conv_int, ev1_ixsV, evC_loop, qES0, qES1, qES2, env0, List.length_cons, List.length_nil, Nat.reduceAdd, Nat.reduceSub, List.replicate, List.cons_append, List.nil_append, opd, Env.put, Env.at, List.set_cons_zero, List.set_cons_succ, List.getD_cons_zero, List.getD_cons_succ, freezeL, resVs, oneOr, Option.map_some, Option.map_none, List.map_cons, List.map_nil, if_true, if_false, Bool.not_true, Bool.not_false, Bool.false_eq_true, reduceIte, decide_true, decide_false, Int.reduceLT, Int.reduceLE, Int.reduceGT, Int.reduceGE, Int.reduceEq, Int.reduceBEq, Int.reduceBNe, load_ptr, ldV_some, cellAt_cells, List.getElem?_cons_zero, List.getElem?_cons_succ, store_ptr, stO_some, setAt_0, setAt_1, setAt_2, setAt_3, setAt_4, setAt_5, setAt_6, setAt_7, setAt_8, setAt_9, setAt_10, setAt_11, setAt_12, cells_int, cells_bool, cells_str, cells_nils, cells_nilp, cells_ptr, cells_sl, cells_u8, cells_u16, cells_agg, get_upd_is, Option.isSome_some, upd_upd, ev1_nchkV, ev1_faV, nchkV_ptr, faV_ptr, ev1_extV, extV_tup, eqptr_nil, eqptr_ptr, Nat.zero_add, Nat.add_zero, qPL0, qPL1, qPL2, qPL3, qPL4, qPL5, beq_self_eq_true]
        exact L 3 (by omega) (by omega) 2048 (c - 224) (by omega) (by omega) _ rfl
      · rw [if_neg g3]
        by_cases g4 : 240 ≤ c ∧ c < 245
        · have d2 : decide ((c : Int) ≥ 194) = true := decide_eq_true (by omega)
          have d3 : decide ((c : Int) < 224) = false := decide_eq_false (by omega)
          have d4 : decide ((c : Int) ≥ 224) = true := decide_eq_true (by omega)
          have d5 : decide ((c : Int) < 240) = false := decide_eq_false (by omega)
          have d6 : decide ((c : Int) ≥ 240) = true := decide_eq_true (by omega)
          have d7 : decide ((c : Int) < 245) = true := decide_eq_true (by omega)
          have w6 : IntKind.i64.wrap ((c : Int) - 240) = c - 240 := wrapI _ (by omega) (by omega)
          rw [if_pos g4]
          simp only [M64, ix, w5, w6, d1, d2, d3, d4, d5, d6, d7, conv_int, ev1_ixsV, evC_loop, qES0, qES1, qES2, env0, List.length_cons, List.length_nil, Nat.reduceAdd, Nat.reduceSub, List.replicate, List.cons_append, List.nil_append, opd, Env.put, Env.at, List.set_cons_zero, List.set_cons_succ, List.getD_cons_zero, List.getD_cons_succ, freezeL, resVs, oneOr, Option.map_some, Option.map_none, List.map_cons, List.map_nil, if_true, if_false, Bool.not_true, Bool.not_false, Bool.false_eq_true, reduceIte, decide_true, decide_false, Int.reduceLT, Int.reduceLE, Int.reduceGT, Int.reduceGE, Int.reduceEq, Int.reduceBEq, Int.reduceBNe, load_ptr, ldV_some, cellAt_cells, List.getElem?_cons_zero, List.getElem?_cons_succ, store_ptr, stO_some, setAt_0, setAt_1, setAt_2, setAt_3, setAt_4, setAt_5, setAt_6, setAt_7, setAt_8, setAt_9, setAt_10, setAt_11, setAt_12, cells_int, cells_bool, cells_str, cells_nils, cells_nilp, cells_ptr, cells_sl, cells_u8, cells_u16, cells_agg, get_upd_is, Option.isSome_some, upd_upd, ev1_nchkV, ev1_faV, nchkV_ptr, faV_ptr, ev1_extV, extV_tup, eqptr_nil, eqptr_ptr, Nat.zero_add, Nat.add_zero, qPL0, qPL1, qPL2, qPL3, qPL4, qPL5, beq_self_eq_true]
          exact L 4 (by omega) (by omega) 65536 (c - 240) (by omega) (by omega) _ rfl
        · rw [if_neg g4]
          by_cases h : c < 194
          · have d2 : decide ((c : Int) ≥ 194) = false := decide_eq_false (by omega)
            have d4 : decide ((c : Int) ≥ 224) = false := decide_eq_false (by omega)
            have d6 : decide ((c : Int) ≥ 240) = false := decide_eq_false (by omega)
            simp only [M64, ix, w5, d1, d2, d4, d6, runeV, conv_int, ev1_ixsV, qES0, qES1, qES2, env0, List.length_cons, List.length_nil, Nat.reduceAdd, Nat.reduceSub, List.replicate, List.cons_append, List.nil_append, opd, Env.put, Env.at, List.set_cons_zero, List.set_cons_succ, List.getD_cons_zero, List.getD_cons_succ, freezeL, resVs, oneOr, Option.map_some, Option.map_none, List.map_cons, List.map_nil, if_true, if_false, Bool.not_true, Bool.not_false, Bool.false_eq_true, reduceIte, decide_true, decide_false, Int.reduceLT, Int.reduceLE, Int.reduceGT, Int.reduceGE, Int.reduceEq, Int.reduceBEq, Int.reduceBNe, load_ptr, ldV_some, cellAt_cells, List.getElem?_cons_zero, List.getElem?_cons_succ, store_ptr, stO_some, setAt_0, setAt_1, setAt_2, setAt_3, setAt_4, setAt_5, setAt_6, setAt_7, setAt_8, setAt_9, setAt_10, setAt_11, setAt_12, cells_int, cells_bool, cells_str, cells_nils, cells_nilp, cells_ptr, cells_sl, cells_u8, cells_u16, cells_agg, get_upd_is, Option.isSome_some, upd_upd, ev1_nchkV, ev1_faV, nchkV_ptr, faV_ptr, ev1_extV, extV_tup, eqptr_nil, eqptr_ptr, Nat.zero_add, Nat.add_zero, qPL0, qPL1, qPL2, qPL3, qPL4, qPL5, beq_self_eq_true]
            rfl
          · have d2 : decide ((c : Int) ≥ 194) = true := decide_eq_true (by omega)
            have d3 : decide ((c : Int) < 224) = false := decide_eq_false (by omega)
            have d4 : decide ((c : Int) ≥ 224) = true := decide_eq_true (by omega)
            have d5 : decide ((c : Int) < 240) = false := decide_eq_false (by omega)
            have d6 : decide ((c : Int) ≥ 240) = true := decide_eq_true (by omega)
            have d7 : decide ((c : Int) < 245) = false := decide_eq_false (by omega)
            simp only [M64, ix, w5, d1, d2, d3, d4, d5, d6, d7, runeV, conv_int, ev1_ixsV, qES0, qES1, qES2, env0, List.length_cons, List.length_nil, Nat.reduceAdd, Nat.reduceSub, List.replicate, List.cons_append, List.nil_append, opd, Env.put, Env.at, List.set_cons_zero, List.set_cons_succ, List.getD_cons_zero, List.getD_cons_succ, freezeL, resVs, oneOr, Option.map_some, Option.map_none, List.map_cons, List.map_nil, if_true, if_false, Bool.not_true, Bool.not_false, Bool.false_eq_true, reduceIte, decide_true, decide_false, Int.reduceLT, Int.reduceLE, Int.reduceGT, Int.reduceGE, Int.reduceEq, Int.reduceBEq, Int.reduceBNe, load_ptr, ldV_some, cellAt_cells, List.getElem?_cons_zero, List.getElem?_cons_succ, store_ptr, stO_some, setAt_0, setAt_1, setAt_2, setAt_3, setAt_4, setAt_5, setAt_6, setAt_7, setAt_8, setAt_9, setAt_10, setAt_11, setAt_12, cells_int, cells_bool, cells_str, cells_nils, cells_nilp, cells_ptr, cells_sl, cells_u8, cells_u16, cells_agg, get_upd_is, Option.isSome_some, upd_upd, ev1_nchkV, ev1_faV, nchkV_ptr, faV_ptr, ev1_extV, extV_tup, eqptr_nil, eqptr_ptr, Nat.zero_add, Nat.add_zero, qPL0, qPL1, qPL2, qPL3, qPL4, qPL5, beq_self_eq_true]
            rfl
/-! The document's kind of a rune. -/
theorem rkind_ev (k : Nat) (r : Int) (s : St) : evT (k + 1) 31 [.int .i64 r] s = some (.int .i64 (kindOf r), s) := by
  rw [evT_in rfl tab31]
  have hvv : Utf8.valid r = decide ((0 ≤ r ∧ r < 55296) ∨ (57344 ≤ r ∧ r ≤ 1114111)) := by
    unfold Utf8.valid
    rw [Bool.eq_iff_iff]
    simp
  rcases regions r with h | h | h | h | h | h | h | h | h | h | h | h | h | h | h | h
  all_goals
    first | have ge97 : (r ≥ 97) = True := eq_true (by omega) | have ge97 : (r ≥ 97) = False := eq_false (by omega)
    first | have le122 : (r ≤ 122) = True := eq_true (by omega) | have le122 : (r ≤ 122) = False := eq_false (by omega)
    first | have ge65 : (r ≥ 65) = True := eq_true (by omega) | have ge65 : (r ≥ 65) = False := eq_false (by omega)
    first | have le90 : (r ≤ 90) = True := eq_true (by omega) | have le90 : (r ≤ 90) = False := eq_false (by omega)
    first | have ge48 : (r ≥ 48) = True := eq_true (by omega) | have ge48 : (r ≥ 48) = False := eq_false (by omega)
    first | have le57 : (r ≤ 57) = True := eq_true (by omega) | have le57 : (r ≤ 57) = False := eq_false (by omega)
    first | have ge32 : (r ≥ 32) = True := eq_true (by omega) | have ge32 : (r ≥ 32) = False := eq_false (by omega)
    first | have le126 : (r ≤ 126) = True := eq_true (by omega) | have le126 : (r ≤ 126) = False := eq_false (by omega)
    first | have ge160 : (r ≥ 160) = True := eq_true (by omega) | have ge160 : (r ≥ 160) = False := eq_false (by omega)
    first | have leM : (r ≤ 1114111) = True := eq_true (by omega) | have leM : (r ≤ 1114111) = False := eq_false (by omega)
    first | have ltS : (r < 55296) = True := eq_true (by omega) | have ltS : (r < 55296) = False := eq_false (by omega)
    first | have gtS : (r > 57343) = True := eq_true (by omega) | have gtS : (r > 57343) = False := eq_false (by omega)
    first | have ne : (r != 65533) = true := (by simp; omega) | have ne : (r != 65533) = false := (by simp; omega)
    first | have vl : Utf8.valid r = true := (by rw [hvv, decide_eq_true_eq]; omega) | have vl : Utf8.valid r = false := (by rw [hvv, decide_eq_false_iff_not]; omega)
    first | have kl97 : (97 ≤ r) = True := eq_true (by omega) | have kl97 : (97 ≤ r) = False := eq_false (by omega)
    first | have kl65 : (65 ≤ r) = True := eq_true (by omega) | have kl65 : (65 ≤ r) = False := eq_false (by omega)
    first | have kl48 : (48 ≤ r) = True := eq_true (by omega) | have kl48 : (48 ≤ r) = False := eq_false (by omega)
    first | have kl32 : (32 ≤ r) = True := eq_true (by omega) | have kl32 : (32 ≤ r) = False := eq_false (by omega)
    first | have kl160 : (160 ≤ r) = True := eq_true (by omega) | have kl160 : (160 ≤ r) = False := eq_false (by omega)
    first | have kne : (r ≠ 65533) = True := eq_true (by omega) | have kne : (r ≠ 65533) = False := eq_false (by omega)
    simp only [M31, ge97, le122, ge65, le90, ge48, le57, ge32, le126, ge160, leM, ltS, gtS, ne, vl, kindOf, kl97, kl65, kl48, kl32, kl160, kne, true_and, and_true, false_and, and_false, or_true, true_or, or_false, false_or, and_self, or_self, qES0, qES1, qES2, env0, List.length_cons, List.length_nil, Nat.reduceAdd, Nat.reduceSub, List.replicate, List.cons_append, List.nil_append, opd, Env.put, Env.at, List.set_cons_zero, List.set_cons_succ, List.getD_cons_zero, List.getD_cons_succ, freezeL, resVs, oneOr, Option.map_some, Option.map_none, List.map_cons, List.map_nil, if_true, if_false, Bool.not_true, Bool.not_false, Bool.false_eq_true, reduceIte, decide_true, decide_false, Int.reduceLT, Int.reduceLE, Int.reduceGT, Int.reduceGE, Int.reduceEq, Int.reduceBEq, Int.reduceBNe, load_ptr, ldV_some, cellAt_cells, List.getElem?_cons_zero, List.getElem?_cons_succ, store_ptr, stO_some, setAt_0, setAt_1, setAt_2, setAt_3, setAt_4, setAt_5, setAt_6, setAt_7, setAt_8, setAt_9, setAt_10, setAt_11, setAt_12, cells_int, cells_bool, cells_str, cells_nils, cells_nilp, cells_ptr, cells_sl, cells_u8, cells_u16, cells_agg, get_upd_is, Option.isSome_some, upd_upd, ev1_nchkV, ev1_faV, nchkV_ptr, faV_ptr, ev1_extV, extV_tup, eqptr_nil, eqptr_ptr, Nat.zero_add, Nat.add_zero, qPL0, qPL1, qPL2, qPL3, qPL4, qPL5, beq_self_eq_true]
end Go.Proofs.YthcblggiojpmcaaDoor
/- The document's name, as the evaluator answers it: the program's. No conditions. -/
set_option linter.unusedSimpArgs false
set_option linter.unusedVariables false
set_option maxRecDepth 100000
set_option maxHeartbeats 4000000
namespace Go.Proofs.YthcblggiojpmcaaDoor
open Go Go.Ab
def ERn (l t : List UInt8) : Env := [.str l, .undef, .undef, .str t, .undef, .undef, .undef, .undef, .undef, .undef, .undef, .undef, .undef, .undef, .undef, .undef, .undef, .undef, .undef, .undef, .undef, .undef, .undef, .undef, .undef, .undef, .undef, .undef, .undef]
theorem str_neq (a b : List UInt8) : binV .neq (.str a) (.str b) = some (.bool (a != b)) := (id rfl)
theorem kind_bad : kindOf 65533 = 0 := by decide
theorem drop_cons {l : List UInt8} {p : Nat} (h : p < l.length) : ∃ b t, l.drop p = b :: t := by
  rw [List.drop_eq_getElem_cons h]; exact ⟨_, _, rfl⟩
theorem rnick_gen (k : Nat) (l : List UInt8) (hl : l.length ≤ 1000) (S : St) : evT (k + l.length + 8) 23 [.str l] S = some (.bool (mayN l), S) := by
  rw [show k + l.length + 8 = (k + l.length + 7) + 1 from rfl, evT_in rfl tab23, show S = S.pl [] from rfl]
  have kd : ∀ (r : Int) s, evT (k + l.length + 7) 31 [.int .i64 r] s = some (.int .i64 (kindOf r), s) := fun r s => rkind_ev (k + l.length + 6) r s
  obtain ⟨R, hR⟩ : ∃ R, nickOk l (l.length + 1) 0 = R := ⟨_, rfl⟩
  unfold mayN
  rw [hR]
  have key : ∀ e, maskE M23b0l e = ERn l l → outR M23.res (seqR (blockR 0 (iter (evC tabGl (evT (k + l.length + 7)) (k + l.length + 7) M23b0) M23b0l (k + l.length + 7) e (S.pl []))) (evC tabGl (evT (k + l.length + 7)) (k + l.length + 7) M23r0)) = some (.bool (R && decide ((l.length : Int) ≤ 20)), S.pl []) := by
    intro e he
    refine iter_leave (evC tabGl (evT (k + l.length + 7)) (k + l.length + 7) M23b0) M23b0l (fun i e st => ∃ p, maskE M23b0l e = ERn l (l.drop p) ∧ st = S.pl [] ∧ i ≤ p ∧ R = nickOk l (l.length + 1 - i) p)
      (fun out => outR M23.res (seqR (blockR 0 out) (evC tabGl (evT (k + l.length + 7)) (k + l.length + 7) M23r0)) = some (.bool (R && decide ((l.length : Int) ≤ 20)), S.pl [])) l.length ?_ ?_ l.length 0 _ _ (k + l.length + 7) (by omega) ⟨0, he, rfl, Nat.le_refl _, hR.symm⟩ (by omega)
    · rintro i e st hi ⟨p, h1, rfl, h3, h4⟩
      rw [h1]
      rw [show l.length + 1 - i = (l.length - i) + 1 by omega] at h4
      unfold nickOk at h4
      by_cases hp : p < l.length
      · obtain ⟨b, t, hbt⟩ := drop_cons hp
        rw [if_pos hp, dec_drop l p b t hbt] at h4
        have hlt : t.length ≤ 1000 := by have := congrArg List.length hbt; simp at this; omega
        have hr : ∀ s, evT (k + l.length + 7) 64 [.str (b :: t)] s = some (runeV (rune1 b t), s) := fun s => rune1_ev (k + l.length + 1) b t hlt s
        rw [rune1_dec] at hr
        have hw := dec_w b t
        have hnx : l.drop (p + (decT b t).2) = (b :: t).drop (decT b t).2 := by rw [← hbt, List.drop_drop]
        have sl := slcS_from (b :: t) (decT b t).2 (by simp; omega)
        have ne : binV .neq (.str (b :: t)) (.str []) = some (.bool true) := rfl
        rw [hbt]
        obtain ⟨d, hd⟩ : ∃ d, decT b t = d := ⟨_, rfl⟩
        rw [hd] at hr h4 hw hnx sl
        by_cases hb : bad d
        · right
          have e1 : decV d = (0, 1, false) := if_pos hb
          have hRf : R = false := by
            rw [h4, hb.1, show ((65533 : Nat) : Int) = 65533 from rfl, kind_bad]; rfl
          rw [e1] at hr
          refine ⟨?_, fun e' s' hh => ?_⟩
          · rw [hRf]
            simp only [M23, M23b0, ERn, hr, runeV, ne, ev1_extV, qES0, qES1, qES2, env0, List.length_cons, List.length_nil, Nat.reduceAdd, Nat.reduceSub, List.replicate, List.cons_append, List.nil_append, opd, Env.put, Env.at, List.set_cons_zero, List.set_cons_succ, List.getD_cons_zero, List.getD_cons_succ, freezeL, resVs, oneOr, Option.map_some, Option.map_none, List.map_cons, List.map_nil, if_true, if_false, Bool.not_true, Bool.not_false, Bool.false_eq_true, reduceIte, decide_true, decide_false, Int.reduceLT, Int.reduceLE, Int.reduceGT, Int.reduceGE, Int.reduceEq, Int.reduceBEq, Int.reduceBNe, load_ptr, ldV_some, cellAt_cells, List.getElem?_cons_zero, List.getElem?_cons_succ, store_ptr, stO_some, setAt_0, setAt_1, setAt_2, setAt_3, setAt_4, setAt_5, setAt_6, setAt_7, setAt_8, setAt_9, setAt_10, setAt_11, setAt_12, cells_int, cells_bool, cells_str, cells_nils, cells_nilp, cells_ptr, cells_sl, cells_u8, cells_u16, cells_agg, get_upd_is, Option.isSome_some, upd_upd, ev1_nchkV, ev1_faV, nchkV_ptr, faV_ptr, ev1_extV, extV_tup, eqptr_nil, eqptr_ptr, Nat.zero_add, Nat.add_zero, qPL0, qPL1, qPL2, qPL3, qPL4, qPL5, beq_self_eq_true]
            rfl
          · simp only [M23b0, ERn, hr, runeV, ne, ev1_extV, qES0, qES1, qES2, env0, List.length_cons, List.length_nil, Nat.reduceAdd, Nat.reduceSub, List.replicate, List.cons_append, List.nil_append, opd, Env.put, Env.at, List.set_cons_zero, List.set_cons_succ, List.getD_cons_zero, List.getD_cons_succ, freezeL, resVs, oneOr, Option.map_some, Option.map_none, List.map_cons, List.map_nil, if_true, if_false, Bool.not_true, Bool.not_false, Bool.false_eq_true, reduceIte, decide_true, decide_false, Int.reduceLT, Int.reduceLE, Int.reduceGT, Int.reduceGE, Int.reduceEq, Int.reduceBEq, Int.reduceBNe, load_ptr, ldV_some, cellAt_cells, List.getElem?_cons_zero, List.getElem?_cons_succ, store_ptr, stO_some, setAt_0, setAt_1, setAt_2, setAt_3, setAt_4, setAt_5, setAt_6, setAt_7, setAt_8, setAt_9, setAt_10, setAt_11, setAt_12, cells_int, cells_bool, cells_str, cells_nils, cells_nilp, cells_ptr, cells_sl, cells_u8, cells_u16, cells_agg, get_upd_is, Option.isSome_some, upd_upd, ev1_nchkV, ev1_faV, nchkV_ptr, faV_ptr, ev1_extV, extV_tup, eqptr_nil, eqptr_ptr, Nat.zero_add, Nat.add_zero, qPL0, qPL1, qPL2, qPL3, qPL4, qPL5, beq_self_eq_true] at hh
            cases hh
        · have e1 : decV d = ((d.1 : Int), d.2, true) := if_neg hb
          rw [e1] at hr
          by_cases hk : kindOf (d.1 : Nat) = 0
          · right
            have q : (kindOf (d.1 : Nat) == 0) = true := by simp [hk]
            have hRf : R = false := by rw [h4]; simp [hk]
            refine ⟨?_, fun e' s' hh => ?_⟩
            · rw [hRf]
              simp only [M23, M23b0, ERn, hr, runeV, ne, kd, q, ev1_extV, qES0, qES1, qES2, env0, List.length_cons, List.length_nil, Nat.reduceAdd, Nat.reduceSub, List.replicate, List.cons_append, List.nil_append, opd, Env.put, Env.at, List.set_cons_zero, List.set_cons_succ, List.getD_cons_zero, List.getD_cons_succ, freezeL, resVs, oneOr, Option.map_some, Option.map_none, List.map_cons, List.map_nil, if_true, if_false, Bool.not_true, Bool.not_false, Bool.false_eq_true, reduceIte, decide_true, decide_false, Int.reduceLT, Int.reduceLE, Int.reduceGT, Int.reduceGE, Int.reduceEq, Int.reduceBEq, Int.reduceBNe, load_ptr, ldV_some, cellAt_cells, List.getElem?_cons_zero, List.getElem?_cons_succ, store_ptr, stO_some, setAt_0, setAt_1, setAt_2, setAt_3, setAt_4, setAt_5, setAt_6, setAt_7, setAt_8, setAt_9, setAt_10, setAt_11, setAt_12, cells_int, cells_bool, cells_str, cells_nils, cells_nilp, cells_ptr, cells_sl, cells_u8, cells_u16, cells_agg, get_upd_is, Option.isSome_some, upd_upd, ev1_nchkV, ev1_faV, nchkV_ptr, faV_ptr, ev1_extV, extV_tup, eqptr_nil, eqptr_ptr, Nat.zero_add, Nat.add_zero, qPL0, qPL1, qPL2, qPL3, qPL4, qPL5, beq_self_eq_true]
              rfl
            · simp only [M23b0, ERn, hr, runeV, ne, kd, q, ev1_extV, qES0, qES1, qES2, env0, List.length_cons, List.length_nil, Nat.reduceAdd, Nat.reduceSub, List.replicate, List.cons_append, List.nil_append, opd, Env.put, Env.at, List.set_cons_zero, List.set_cons_succ, List.getD_cons_zero, List.getD_cons_succ, freezeL, resVs, oneOr, Option.map_some, Option.map_none, List.map_cons, List.map_nil, if_true, if_false, Bool.not_true, Bool.not_false, Bool.false_eq_true, reduceIte, decide_true, decide_false, Int.reduceLT, Int.reduceLE, Int.reduceGT, Int.reduceGE, Int.reduceEq, Int.reduceBEq, Int.reduceBNe, load_ptr, ldV_some, cellAt_cells, List.getElem?_cons_zero, List.getElem?_cons_succ, store_ptr, stO_some, setAt_0, setAt_1, setAt_2, setAt_3, setAt_4, setAt_5, setAt_6, setAt_7, setAt_8, setAt_9, setAt_10, setAt_11, setAt_12, cells_int, cells_bool, cells_str, cells_nils, cells_nilp, cells_ptr, cells_sl, cells_u8, cells_u16, cells_agg, get_upd_is, Option.isSome_some, upd_upd, ev1_nchkV, ev1_faV, nchkV_ptr, faV_ptr, ev1_extV, extV_tup, eqptr_nil, eqptr_ptr, Nat.zero_add, Nat.add_zero, qPL0, qPL1, qPL2, qPL3, qPL4, qPL5, beq_self_eq_true] at hh
              cases hh
          · left
            have q : (kindOf (d.1 : Nat) == 0) = false := by simp [hk]
            simp only [M23b0, ERn, hr, runeV, ne, kd, q, sl, ev1_slsV, ev1_extV, qES0, qES1, qES2, env0, List.length_cons, List.length_nil, Nat.reduceAdd, Nat.reduceSub, List.replicate, List.cons_append, List.nil_append, opd, Env.put, Env.at, List.set_cons_zero, List.set_cons_succ, List.getD_cons_zero, List.getD_cons_succ, freezeL, resVs, oneOr, Option.map_some, Option.map_none, List.map_cons, List.map_nil, if_true, if_false, Bool.not_true, Bool.not_false, Bool.false_eq_true, reduceIte, decide_true, decide_false, Int.reduceLT, Int.reduceLE, Int.reduceGT, Int.reduceGE, Int.reduceEq, Int.reduceBEq, Int.reduceBNe, load_ptr, ldV_some, cellAt_cells, List.getElem?_cons_zero, List.getElem?_cons_succ, store_ptr, stO_some, setAt_0, setAt_1, setAt_2, setAt_3, setAt_4, setAt_5, setAt_6, setAt_7, setAt_8, setAt_9, setAt_10, setAt_11, setAt_12, cells_int, cells_bool, cells_str, cells_nils, cells_nilp, cells_ptr, cells_sl, cells_u8, cells_u16, cells_agg, get_upd_is, Option.isSome_some, upd_upd, ev1_nchkV, ev1_faV, nchkV_ptr, faV_ptr, ev1_extV, extV_tup, eqptr_nil, eqptr_ptr, Nat.zero_add, Nat.add_zero, qPL0, qPL1, qPL2, qPL3, qPL4, qPL5, beq_self_eq_true]
            refine ⟨_, _, rfl, p + d.2, ?_, rfl, by omega, ?_⟩
            · rw [hnx]; rfl
            · rw [h4]
              simp only [bne, q, Bool.not_false, Bool.true_and]
              rw [show l.length + 1 - (i + 1) = l.length - i by omega]
      · right
        rw [if_neg hp] at h4
        have ne : binV .neq (.str []) (.str []) = some (.bool false) := rfl
        rw [List.drop_eq_nil_of_le (by omega)]
        refine ⟨?_, fun e' s' hh => ?_⟩
        · rw [h4]
          simp only [M23, M23r0, M23b0, ERn, ne, ev1_lensV', lensV', qES0, qES1, qES2, env0, List.length_cons, List.length_nil, Nat.reduceAdd, Nat.reduceSub, List.replicate, List.cons_append, List.nil_append, opd, Env.put, Env.at, List.set_cons_zero, List.set_cons_succ, List.getD_cons_zero, List.getD_cons_succ, freezeL, resVs, oneOr, Option.map_some, Option.map_none, List.map_cons, List.map_nil, if_true, if_false, Bool.not_true, Bool.not_false, Bool.false_eq_true, reduceIte, decide_true, decide_false, Int.reduceLT, Int.reduceLE, Int.reduceGT, Int.reduceGE, Int.reduceEq, Int.reduceBEq, Int.reduceBNe, load_ptr, ldV_some, cellAt_cells, List.getElem?_cons_zero, List.getElem?_cons_succ, store_ptr, stO_some, setAt_0, setAt_1, setAt_2, setAt_3, setAt_4, setAt_5, setAt_6, setAt_7, setAt_8, setAt_9, setAt_10, setAt_11, setAt_12, cells_int, cells_bool, cells_str, cells_nils, cells_nilp, cells_ptr, cells_sl, cells_u8, cells_u16, cells_agg, get_upd_is, Option.isSome_some, upd_upd, ev1_nchkV, ev1_faV, nchkV_ptr, faV_ptr, ev1_extV, extV_tup, eqptr_nil, eqptr_ptr, Nat.zero_add, Nat.add_zero, qPL0, qPL1, qPL2, qPL3, qPL4, qPL5, beq_self_eq_true]
          simp
          rfl
        · simp only [M23b0, ERn, ne, qES0, qES1, qES2, env0, List.length_cons, List.length_nil, Nat.reduceAdd, Nat.reduceSub, List.replicate, List.cons_append, List.nil_append, opd, Env.put, Env.at, List.set_cons_zero, List.set_cons_succ, List.getD_cons_zero, List.getD_cons_succ, freezeL, resVs, oneOr, Option.map_some, Option.map_none, List.map_cons, List.map_nil, if_true, if_false, Bool.not_true, Bool.not_false, Bool.false_eq_true, reduceIte, decide_true, decide_false, Int.reduceLT, Int.reduceLE, Int.reduceGT, Int.reduceGE, Int.reduceEq, Int.reduceBEq, Int.reduceBNe, load_ptr, ldV_some, cellAt_cells, List.getElem?_cons_zero, List.getElem?_cons_succ, store_ptr, stO_some, setAt_0, setAt_1, setAt_2, setAt_3, setAt_4, setAt_5, setAt_6, setAt_7, setAt_8, setAt_9, setAt_10, setAt_11, setAt_12, cells_int, cells_bool, cells_str, cells_nils, cells_nilp, cells_ptr, cells_sl, cells_u8, cells_u16, cells_agg, get_upd_is, Option.isSome_some, upd_upd, ev1_nchkV, ev1_faV, nchkV_ptr, faV_ptr, ev1_extV, extV_tup, eqptr_nil, eqptr_ptr, Nat.zero_add, Nat.add_zero, qPL0, qPL1, qPL2, qPL3, qPL4, qPL5, beq_self_eq_true] at hh
          cases hh
    · rintro e st ⟨p, h1, rfl, h3, h4⟩
      rw [h1]
      have hp : ¬ p < l.length := by omega
      rw [show l.length + 1 - l.length = 0 + 1 by omega] at h4
      unfold nickOk at h4
      rw [if_neg hp] at h4
      have ne : binV .neq (.str []) (.str []) = some (.bool false) := rfl
      rw [List.drop_eq_nil_of_le (by omega)]
      refine ⟨?_, fun e' s' hh => ?_⟩
      · rw [h4]
        simp only [M23, M23r0, M23b0, ERn, ne, ev1_lensV', lensV', qES0, qES1, qES2, env0, List.length_cons, List.length_nil, Nat.reduceAdd, Nat.reduceSub, List.replicate, List.cons_append, List.nil_append, opd, Env.put, Env.at, List.set_cons_zero, List.set_cons_succ, List.getD_cons_zero, List.getD_cons_succ, freezeL, resVs, oneOr, Option.map_some, Option.map_none, List.map_cons, List.map_nil, if_true, if_false, Bool.not_true, Bool.not_false, Bool.false_eq_true, reduceIte, decide_true, decide_false, Int.reduceLT, Int.reduceLE, Int.reduceGT, Int.reduceGE, Int.reduceEq, Int.reduceBEq, Int.reduceBNe, load_ptr, ldV_some, cellAt_cells, List.getElem?_cons_zero, List.getElem?_cons_succ, store_ptr, stO_some, setAt_0, setAt_1, setAt_2, setAt_3, setAt_4, setAt_5, setAt_6, setAt_7, setAt_8, setAt_9, setAt_10, setAt_11, setAt_12, cells_int, cells_bool, cells_str, cells_nils, cells_nilp, cells_ptr, cells_sl, cells_u8, cells_u16, cells_agg, get_upd_is, Option.isSome_some, upd_upd, ev1_nchkV, ev1_faV, nchkV_ptr, faV_ptr, ev1_extV, extV_tup, eqptr_nil, eqptr_ptr, Nat.zero_add, Nat.add_zero, qPL0, qPL1, qPL2, qPL3, qPL4, qPL5, beq_self_eq_true]
        simp
        rfl
      · simp only [M23b0, ERn, ne, qES0, qES1, qES2, env0, List.length_cons, List.length_nil, Nat.reduceAdd, Nat.reduceSub, List.replicate, List.cons_append, List.nil_append, opd, Env.put, Env.at, List.set_cons_zero, List.set_cons_succ, List.getD_cons_zero, List.getD_cons_succ, freezeL, resVs, oneOr, Option.map_some, Option.map_none, List.map_cons, List.map_nil, if_true, if_false, Bool.not_true, Bool.not_false, Bool.false_eq_true, reduceIte, decide_true, decide_false, Int.reduceLT, Int.reduceLE, Int.reduceGT, Int.reduceGE, Int.reduceEq, Int.reduceBEq, Int.reduceBNe, load_ptr, ldV_some, cellAt_cells, List.getElem?_cons_zero, List.getElem?_cons_succ, store_ptr, stO_some, setAt_0, setAt_1, setAt_2, setAt_3, setAt_4, setAt_5, setAt_6, setAt_7, setAt_8, setAt_9, setAt_10, setAt_11, setAt_12, cells_int, cells_bool, cells_str, cells_nils, cells_nilp, cells_ptr, cells_sl, cells_u8, cells_u16, cells_agg, get_upd_is, Option.isSome_some, upd_upd, ev1_nchkV, ev1_faV, nchkV_ptr, faV_ptr, ev1_extV, extV_tup, eqptr_nil, eqptr_ptr, Nat.zero_add, Nat.add_zero, qPL0, qPL1, qPL2, qPL3, qPL4, qPL5, beq_self_eq_true] at hh
        cases hh
  simp only [M23, evC_loop, qES0, qES1, qES2, env0, List.length_cons, List.length_nil, Nat.reduceAdd, Nat.reduceSub, List.replicate, List.cons_append, List.nil_append, opd, Env.put, Env.at, List.set_cons_zero, List.set_cons_succ, List.getD_cons_zero, List.getD_cons_succ, freezeL, resVs, oneOr, Option.map_some, Option.map_none, List.map_cons, List.map_nil, if_true, if_false, Bool.not_true, Bool.not_false, Bool.false_eq_true, reduceIte, decide_true, decide_false, Int.reduceLT, Int.reduceLE, Int.reduceGT, Int.reduceGE, Int.reduceEq, Int.reduceBEq, Int.reduceBNe, load_ptr, ldV_some, cellAt_cells, List.getElem?_cons_zero, List.getElem?_cons_succ, store_ptr, stO_some, setAt_0, setAt_1, setAt_2, setAt_3, setAt_4, setAt_5, setAt_6, setAt_7, setAt_8, setAt_9, setAt_10, setAt_11, setAt_12, cells_int, cells_bool, cells_str, cells_nils, cells_nilp, cells_ptr, cells_sl, cells_u8, cells_u16, cells_agg, get_upd_is, Option.isSome_some, upd_upd, ev1_nchkV, ev1_faV, nchkV_ptr, faV_ptr, ev1_extV, extV_tup, eqptr_nil, eqptr_ptr, Nat.zero_add, Nat.add_zero, qPL0, qPL1, qPL2, qPL3, qPL4, qPL5, beq_self_eq_true]
  exact key _ rfl
end Go.Proofs.YthcblggiojpmcaaDoor
