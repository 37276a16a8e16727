/- Numbers that come again: mod.Add, Diff, In and the document's Mod, In, as the evaluator answers them. No conditions. -/
import Derived.Test.YtochnineebgbgaaDoorSet
import Derived.Test.YtochnineebgbgaaDoorM12
import Derived.Test.YtochnineebgbgaaDoorBegunT12
set_option linter.unusedSimpArgs false
set_option linter.unusedVariables false
set_option maxRecDepth 100000
namespace Go.Ab
open Go
theorem neg_int (k : IntKind) (n : Int) : unV .neg (.int k n) = some (.int k (k.wrap (0 - n))) := (id rfl)
end Go.Ab
namespace Go.Proofs.YtochnineebgbgaaDoor
open Go Go.Ab
theorem tm8 (x : Int) : ∃ q, x.tmod 8 = x - 8 * q ∧ -8 < x.tmod 8 ∧ x.tmod 8 < 8 ∧ (0 ≤ x → 0 ≤ x.tmod 8) := by
  refine ⟨x.tdiv 8, ?_, ?_, Int.tmod_lt_of_pos x (by omega), fun h => Int.tmod_nonneg 8 h⟩
  · have := Int.mul_tdiv_add_tmod x 8; omega
  · rcases Int.le_total 0 x with h | h
    · have := Int.tmod_nonneg 8 h; omega
    · have := Int.tmod_lt_of_pos (-x) (show (0 : Int) < 8 by omega)
      rw [Int.neg_tmod] at this
      omega
theorem mod8 (x : Int) : (x.tmod 8 + 8).tmod 8 = x % 8 := by
  obtain ⟨q, h1, h2, h3, _⟩ := tm8 x
  obtain ⟨q2, g1, g2, g3, g4⟩ := tm8 (x.tmod 8 + 8)
  have := g4 (by omega)
  omega
theorem add8 (a n : Int) : ((a.tmod 8 + n.tmod 8).tmod 8 + 8).tmod 8 = (a + n) % 8 := by
  rw [mod8]
  obtain ⟨q, h1, h2, h3, _⟩ := tm8 a
  obtain ⟨q2, g1, g2, g3, g4⟩ := tm8 n
  omega
theorem add_ev (k : Nat) (a n : Int) (s : St) : evT (k + 1) 22 [.int .i64 a, .int .i64 n] s = some (.int .i64 ((a + n) % 8), s) := by
  rw [evT_in rfl tab22]
  have r1 := i64_rem a 8 (by omega)
  have r2 := i64_rem n 8 (by omega)
  obtain ⟨q, h1, h2, h3, _⟩ := tm8 a
  obtain ⟨q2, g1, g2, g3, g4⟩ := tm8 n
  obtain ⟨q3, k1, k2, k3, k4⟩ := tm8 (a.tmod 8 + n.tmod 8)
  have w1 : IntKind.i64.wrap (a.tmod 8 + n.tmod 8) = a.tmod 8 + n.tmod 8 := wrapI _ (by omega) (by omega)
  have r3 := i64_rem (a.tmod 8 + n.tmod 8) 8 (by omega)
  have w2 : IntKind.i64.wrap ((a.tmod 8 + n.tmod 8).tmod 8 + 8) = (a.tmod 8 + n.tmod 8).tmod 8 + 8 := wrapI _ (by omega) (by omega)
  have r4 := i64_rem ((a.tmod 8 + n.tmod 8).tmod 8 + 8) 8 (by omega)
  rw [add8] at r4
  simp only [M22, r1, r2, r3, r4, w1, w2, qES0, qES1, qES2, env0, List.length_cons, List.length_nil, Nat.reduceAdd, Nat.reduceSub, List.replicate, List.cons_append, List.nil_append, opd, Env.put, Env.at, List.set_cons_zero, List.set_cons_succ, List.getD_cons_zero, List.getD_cons_succ, freezeL, resVs, oneOr, Option.map_some, Option.map_none, List.map_cons, List.map_nil, if_true, if_false, Bool.not_true, Bool.not_false, Bool.false_eq_true, reduceIte, decide_true, decide_false, Int.reduceLT, Int.reduceLE, Int.reduceGT, Int.reduceGE, Int.reduceEq, Int.reduceBEq, Int.reduceBNe, load_ptr, ldV_some, cellAt_cells, List.getElem?_cons_zero, List.getElem?_cons_succ, store_ptr, stO_some, setAt_0, setAt_1, setAt_2, setAt_3, setAt_4, setAt_5, setAt_6, setAt_7, setAt_8, setAt_9, setAt_10, setAt_11, setAt_12, cells_int, cells_bool, cells_str, cells_nils, cells_nilp, cells_ptr, cells_sl, cells_u8, cells_u16, cells_agg, get_upd_is, Option.isSome_some, upd_upd, ev1_nchkV, ev1_faV, nchkV_ptr, faV_ptr, ev1_extV, extV_tup, eqptr_nil, eqptr_ptr, Nat.zero_add, Nat.add_zero, qPL0, qPL1, qPL2, qPL3, qPL4, qPL5, beq_self_eq_true]
theorem rmod_ev (k : Nat) (a : Int) (s : St) : evT (k + 1) 23 [.int .i64 a] s = some (.int .i64 (a % 8), s) := by
  rw [evT_in rfl tab23]
  have r1 := i64_rem a 8 (by omega)
  obtain ⟨q, h1, h2, h3, _⟩ := tm8 a
  have w1 : IntKind.i64.wrap (a.tmod 8 + 8) = a.tmod 8 + 8 := wrapI _ (by omega) (by omega)
  have r2 := i64_rem (a.tmod 8 + 8) 8 (by omega)
  rw [mod8] at r2
  simp only [M23, r1, r2, w1, qES0, qES1, qES2, env0, List.length_cons, List.length_nil, Nat.reduceAdd, Nat.reduceSub, List.replicate, List.cons_append, List.nil_append, opd, Env.put, Env.at, List.set_cons_zero, List.set_cons_succ, List.getD_cons_zero, List.getD_cons_succ, freezeL, resVs, oneOr, Option.map_some, Option.map_none, List.map_cons, List.map_nil, if_true, if_false, Bool.not_true, Bool.not_false, Bool.false_eq_true, reduceIte, decide_true, decide_false, Int.reduceLT, Int.reduceLE, Int.reduceGT, Int.reduceGE, Int.reduceEq, Int.reduceBEq, Int.reduceBNe, load_ptr, ldV_some, cellAt_cells, List.getElem?_cons_zero, List.getElem?_cons_succ, store_ptr, stO_some, setAt_0, setAt_1, setAt_2, setAt_3, setAt_4, setAt_5, setAt_6, setAt_7, setAt_8, setAt_9, setAt_10, setAt_11, setAt_12, cells_int, cells_bool, cells_str, cells_nils, cells_nilp, cells_ptr, cells_sl, cells_u8, cells_u16, cells_agg, get_upd_is, Option.isSome_some, upd_upd, ev1_nchkV, ev1_faV, nchkV_ptr, faV_ptr, ev1_extV, extV_tup, eqptr_nil, eqptr_ptr, Nat.zero_add, Nat.add_zero, qPL0, qPL1, qPL2, qPL3, qPL4, qPL5, beq_self_eq_true]
theorem diff_ev (k : Nat) (a b : Int) (s : St) : evT (k + 2) 24 [.int .i64 a, .int .i64 b] s = some (.int .i64 ((a - b) % 8), s) := by
  rw [show k + 2 = (k + 1) + 1 from rfl, evT_in rfl tab24]
  have r1 := i64_rem b 8 (by omega)
  obtain ⟨q, h1, h2, h3, _⟩ := tm8 b
  have w1 : IntKind.i64.wrap (0 - b.tmod 8) = - b.tmod 8 := (wrapI _ (by omega) (by omega)).trans (by omega)
  have h22 := add_ev k a (- b.tmod 8)
  rw [show (a + - b.tmod 8) % 8 = (a - b) % 8 by omega] at h22
  simp only [M24, r1, neg_int, w1, h22, qES0, qES1, qES2, env0, List.length_cons, List.length_nil, Nat.reduceAdd, Nat.reduceSub, List.replicate, List.cons_append, List.nil_append, opd, Env.put, Env.at, List.set_cons_zero, List.set_cons_succ, List.getD_cons_zero, List.getD_cons_succ, freezeL, resVs, oneOr, Option.map_some, Option.map_none, List.map_cons, List.map_nil, if_true, if_false, Bool.not_true, Bool.not_false, Bool.false_eq_true, reduceIte, decide_true, decide_false, Int.reduceLT, Int.reduceLE, Int.reduceGT, Int.reduceGE, Int.reduceEq, Int.reduceBEq, Int.reduceBNe, load_ptr, ldV_some, cellAt_cells, List.getElem?_cons_zero, List.getElem?_cons_succ, store_ptr, stO_some, setAt_0, setAt_1, setAt_2, setAt_3, setAt_4, setAt_5, setAt_6, setAt_7, setAt_8, setAt_9, setAt_10, setAt_11, setAt_12, cells_int, cells_bool, cells_str, cells_nils, cells_nilp, cells_ptr, cells_sl, cells_u8, cells_u16, cells_agg, get_upd_is, Option.isSome_some, upd_upd, ev1_nchkV, ev1_faV, nchkV_ptr, faV_ptr, ev1_extV, extV_tup, eqptr_nil, eqptr_ptr, Nat.zero_add, Nat.add_zero, qPL0, qPL1, qPL2, qPL3, qPL4, qPL5, beq_self_eq_true]
theorem tmR (n d : Int) (hd : 0 < d) : -d < n.tmod d ∧ n.tmod d < d := by
  refine ⟨?_, Int.tmod_lt_of_pos n hd⟩
  rcases Int.le_total 0 n with h | h
  · have := Int.tmod_nonneg d h; omega
  · have := Int.tmod_lt_of_pos (-n) hd
    rw [Int.neg_tmod] at this
    omega
theorem wrapB (n : Int) (h : -4611686018427387904 ≤ n) (g : n ≤ 4611686018427387904) : IntKind.i64.wrap n = n := by rw [IntKind.wrap_i64]; omega
/-- Among how many. -/
def kOf (n : Int) : Int := if (8 : Int) < (if (0 : Int) > n then 0 else n) then 8 else (if (0 : Int) > n then 0 else n)
theorem kOf_range (n : Int) : 0 ≤ kOf n ∧ kOf n ≤ 8 := by
  unfold kOf
  split <;> split <;> omega
theorem in_ev (k : Nat) (x f n : Int) (s : St) : evT (k + 3) 25 [.int .i64 x, .int .i64 f, .int .i64 n] s = some (.bool (decide ((x - f) % 8 < kOf n)), s) := by
  rw [show k + 3 = (k + 2) + 1 from rfl, evT_in rfl tab25]
  have h24 := diff_ev k x f
  simp only [M25, h24, kOf, qES0, qES1, qES2, env0, List.length_cons, List.length_nil, Nat.reduceAdd, Nat.reduceSub, List.replicate, List.cons_append, List.nil_append, opd, Env.put, Env.at, List.set_cons_zero, List.set_cons_succ, List.getD_cons_zero, List.getD_cons_succ, freezeL, resVs, oneOr, Option.map_some, Option.map_none, List.map_cons, List.map_nil, if_true, if_false, Bool.not_true, Bool.not_false, Bool.false_eq_true, reduceIte, decide_true, decide_false, Int.reduceLT, Int.reduceLE, Int.reduceGT, Int.reduceGE, Int.reduceEq, Int.reduceBEq, Int.reduceBNe, load_ptr, ldV_some, cellAt_cells, List.getElem?_cons_zero, List.getElem?_cons_succ, store_ptr, stO_some, setAt_0, setAt_1, setAt_2, setAt_3, setAt_4, setAt_5, setAt_6, setAt_7, setAt_8, setAt_9, setAt_10, setAt_11, setAt_12, cells_int, cells_bool, cells_str, cells_nils, cells_nilp, cells_ptr, cells_sl, cells_u8, cells_u16, cells_agg, get_upd_is, Option.isSome_some, upd_upd, ev1_nchkV, ev1_faV, nchkV_ptr, faV_ptr, ev1_extV, extV_tup, eqptr_nil, eqptr_ptr, Nat.zero_add, Nat.add_zero, qPL0, qPL1, qPL2, qPL3, qPL4, qPL5, beq_self_eq_true]
  rfl
def E26 (x f n i : Int) : Env := [.int .i64 x, .int .i64 f, .int .i64 n, .undef, .undef, .undef, .undef, .int .i64 i, .undef, .undef, .undef, .undef, .undef, .undef, .undef, .undef, .undef, .undef, .undef, .undef, .undef, .undef, .undef]
theorem round26 (k : Nat) (x f n : Int) (i : Nat) (hi : (i : Int) < kOf n) (s : St) :
    (¬ (f + i) % 8 = x % 8 ∧ ∃ e', evC tabGl (evT (k + 19)) (k + 19) M26b0 (E26 x f n i) s = some (.nrm, e', s) ∧ maskE M26b0l e' = E26 x f n ((i + 1 : Nat) : Int)) ∨
    ((f + i) % 8 = x % 8 ∧ ∃ e', evC tabGl (evT (k + 19)) (k + 19) M26b0 (E26 x f n i) s = some (.ret, e', s) ∧ e'.getD 6 .undef = .bool true) := by
  have hr := kOf_range n
  have hlt : ((i : Int) < kOf n) = True := eq_true hi
  have m1 := rmod_ev (k + 18) f
  have m2 := rmod_ev (k + 18) x
  have w0 : IntKind.i64.wrap (f % 8 + (i : Int)) = f % 8 + (i : Int) := wrapI _ (by omega) (by omega)
  have m3 := rmod_ev (k + 18) (f % 8 + (i : Int))
  rw [show (f % 8 + (i : Int)) % 8 = (f + i) % 8 by omega] at m3
  have w1 : IntKind.i64.wrap ((i : Int) + 1) = ((i + 1 : Nat) : Int) := (wrapI _ (by omega) (by omega)).trans (by omega)
  by_cases h : (f + i) % 8 = x % 8
  · right
    refine ⟨h, ?_⟩
    have hb : ((f + (i : Int)) % 8 == x % 8) = true := beq_iff_eq.2 h
    simp only [kOf] at hlt
    simp only [M26b0, E26, hlt, m1, m2, m3, w0, hb, qES0, qES1, qES2, env0, List.length_cons, List.length_nil, Nat.reduceAdd, Nat.reduceSub, List.replicate, List.cons_append, List.nil_append, opd, Env.put, Env.at, List.set_cons_zero, List.set_cons_succ, List.getD_cons_zero, List.getD_cons_succ, freezeL, resVs, oneOr, Option.map_some, Option.map_none, List.map_cons, List.map_nil, if_true, if_false, Bool.not_true, Bool.not_false, Bool.false_eq_true, reduceIte, decide_true, decide_false, Int.reduceLT, Int.reduceLE, Int.reduceGT, Int.reduceGE, Int.reduceEq, Int.reduceBEq, Int.reduceBNe, load_ptr, ldV_some, cellAt_cells, List.getElem?_cons_zero, List.getElem?_cons_succ, store_ptr, stO_some, setAt_0, setAt_1, setAt_2, setAt_3, setAt_4, setAt_5, setAt_6, setAt_7, setAt_8, setAt_9, setAt_10, setAt_11, setAt_12, cells_int, cells_bool, cells_str, cells_nils, cells_nilp, cells_ptr, cells_sl, cells_u8, cells_u16, cells_agg, get_upd_is, Option.isSome_some, upd_upd, ev1_nchkV, ev1_faV, nchkV_ptr, faV_ptr, ev1_extV, extV_tup, eqptr_nil, eqptr_ptr, Nat.zero_add, Nat.add_zero, qPL0, qPL1, qPL2, qPL3, qPL4, qPL5, beq_self_eq_true]
    exact ⟨_, rfl, rfl⟩
  · left
    refine ⟨h, ?_⟩
    have hb : ((f + (i : Int)) % 8 == x % 8) = false := beq_eq_false_iff_ne.2 h
    simp only [kOf] at hlt
    simp only [M26b0, E26, hlt, m1, m2, m3, w0, w1, hb, qES0, qES1, qES2, env0, List.length_cons, List.length_nil, Nat.reduceAdd, Nat.reduceSub, List.replicate, List.cons_append, List.nil_append, opd, Env.put, Env.at, List.set_cons_zero, List.set_cons_succ, List.getD_cons_zero, List.getD_cons_succ, freezeL, resVs, oneOr, Option.map_some, Option.map_none, List.map_cons, List.map_nil, if_true, if_false, Bool.not_true, Bool.not_false, Bool.false_eq_true, reduceIte, decide_true, decide_false, Int.reduceLT, Int.reduceLE, Int.reduceGT, Int.reduceGE, Int.reduceEq, Int.reduceBEq, Int.reduceBNe, load_ptr, ldV_some, cellAt_cells, List.getElem?_cons_zero, List.getElem?_cons_succ, store_ptr, stO_some, setAt_0, setAt_1, setAt_2, setAt_3, setAt_4, setAt_5, setAt_6, setAt_7, setAt_8, setAt_9, setAt_10, setAt_11, setAt_12, cells_int, cells_bool, cells_str, cells_nils, cells_nilp, cells_ptr, cells_sl, cells_u8, cells_u16, cells_agg, get_upd_is, Option.isSome_some, upd_upd, ev1_nchkV, ev1_faV, nchkV_ptr, faV_ptr, ev1_extV, extV_tup, eqptr_nil, eqptr_ptr, Nat.zero_add, Nat.add_zero, qPL0, qPL1, qPL2, qPL3, qPL4, qPL5, beq_self_eq_true]
    exact ⟨_, rfl, rfl⟩
theorem rin_ev (k : Nat) (x f n : Int) (s : St) : evT (k + 20) 26 [.int .i64 x, .int .i64 f, .int .i64 n] s = some (.bool (decide ((x - f) % 8 < kOf n)), s) := by
  rw [show k + 20 = (k + 19) + 1 from rfl, evT_in rfl tab26]
  have hr := kOf_range n
  have hl : (∃ e', iter (evC tabGl (evT (k + 19)) (k + 19) M26b0) M26b0l (k + 19) ((E26 x f n 0).set 6 (.bool false)) s = some (.ret, e', s) ∧ e'.getD 6 .undef = .bool true ∧ (x - f) % 8 < kOf n) ∨
      (∃ e', iter (evC tabGl (evT (k + 19)) (k + 19) M26b0) M26b0l (k + 19) ((E26 x f n 0).set 6 (.bool false)) s = some (.exit 0, e', s) ∧ e'.length = 23 ∧ ¬ (x - f) % 8 < kOf n) := by
    refine iter_leave (evC tabGl (evT (k + 19)) (k + 19) M26b0) M26b0l (fun i e st => maskE M26b0l e = E26 x f n (i : Nat) ∧ st = s ∧ ∀ j : Nat, j < i → ¬ (f + j) % 8 = x % 8)
      (fun out => (∃ e', out = some (.ret, e', s) ∧ e'.getD 6 .undef = .bool true ∧ (x - f) % 8 < kOf n) ∨ (∃ e', out = some (.exit 0, e', s) ∧ e'.length = 23 ∧ ¬ (x - f) % 8 < kOf n)) (kOf n).toNat ?_ ?_ (kOf n).toNat 0 _ _ (k + 19) (by omega) ⟨rfl, rfl, fun j hj => absurd hj (by omega)⟩ (by omega)
    · rintro i e st hi ⟨h1, rfl, h3⟩
      rw [h1]
      rcases round26 k x f n i (by omega) st with ⟨nh, e', g1, g2⟩ | ⟨hh, e', g1, g2⟩
      · refine .inl ⟨e', _, g1, g2, rfl, fun j hj => ?_⟩
        by_cases h : j < i
        · exact h3 j h
        · have : j = i := by omega
          subst this
          exact nh
      · rw [g1]
        exact .inr ⟨.inl ⟨e', rfl, g2, by omega⟩, fun _ _ h => by cases h⟩
    · rintro e st ⟨h1, rfl, h3⟩
      rw [h1]
      have hK : (((kOf n).toNat : Nat) : Int) = kOf n := Int.toNat_of_nonneg hr.1
      have hnlt : ((((kOf n).toNat : Nat) : Int) < kOf n) = False := eq_false (by omega)
      have hx : ∃ e', evC tabGl (evT (k + 19)) (k + 19) M26b0 (E26 x f n ((kOf n).toNat : Nat)) st = some (.exit 0, e', st) ∧ e'.length = 23 := by
        generalize (((kOf n).toNat : Nat) : Int) = c at hnlt
        simp only [kOf] at hnlt
        simp only [M26b0, E26, hnlt, qES0, qES1, qES2, env0, List.length_cons, List.length_nil, Nat.reduceAdd, Nat.reduceSub, List.replicate, List.cons_append, List.nil_append, opd, Env.put, Env.at, List.set_cons_zero, List.set_cons_succ, List.getD_cons_zero, List.getD_cons_succ, freezeL, resVs, oneOr, Option.map_some, Option.map_none, List.map_cons, List.map_nil, if_true, if_false, Bool.not_true, Bool.not_false, Bool.false_eq_true, reduceIte, decide_true, decide_false, Int.reduceLT, Int.reduceLE, Int.reduceGT, Int.reduceGE, Int.reduceEq, Int.reduceBEq, Int.reduceBNe, load_ptr, ldV_some, cellAt_cells, List.getElem?_cons_zero, List.getElem?_cons_succ, store_ptr, stO_some, setAt_0, setAt_1, setAt_2, setAt_3, setAt_4, setAt_5, setAt_6, setAt_7, setAt_8, setAt_9, setAt_10, setAt_11, setAt_12, cells_int, cells_bool, cells_str, cells_nils, cells_nilp, cells_ptr, cells_sl, cells_u8, cells_u16, cells_agg, get_upd_is, Option.isSome_some, upd_upd, ev1_nchkV, ev1_faV, nchkV_ptr, faV_ptr, ev1_extV, extV_tup, eqptr_nil, eqptr_ptr, Nat.zero_add, Nat.add_zero, qPL0, qPL1, qPL2, qPL3, qPL4, qPL5, beq_self_eq_true]
        exact ⟨_, rfl, rfl⟩
      obtain ⟨e', g1, g2⟩ := hx
      rw [g1]
      refine ⟨.inr ⟨e', rfl, g2, fun h => ?_⟩, fun _ _ h => by cases h⟩
      refine h3 ((x - f) % 8).toNat (by omega) ?_
      omega
  have hev : evC tabGl (evT (k + 19)) (k + 19) M26.body (env0 M26.ntmps [.int .i64 x, .int .i64 f, .int .i64 n]) s = seqR (blockR 0 (iter (evC tabGl (evT (k + 19)) (k + 19) M26b0) M26b0l (k + 19) ((E26 x f n 0).set 6 (.bool false)) s)) (evC tabGl (evT (k + 19)) (k + 19) ((MC.reg [⟨some 6, MOp.mv (Opd.c (AV.bool false)), none⟩]).seq MC.ret)) := by
    simp only [M26, E26, evC_loop, qES0, qES1, qES2, env0, List.length_cons, List.length_nil, Nat.reduceAdd, Nat.reduceSub, List.replicate, List.cons_append, List.nil_append, opd, Env.put, Env.at, List.set_cons_zero, List.set_cons_succ, List.getD_cons_zero, List.getD_cons_succ, freezeL, resVs, oneOr, Option.map_some, Option.map_none, List.map_cons, List.map_nil, if_true, if_false, Bool.not_true, Bool.not_false, Bool.false_eq_true, reduceIte, decide_true, decide_false, Int.reduceLT, Int.reduceLE, Int.reduceGT, Int.reduceGE, Int.reduceEq, Int.reduceBEq, Int.reduceBNe, load_ptr, ldV_some, cellAt_cells, List.getElem?_cons_zero, List.getElem?_cons_succ, store_ptr, stO_some, setAt_0, setAt_1, setAt_2, setAt_3, setAt_4, setAt_5, setAt_6, setAt_7, setAt_8, setAt_9, setAt_10, setAt_11, setAt_12, cells_int, cells_bool, cells_str, cells_nils, cells_nilp, cells_ptr, cells_sl, cells_u8, cells_u16, cells_agg, get_upd_is, Option.isSome_some, upd_upd, ev1_nchkV, ev1_faV, nchkV_ptr, faV_ptr, ev1_extV, extV_tup, eqptr_nil, eqptr_ptr, Nat.zero_add, Nat.add_zero, qPL0, qPL1, qPL2, qPL3, qPL4, qPL5, beq_self_eq_true]
  rw [hev]
  rcases hl with ⟨e', g1, g2, g3⟩ | ⟨e', g1, g2, g3⟩
  · rw [g1]
    have d : decide ((x - f) % 8 < kOf n) = true := decide_eq_true g3
    rw [d]
    simp only [M26, g2, qES0, qES1, qES2, env0, List.length_cons, List.length_nil, Nat.reduceAdd, Nat.reduceSub, List.replicate, List.cons_append, List.nil_append, opd, Env.put, Env.at, List.set_cons_zero, List.set_cons_succ, List.getD_cons_zero, List.getD_cons_succ, freezeL, resVs, oneOr, Option.map_some, Option.map_none, List.map_cons, List.map_nil, if_true, if_false, Bool.not_true, Bool.not_false, Bool.false_eq_true, reduceIte, decide_true, decide_false, Int.reduceLT, Int.reduceLE, Int.reduceGT, Int.reduceGE, Int.reduceEq, Int.reduceBEq, Int.reduceBNe, load_ptr, ldV_some, cellAt_cells, List.getElem?_cons_zero, List.getElem?_cons_succ, store_ptr, stO_some, setAt_0, setAt_1, setAt_2, setAt_3, setAt_4, setAt_5, setAt_6, setAt_7, setAt_8, setAt_9, setAt_10, setAt_11, setAt_12, cells_int, cells_bool, cells_str, cells_nils, cells_nilp, cells_ptr, cells_sl, cells_u8, cells_u16, cells_agg, get_upd_is, Option.isSome_some, upd_upd, ev1_nchkV, ev1_faV, nchkV_ptr, faV_ptr, ev1_extV, extV_tup, eqptr_nil, eqptr_ptr, Nat.zero_add, Nat.add_zero, qPL0, qPL1, qPL2, qPL3, qPL4, qPL5, beq_self_eq_true]
  · rw [g1]
    have d : decide ((x - f) % 8 < kOf n) = false := decide_eq_false g3
    rw [d]
    have hg : (e'.set 6 (.bool false)).getD 6 .undef = .bool false := by
      rw [List.getD_eq_getElem?_getD, List.getElem?_set_self (by omega)]; rfl
    simp only [M26, hg, qES0, qES1, qES2, env0, List.length_cons, List.length_nil, Nat.reduceAdd, Nat.reduceSub, List.replicate, List.cons_append, List.nil_append, opd, Env.put, Env.at, List.set_cons_zero, List.set_cons_succ, List.getD_cons_zero, List.getD_cons_succ, freezeL, resVs, oneOr, Option.map_some, Option.map_none, List.map_cons, List.map_nil, if_true, if_false, Bool.not_true, Bool.not_false, Bool.false_eq_true, reduceIte, decide_true, decide_false, Int.reduceLT, Int.reduceLE, Int.reduceGT, Int.reduceGE, Int.reduceEq, Int.reduceBEq, Int.reduceBNe, load_ptr, ldV_some, cellAt_cells, List.getElem?_cons_zero, List.getElem?_cons_succ, store_ptr, stO_some, setAt_0, setAt_1, setAt_2, setAt_3, setAt_4, setAt_5, setAt_6, setAt_7, setAt_8, setAt_9, setAt_10, setAt_11, setAt_12, cells_int, cells_bool, cells_str, cells_nils, cells_nilp, cells_ptr, cells_sl, cells_u8, cells_u16, cells_agg, get_upd_is, Option.isSome_some, upd_upd, ev1_nchkV, ev1_faV, nchkV_ptr, faV_ptr, ev1_extV, extV_tup, eqptr_nil, eqptr_ptr, Nat.zero_add, Nat.add_zero, qPL0, qPL1, qPL2, qPL3, qPL4, qPL5, beq_self_eq_true]
end Go.Proofs.YtochnineebgbgaaDoor
