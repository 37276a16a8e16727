/- Beginnings: setup.Put, Get and the document's, as the evaluator answers them. No conditions. -/
import Derived.Test.YtbeimfhodgmjhaaDoorS1
set_option linter.unusedSimpArgs false
set_option linter.unusedVariables false
set_option maxRecDepth 100000
set_option maxHeartbeats 4000000
namespace Go.Proofs.YtbeimfhodgmjhaaDoor
open Go Go.Ab
structure Su where
  f : Int
  t : Int
  a : Int
  c : Int
  o : Of5
  deriving DecidableEq
def suC (f t a c b s w z ti : Int) : List AV := [.int .u32 f, .int .u32 t, .int .i64 a, .int .i64 c, .int .i64 b, .int .i64 s, .int .i64 w, .int .i64 z, .int .i64 ti]
def Su.cells (x : Su) : List AV := suC x.f x.t x.a x.c x.o.b x.o.s x.o.w x.o.z x.o.t
def Su.ok (x : Su) : Prop := is32 x.f ∧ is32 x.t
instance (x : Su) : Decidable x.ok := inferInstanceAs (Decidable (_ ∧ _))
def Su.may0 (x : Su) : Prop := nmd x.f = true ∧ nmd x.t = true ∧ 0 ≤ x.a ∧ x.a < 8 ∧ 0 ≤ x.c ∧ x.c < 250
instance (x : Su) : Decidable x.may0 := inferInstanceAs (Decidable (_ ∧ _))
def Su.may (x : Su) : Prop := x.may0 ∧ x.o.may
instance (x : Su) : Decidable x.may := inferInstanceAs (Decidable (_ ∧ _))
def setB (x : Su) : List UInt8 := four x.f ++ four x.t ++ [u8n x.a, u8n x.c] ++ offB x.o
def hdS (t : List UInt8) : Option (Int × Int × Int × Int) := match t with
  | a0 :: a1 :: a2 :: a3 :: b0 :: b1 :: b2 :: b3 :: c :: d :: _ => some (num4 a0 a1 a2 a3, num4 b0 b1 b2 b3, (c.toNat : Int), (d.toNat : Int))
  | _ => none
def getS (t : List UInt8) : Option Su := match hdS t, getO (t.drop 10) with
  | some (f, g, a, c), some o => if (Su.mk f g a c o).may then some ⟨f, g, a, c, o⟩ else none
  | _, _ => none
def zeroS : List AV := suC 0 0 0 0 0 0 0 0 0
def getSV (r : Option Su) : AV := match r with
  | some x => .tup [.agg x.cells, .bool true]
  | none => .tup [.agg zeroS, .bool false]
theorem smay_pl (k : Nat) (x : Su) (S : St) : evK (k + 2) 82 [.agg x.cells] S = some (.bool (decide x.may0), S.pl [.cells 0 x.cells, .cells 0 [.int .i64 x.a, .int .i64 x.c]]) := by
  obtain ⟨f, t, a, c, b, s, w, z, ti⟩ := x
  have n1 := named_ev k f
  have n2 := named_ev k t
  rw [show k + 2 = (k + 1) + 1 from rfl, evK_in rfl tab82, show S = S.pl [] from rfl]
  obtain ⟨R, hR⟩ : ∃ R, decide (nmd f = true ∧ nmd t = true ∧ 0 ≤ a ∧ a < 8 ∧ 0 ≤ c ∧ c < 250) = R := ⟨_, rfl⟩
  show _ = some (AV.bool (decide (nmd f = true ∧ nmd t = true ∧ 0 ≤ a ∧ a < 8 ∧ 0 ≤ c ∧ c < 250)), _)
  rw [hR]
  rcases Bool.eq_false_or_eq_true (nmd f) with h1 | h1
  · rw [h1] at n1
    rcases Bool.eq_false_or_eq_true (nmd t) with h2 | h2
    · rw [h2] at n2
      by_cases g1 : 0 ≤ a
      · have d1 : decide (a ≥ 0) = true := decide_eq_true g1
        by_cases g2 : a < 8
        · have d2 : decide (a < 8) = true := decide_eq_true g2
          by_cases g3 : 0 ≤ c
          · have d3 : decide (c ≥ 0) = true := decide_eq_true g3
            obtain rfl : R = decide (c < 250) := by rw [← hR]; exact decide_eq_decide.2 ⟨fun h => h.2.2.2.2.2, fun h => ⟨h1, h2, g1, g2, g3, h⟩⟩
            simp only [M82, Su.cells, suC, n1, n2, d1, d2, d3, ev1_boxV, qES0, qES1, qES2, env0, List.length_cons, List.length_nil, Nat.reduceAdd, Nat.reduceSub, List.replicate, List.cons_append, List.nil_append, opd, Env.put, Env.at, List.set_cons_zero, List.set_cons_succ, List.getD_cons_zero, List.getD_cons_succ, freezeL, resVs, oneOr, Option.map_some, Option.map_none, List.map_cons, List.map_nil, if_true, if_false, Bool.not_true, Bool.not_false, Bool.false_eq_true, reduceIte, decide_true, decide_false, Int.reduceLT, Int.reduceLE, Int.reduceGT, Int.reduceGE, Int.reduceEq, Int.reduceBEq, Int.reduceBNe, load_ptr, ldV_some, cellAt_cells, List.getElem?_cons_zero, List.getElem?_cons_succ, store_ptr, stO_some, setAt_0, setAt_1, setAt_2, setAt_3, setAt_4, setAt_5, setAt_6, setAt_7, setAt_8, setAt_9, setAt_10, setAt_11, setAt_12, cells_int, cells_bool, cells_str, cells_nils, cells_nilp, cells_ptr, cells_sl, cells_u8, cells_u16, cells_agg, get_upd_is, Option.isSome_some, upd_upd, ev1_nchkV, ev1_faV, nchkV_ptr, faV_ptr, ev1_extV, extV_tup, eqptr_nil, eqptr_ptr, Nat.zero_add, Nat.add_zero, qPL0, qPL1, qPL2, qPL3, qPL4, qPL5, beq_self_eq_true]; rfl
          · have d3 : decide (c ≥ 0) = false := decide_eq_false g3
            obtain rfl : R = false := by rw [← hR]; exact decide_eq_false (fun h => g3 h.2.2.2.2.1)
            simp only [M82, Su.cells, suC, n1, n2, d1, d2, d3, ev1_boxV, qES0, qES1, qES2, env0, List.length_cons, List.length_nil, Nat.reduceAdd, Nat.reduceSub, List.replicate, List.cons_append, List.nil_append, opd, Env.put, Env.at, List.set_cons_zero, List.set_cons_succ, List.getD_cons_zero, List.getD_cons_succ, freezeL, resVs, oneOr, Option.map_some, Option.map_none, List.map_cons, List.map_nil, if_true, if_false, Bool.not_true, Bool.not_false, Bool.false_eq_true, reduceIte, decide_true, decide_false, Int.reduceLT, Int.reduceLE, Int.reduceGT, Int.reduceGE, Int.reduceEq, Int.reduceBEq, Int.reduceBNe, load_ptr, ldV_some, cellAt_cells, List.getElem?_cons_zero, List.getElem?_cons_succ, store_ptr, stO_some, setAt_0, setAt_1, setAt_2, setAt_3, setAt_4, setAt_5, setAt_6, setAt_7, setAt_8, setAt_9, setAt_10, setAt_11, setAt_12, cells_int, cells_bool, cells_str, cells_nils, cells_nilp, cells_ptr, cells_sl, cells_u8, cells_u16, cells_agg, get_upd_is, Option.isSome_some, upd_upd, ev1_nchkV, ev1_faV, nchkV_ptr, faV_ptr, ev1_extV, extV_tup, eqptr_nil, eqptr_ptr, Nat.zero_add, Nat.add_zero, qPL0, qPL1, qPL2, qPL3, qPL4, qPL5, beq_self_eq_true]; rfl
        · have d2 : decide (a < 8) = false := decide_eq_false g2
          obtain rfl : R = false := by rw [← hR]; exact decide_eq_false (fun h => g2 h.2.2.2.1)
          simp only [M82, Su.cells, suC, n1, n2, d1, d2, ev1_boxV, qES0, qES1, qES2, env0, List.length_cons, List.length_nil, Nat.reduceAdd, Nat.reduceSub, List.replicate, List.cons_append, List.nil_append, opd, Env.put, Env.at, List.set_cons_zero, List.set_cons_succ, List.getD_cons_zero, List.getD_cons_succ, freezeL, resVs, oneOr, Option.map_some, Option.map_none, List.map_cons, List.map_nil, if_true, if_false, Bool.not_true, Bool.not_false, Bool.false_eq_true, reduceIte, decide_true, decide_false, Int.reduceLT, Int.reduceLE, Int.reduceGT, Int.reduceGE, Int.reduceEq, Int.reduceBEq, Int.reduceBNe, load_ptr, ldV_some, cellAt_cells, List.getElem?_cons_zero, List.getElem?_cons_succ, store_ptr, stO_some, setAt_0, setAt_1, setAt_2, setAt_3, setAt_4, setAt_5, setAt_6, setAt_7, setAt_8, setAt_9, setAt_10, setAt_11, setAt_12, cells_int, cells_bool, cells_str, cells_nils, cells_nilp, cells_ptr, cells_sl, cells_u8, cells_u16, cells_agg, get_upd_is, Option.isSome_some, upd_upd, ev1_nchkV, ev1_faV, nchkV_ptr, faV_ptr, ev1_extV, extV_tup, eqptr_nil, eqptr_ptr, Nat.zero_add, Nat.add_zero, qPL0, qPL1, qPL2, qPL3, qPL4, qPL5, beq_self_eq_true]; rfl
      · have d1 : decide (a ≥ 0) = false := decide_eq_false g1
        obtain rfl : R = false := by rw [← hR]; exact decide_eq_false (fun h => g1 h.2.2.1)
        simp only [M82, Su.cells, suC, n1, n2, d1, ev1_boxV, qES0, qES1, qES2, env0, List.length_cons, List.length_nil, Nat.reduceAdd, Nat.reduceSub, List.replicate, List.cons_append, List.nil_append, opd, Env.put, Env.at, List.set_cons_zero, List.set_cons_succ, List.getD_cons_zero, List.getD_cons_succ, freezeL, resVs, oneOr, Option.map_some, Option.map_none, List.map_cons, List.map_nil, if_true, if_false, Bool.not_true, Bool.not_false, Bool.false_eq_true, reduceIte, decide_true, decide_false, Int.reduceLT, Int.reduceLE, Int.reduceGT, Int.reduceGE, Int.reduceEq, Int.reduceBEq, Int.reduceBNe, load_ptr, ldV_some, cellAt_cells, List.getElem?_cons_zero, List.getElem?_cons_succ, store_ptr, stO_some, setAt_0, setAt_1, setAt_2, setAt_3, setAt_4, setAt_5, setAt_6, setAt_7, setAt_8, setAt_9, setAt_10, setAt_11, setAt_12, cells_int, cells_bool, cells_str, cells_nils, cells_nilp, cells_ptr, cells_sl, cells_u8, cells_u16, cells_agg, get_upd_is, Option.isSome_some, upd_upd, ev1_nchkV, ev1_faV, nchkV_ptr, faV_ptr, ev1_extV, extV_tup, eqptr_nil, eqptr_ptr, Nat.zero_add, Nat.add_zero, qPL0, qPL1, qPL2, qPL3, qPL4, qPL5, beq_self_eq_true]; rfl
    · rw [h2] at n2
      obtain rfl : R = false := by rw [← hR]; exact decide_eq_false (fun h => by have := h.2.1; rw [h2] at this; cases this)
      simp only [M82, Su.cells, suC, n1, n2, ev1_boxV, qES0, qES1, qES2, env0, List.length_cons, List.length_nil, Nat.reduceAdd, Nat.reduceSub, List.replicate, List.cons_append, List.nil_append, opd, Env.put, Env.at, List.set_cons_zero, List.set_cons_succ, List.getD_cons_zero, List.getD_cons_succ, freezeL, resVs, oneOr, Option.map_some, Option.map_none, List.map_cons, List.map_nil, if_true, if_false, Bool.not_true, Bool.not_false, Bool.false_eq_true, reduceIte, decide_true, decide_false, Int.reduceLT, Int.reduceLE, Int.reduceGT, Int.reduceGE, Int.reduceEq, Int.reduceBEq, Int.reduceBNe, load_ptr, ldV_some, cellAt_cells, List.getElem?_cons_zero, List.getElem?_cons_succ, store_ptr, stO_some, setAt_0, setAt_1, setAt_2, setAt_3, setAt_4, setAt_5, setAt_6, setAt_7, setAt_8, setAt_9, setAt_10, setAt_11, setAt_12, cells_int, cells_bool, cells_str, cells_nils, cells_nilp, cells_ptr, cells_sl, cells_u8, cells_u16, cells_agg, get_upd_is, Option.isSome_some, upd_upd, ev1_nchkV, ev1_faV, nchkV_ptr, faV_ptr, ev1_extV, extV_tup, eqptr_nil, eqptr_ptr, Nat.zero_add, Nat.add_zero, qPL0, qPL1, qPL2, qPL3, qPL4, qPL5, beq_self_eq_true]; rfl
  · rw [h1] at n1
    obtain rfl : R = false := by rw [← hR]; exact decide_eq_false (fun h => by have := h.1; rw [h1] at this; cases this)
    simp only [M82, Su.cells, suC, n1, n2, ev1_boxV, qES0, qES1, qES2, env0, List.length_cons, List.length_nil, Nat.reduceAdd, Nat.reduceSub, List.replicate, List.cons_append, List.nil_append, opd, Env.put, Env.at, List.set_cons_zero, List.set_cons_succ, List.getD_cons_zero, List.getD_cons_succ, freezeL, resVs, oneOr, Option.map_some, Option.map_none, List.map_cons, List.map_nil, if_true, if_false, Bool.not_true, Bool.not_false, Bool.false_eq_true, reduceIte, decide_true, decide_false, Int.reduceLT, Int.reduceLE, Int.reduceGT, Int.reduceGE, Int.reduceEq, Int.reduceBEq, Int.reduceBNe, load_ptr, ldV_some, cellAt_cells, List.getElem?_cons_zero, List.getElem?_cons_succ, store_ptr, stO_some, setAt_0, setAt_1, setAt_2, setAt_3, setAt_4, setAt_5, setAt_6, setAt_7, setAt_8, setAt_9, setAt_10, setAt_11, setAt_12, cells_int, cells_bool, cells_str, cells_nils, cells_nilp, cells_ptr, cells_sl, cells_u8, cells_u16, cells_agg, get_upd_is, Option.isSome_some, upd_upd, ev1_nchkV, ev1_faV, nchkV_ptr, faV_ptr, ev1_extV, extV_tup, eqptr_nil, eqptr_ptr, Nat.zero_add, Nat.add_zero, qPL0, qPL1, qPL2, qPL3, qPL4, qPL5, beq_self_eq_true]; rfl
theorem smay_val (k : Nat) (x : Su) (S : St) : ∃ s', evK (k + 2) 82 [.agg x.cells] S = some (.bool (decide x.may0), s') ∧ Ext S s' ∧ KeepC S s' :=
  ⟨_, smay_pl k x S, pl_ext S _, (KeepC.new S _).trans (KeepC.new _ _)⟩
theorem rsmay_pl (k : Nat) (x : Su) (S : St) : evK (k + 2) 84 [.agg x.cells] S = some (.bool (decide x.may), S.pl [.cells 0 x.cells]) := by
  obtain ⟨f, t, a, c, b, s, w, z, ti⟩ := x
  have n1 := own_ev k f
  have n2 := own_ev k t
  have n3 := k58 k ⟨b, s, w, z, ti⟩
  simp only [Of5.cells, ofC] at n3
  rw [show k + 2 = (k + 1) + 1 from rfl, evK_in rfl tab84, show S = S.pl [] from rfl]
  obtain ⟨R, hR⟩ : ∃ R, decide ((nmd f = true ∧ nmd t = true ∧ 0 ≤ a ∧ a < 8 ∧ 0 ≤ c ∧ c < 250) ∧ Of5.may ⟨b, s, w, z, ti⟩) = R := ⟨_, rfl⟩
  show _ = some (AV.bool (decide ((nmd f = true ∧ nmd t = true ∧ 0 ≤ a ∧ a < 8 ∧ 0 ≤ c ∧ c < 250) ∧ Of5.may ⟨b, s, w, z, ti⟩)), _)
  rw [hR]
  rcases Bool.eq_false_or_eq_true (nmd f) with h1 | h1
  · rw [h1] at n1
    rcases Bool.eq_false_or_eq_true (nmd t) with h2 | h2
    · rw [h2] at n2
      by_cases g1 : 0 ≤ a
      · have d1 : decide (a ≥ 0) = true := decide_eq_true g1
        by_cases g2 : a < 8
        · have d2 : decide (a < 8) = true := decide_eq_true g2
          by_cases g3 : 0 ≤ c
          · have d3 : decide (c ≥ 0) = true := decide_eq_true g3
            by_cases g4 : c < 250
            · have d4 : decide (c ≤ 249) = true := decide_eq_true (by omega)
              obtain rfl : R = decide (Of5.may ⟨b, s, w, z, ti⟩) := by rw [← hR]; exact decide_eq_decide.2 ⟨fun h => h.2, fun h => ⟨⟨h1, h2, g1, g2, g3, g4⟩, h⟩⟩
              simp only [M84, Su.cells, suC, n1, n2, n3, d1, d2, d3, d4, ev1_boxV, qES0, qES1, qES2, env0, List.length_cons, List.length_nil, Nat.reduceAdd, Nat.reduceSub, List.replicate, List.cons_append, List.nil_append, opd, Env.put, Env.at, List.set_cons_zero, List.set_cons_succ, List.getD_cons_zero, List.getD_cons_succ, freezeL, resVs, oneOr, Option.map_some, Option.map_none, List.map_cons, List.map_nil, if_true, if_false, Bool.not_true, Bool.not_false, Bool.false_eq_true, reduceIte, decide_true, decide_false, Int.reduceLT, Int.reduceLE, Int.reduceGT, Int.reduceGE, Int.reduceEq, Int.reduceBEq, Int.reduceBNe, load_ptr, ldV_some, cellAt_cells, List.getElem?_cons_zero, List.getElem?_cons_succ, store_ptr, stO_some, setAt_0, setAt_1, setAt_2, setAt_3, setAt_4, setAt_5, setAt_6, setAt_7, setAt_8, setAt_9, setAt_10, setAt_11, setAt_12, cells_int, cells_bool, cells_str, cells_nils, cells_nilp, cells_ptr, cells_sl, cells_u8, cells_u16, cells_agg, get_upd_is, Option.isSome_some, upd_upd, ev1_nchkV, ev1_faV, nchkV_ptr, faV_ptr, ev1_extV, extV_tup, eqptr_nil, eqptr_ptr, Nat.zero_add, Nat.add_zero, qPL0, qPL1, qPL2, qPL3, qPL4, qPL5, beq_self_eq_true]; rfl
            · have d4 : decide (c ≤ 249) = false := decide_eq_false (by omega)
              obtain rfl : R = false := by rw [← hR]; exact decide_eq_false (fun h => g4 h.1.2.2.2.2.2)
              simp only [M84, Su.cells, suC, n1, n2, d1, d2, d3, d4, ev1_boxV, qES0, qES1, qES2, env0, List.length_cons, List.length_nil, Nat.reduceAdd, Nat.reduceSub, List.replicate, List.cons_append, List.nil_append, opd, Env.put, Env.at, List.set_cons_zero, List.set_cons_succ, List.getD_cons_zero, List.getD_cons_succ, freezeL, resVs, oneOr, Option.map_some, Option.map_none, List.map_cons, List.map_nil, if_true, if_false, Bool.not_true, Bool.not_false, Bool.false_eq_true, reduceIte, decide_true, decide_false, Int.reduceLT, Int.reduceLE, Int.reduceGT, Int.reduceGE, Int.reduceEq, Int.reduceBEq, Int.reduceBNe, load_ptr, ldV_some, cellAt_cells, List.getElem?_cons_zero, List.getElem?_cons_succ, store_ptr, stO_some, setAt_0, setAt_1, setAt_2, setAt_3, setAt_4, setAt_5, setAt_6, setAt_7, setAt_8, setAt_9, setAt_10, setAt_11, setAt_12, cells_int, cells_bool, cells_str, cells_nils, cells_nilp, cells_ptr, cells_sl, cells_u8, cells_u16, cells_agg, get_upd_is, Option.isSome_some, upd_upd, ev1_nchkV, ev1_faV, nchkV_ptr, faV_ptr, ev1_extV, extV_tup, eqptr_nil, eqptr_ptr, Nat.zero_add, Nat.add_zero, qPL0, qPL1, qPL2, qPL3, qPL4, qPL5, beq_self_eq_true]; rfl
          · have d3 : decide (c ≥ 0) = false := decide_eq_false g3
            obtain rfl : R = false := by rw [← hR]; exact decide_eq_false (fun h => g3 h.1.2.2.2.2.1)
            simp only [M84, Su.cells, suC, n1, n2, d1, d2, d3, ev1_boxV, qES0, qES1, qES2, env0, List.length_cons, List.length_nil, Nat.reduceAdd, Nat.reduceSub, List.replicate, List.cons_append, List.nil_append, opd, Env.put, Env.at, List.set_cons_zero, List.set_cons_succ, List.getD_cons_zero, List.getD_cons_succ, freezeL, resVs, oneOr, Option.map_some, Option.map_none, List.map_cons, List.map_nil, if_true, if_false, Bool.not_true, Bool.not_false, Bool.false_eq_true, reduceIte, decide_true, decide_false, Int.reduceLT, Int.reduceLE, Int.reduceGT, Int.reduceGE, Int.reduceEq, Int.reduceBEq, Int.reduceBNe, load_ptr, ldV_some, cellAt_cells, List.getElem?_cons_zero, List.getElem?_cons_succ, store_ptr, stO_some, setAt_0, setAt_1, setAt_2, setAt_3, setAt_4, setAt_5, setAt_6, setAt_7, setAt_8, setAt_9, setAt_10, setAt_11, setAt_12, cells_int, cells_bool, cells_str, cells_nils, cells_nilp, cells_ptr, cells_sl, cells_u8, cells_u16, cells_agg, get_upd_is, Option.isSome_some, upd_upd, ev1_nchkV, ev1_faV, nchkV_ptr, faV_ptr, ev1_extV, extV_tup, eqptr_nil, eqptr_ptr, Nat.zero_add, Nat.add_zero, qPL0, qPL1, qPL2, qPL3, qPL4, qPL5, beq_self_eq_true]; rfl
        · have d2 : decide (a < 8) = false := decide_eq_false g2
          obtain rfl : R = false := by rw [← hR]; exact decide_eq_false (fun h => g2 h.1.2.2.2.1)
          simp only [M84, Su.cells, suC, n1, n2, d1, d2, ev1_boxV, qES0, qES1, qES2, env0, List.length_cons, List.length_nil, Nat.reduceAdd, Nat.reduceSub, List.replicate, List.cons_append, List.nil_append, opd, Env.put, Env.at, List.set_cons_zero, List.set_cons_succ, List.getD_cons_zero, List.getD_cons_succ, freezeL, resVs, oneOr, Option.map_some, Option.map_none, List.map_cons, List.map_nil, if_true, if_false, Bool.not_true, Bool.not_false, Bool.false_eq_true, reduceIte, decide_true, decide_false, Int.reduceLT, Int.reduceLE, Int.reduceGT, Int.reduceGE, Int.reduceEq, Int.reduceBEq, Int.reduceBNe, load_ptr, ldV_some, cellAt_cells, List.getElem?_cons_zero, List.getElem?_cons_succ, store_ptr, stO_some, setAt_0, setAt_1, setAt_2, setAt_3, setAt_4, setAt_5, setAt_6, setAt_7, setAt_8, setAt_9, setAt_10, setAt_11, setAt_12, cells_int, cells_bool, cells_str, cells_nils, cells_nilp, cells_ptr, cells_sl, cells_u8, cells_u16, cells_agg, get_upd_is, Option.isSome_some, upd_upd, ev1_nchkV, ev1_faV, nchkV_ptr, faV_ptr, ev1_extV, extV_tup, eqptr_nil, eqptr_ptr, Nat.zero_add, Nat.add_zero, qPL0, qPL1, qPL2, qPL3, qPL4, qPL5, beq_self_eq_true]; rfl
      · have d1 : decide (a ≥ 0) = false := decide_eq_false g1
        obtain rfl : R = false := by rw [← hR]; exact decide_eq_false (fun h => g1 h.1.2.2.1)
        simp only [M84, Su.cells, suC, n1, n2, d1, ev1_boxV, qES0, qES1, qES2, env0, List.length_cons, List.length_nil, Nat.reduceAdd, Nat.reduceSub, List.replicate, List.cons_append, List.nil_append, opd, Env.put, Env.at, List.set_cons_zero, List.set_cons_succ, List.getD_cons_zero, List.getD_cons_succ, freezeL, resVs, oneOr, Option.map_some, Option.map_none, List.map_cons, List.map_nil, if_true, if_false, Bool.not_true, Bool.not_false, Bool.false_eq_true, reduceIte, decide_true, decide_false, Int.reduceLT, Int.reduceLE, Int.reduceGT, Int.reduceGE, Int.reduceEq, Int.reduceBEq, Int.reduceBNe, load_ptr, ldV_some, cellAt_cells, List.getElem?_cons_zero, List.getElem?_cons_succ, store_ptr, stO_some, setAt_0, setAt_1, setAt_2, setAt_3, setAt_4, setAt_5, setAt_6, setAt_7, setAt_8, setAt_9, setAt_10, setAt_11, setAt_12, cells_int, cells_bool, cells_str, cells_nils, cells_nilp, cells_ptr, cells_sl, cells_u8, cells_u16, cells_agg, get_upd_is, Option.isSome_some, upd_upd, ev1_nchkV, ev1_faV, nchkV_ptr, faV_ptr, ev1_extV, extV_tup, eqptr_nil, eqptr_ptr, Nat.zero_add, Nat.add_zero, qPL0, qPL1, qPL2, qPL3, qPL4, qPL5, beq_self_eq_true]; rfl
    · rw [h2] at n2
      obtain rfl : R = false := by rw [← hR]; exact decide_eq_false (fun h => by have := h.1.2.1; rw [h2] at this; cases this)
      simp only [M84, Su.cells, suC, n1, n2, ev1_boxV, qES0, qES1, qES2, env0, List.length_cons, List.length_nil, Nat.reduceAdd, Nat.reduceSub, List.replicate, List.cons_append, List.nil_append, opd, Env.put, Env.at, List.set_cons_zero, List.set_cons_succ, List.getD_cons_zero, List.getD_cons_succ, freezeL, resVs, oneOr, Option.map_some, Option.map_none, List.map_cons, List.map_nil, if_true, if_false, Bool.not_true, Bool.not_false, Bool.false_eq_true, reduceIte, decide_true, decide_false, Int.reduceLT, Int.reduceLE, Int.reduceGT, Int.reduceGE, Int.reduceEq, Int.reduceBEq, Int.reduceBNe, load_ptr, ldV_some, cellAt_cells, List.getElem?_cons_zero, List.getElem?_cons_succ, store_ptr, stO_some, setAt_0, setAt_1, setAt_2, setAt_3, setAt_4, setAt_5, setAt_6, setAt_7, setAt_8, setAt_9, setAt_10, setAt_11, setAt_12, cells_int, cells_bool, cells_str, cells_nils, cells_nilp, cells_ptr, cells_sl, cells_u8, cells_u16, cells_agg, get_upd_is, Option.isSome_some, upd_upd, ev1_nchkV, ev1_faV, nchkV_ptr, faV_ptr, ev1_extV, extV_tup, eqptr_nil, eqptr_ptr, Nat.zero_add, Nat.add_zero, qPL0, qPL1, qPL2, qPL3, qPL4, qPL5, beq_self_eq_true]; rfl
  · rw [h1] at n1
    obtain rfl : R = false := by rw [← hR]; exact decide_eq_false (fun h => by have := h.1.1; rw [h1] at this; cases this)
    simp only [M84, Su.cells, suC, n1, n2, ev1_boxV, qES0, qES1, qES2, env0, List.length_cons, List.length_nil, Nat.reduceAdd, Nat.reduceSub, List.replicate, List.cons_append, List.nil_append, opd, Env.put, Env.at, List.set_cons_zero, List.set_cons_succ, List.getD_cons_zero, List.getD_cons_succ, freezeL, resVs, oneOr, Option.map_some, Option.map_none, List.map_cons, List.map_nil, if_true, if_false, Bool.not_true, Bool.not_false, Bool.false_eq_true, reduceIte, decide_true, decide_false, Int.reduceLT, Int.reduceLE, Int.reduceGT, Int.reduceGE, Int.reduceEq, Int.reduceBEq, Int.reduceBNe, load_ptr, ldV_some, cellAt_cells, List.getElem?_cons_zero, List.getElem?_cons_succ, store_ptr, stO_some, setAt_0, setAt_1, setAt_2, setAt_3, setAt_4, setAt_5, setAt_6, setAt_7, setAt_8, setAt_9, setAt_10, setAt_11, setAt_12, cells_int, cells_bool, cells_str, cells_nils, cells_nilp, cells_ptr, cells_sl, cells_u8, cells_u16, cells_agg, get_upd_is, Option.isSome_some, upd_upd, ev1_nchkV, ev1_faV, nchkV_ptr, faV_ptr, ev1_extV, extV_tup, eqptr_nil, eqptr_ptr, Nat.zero_add, Nat.add_zero, qPL0, qPL1, qPL2, qPL3, qPL4, qPL5, beq_self_eq_true]; rfl
theorem rsmay_val (k : Nat) (x : Su) (S : St) : ∃ s', evK (k + 2) 84 [.agg x.cells] S = some (.bool (decide x.may), s') ∧ Ext S s' ∧ KeepC S s' :=
  ⟨_, rsmay_pl k x S, pl_ext S _, KeepC.new S _⟩
end Go.Proofs.YtbeimfhodgmjhaaDoor
