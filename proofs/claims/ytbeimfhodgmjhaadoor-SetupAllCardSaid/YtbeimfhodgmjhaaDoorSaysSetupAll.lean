/- What the evaluator says of the law SetupAll: true. No conditions. -/
import Derived.Test.YtbeimfhodgmjhaaDoorSAll
import Derived.Test.YtbeimfhodgmjhaaDoorPlainT8
namespace Go.Proofs.YtbeimfhodgmjhaaDoor.setupAll
open Go Go.Ab
set_option linter.unusedVariables false
set_option linter.unusedSimpArgs false
set_option maxRecDepth 100000 in
set_option maxHeartbeats 8000000 in
theorem says (as0 : List Ab.AV) (hs0 : Ab.ScL Tryd.prog setupTypes as0) (b1 : List UInt8) (hb1 : (b1.length : Int) ≤ IntKind.i64.max) (n2 : Int) (hn2 : IntKind.has .i64 n2) (n3 : Int) (hn3 : IntKind.has .u8 n3) : Ab.saysTrue (evZ 1000 8 [.agg as0, .str b1, .int .i64 n2, .int .u8 n3] Ab.St.nil) = true := by
  have ok_of : ∀ {n : Int}, IntKind.has .u32 n → is32 n := by
    intro n hf
    unfold IntKind.has at hf; simp only [IntKind.min, IntKind.max, IntKind.bits, IntKind.signed] at hf; unfold is32; simp at hf ⊢; omega
  obtain ⟨f, t, a, c, b, s, w, z, ti, rfl, hf, ht⟩ := setup_of hs0
  have h3 : 0 ≤ n3 ∧ n3 ≤ 255 := by
    have hn := hn3
    unfold IntKind.has at hn; simp only [IntKind.min, IntKind.max, IntKind.bits, IntKind.signed] at hn; simp at hn ⊢; omega
  obtain ⟨v, hv⟩ : ∃ v : UInt8, AV.int .u8 n3 = u8v v := ⟨UInt8.ofNat n3.toNat, by
    show AV.int .u8 n3 = AV.int .u8 ((UInt8.ofNat n3.toNat).toNat : Int)
    congr 1; simp; omega⟩
  rw [hv]
  have hb := z21 998
  have hT : ∀ s, evZ (998 + 1) 22 [.str b1, .int .i64 70] s = some (.str (b1.take 70), s) := z22 998 b1 70
  have hx : (Su.mk f t a c ⟨b, s, w, z, ti⟩).ok := ⟨ok_of hf, ok_of ht⟩
  have h54 := z54 998 ⟨f, t, a, c, ⟨b, s, w, z, ti⟩⟩ hx
  have h55 := z55 998 ⟨f, t, a, c, ⟨b, s, w, z, ti⟩⟩ hx
  have hA : (decide (Su.may ⟨f, t, a, c, ⟨b, s, w, z, ti⟩⟩) = true ∧ getS (if Su.may ⟨f, t, a, c, ⟨b, s, w, z, ti⟩⟩ then setB ⟨f, t, a, c, ⟨b, s, w, z, ti⟩⟩ else []) = some ⟨f, t, a, c, ⟨b, s, w, z, ti⟩⟩) ∨ (decide (Su.may ⟨f, t, a, c, ⟨b, s, w, z, ti⟩⟩) = false ∧ getS (if Su.may ⟨f, t, a, c, ⟨b, s, w, z, ti⟩⟩ then setB ⟨f, t, a, c, ⟨b, s, w, z, ti⟩⟩ else []) = none) := by
    by_cases g : Su.may ⟨f, t, a, c, ⟨b, s, w, z, ti⟩⟩
    · exact .inl ⟨decide_eq_true g, by rw [if_pos g]; exact getS_self _ hx g⟩
    · exact .inr ⟨decide_eq_false g, by rw [if_neg g]; rfl⟩
  have hAl : (if Su.may ⟨f, t, a, c, ⟨b, s, w, z, ti⟩⟩ then setB ⟨f, t, a, c, ⟨b, s, w, z, ti⟩⟩ else []).length ≤ 25 := by
    split
    · exact Nat.le_refl 25
    · simp
  generalize (if Su.may ⟨f, t, a, c, ⟨b, s, w, z, ti⟩⟩ then setB ⟨f, t, a, c, ⟨b, s, w, z, ti⟩⟩ else []) = A at *
  generalize decide (Su.may ⟨f, t, a, c, ⟨b, s, w, z, ti⟩⟩) = ok at *
  have hTl : (b1.take 70).length ≤ 70 := by rw [List.length_take]; omega
  generalize b1.take 70 = T at *
  have l5 : ∀ cs tk, lenV (.sl cs 5 tk) = some (.int .i64 5) := fun _ _ => rfl
  have sn : binV .neq (.str A) (.str A) = some (.bool false) := by
    show some (AV.bool (A != A)) = _
    simp
  have qb := eqB ok
  have lx : lensV' (.str A) = some (.int .i64 (A.length : Nat)) := rfl
  have sa := str_add A T (by omega)
  have m0 : mn2V (.int .i64 (A.length : Nat)) (.int .i64 12) = some (.int .i64 ((min A.length 12 : Nat) : Int)) := by
    rw [mn2_i64]; refine congrArg (fun i => some (AV.int .i64 i)) ?_; split <;> omega
  have m0' : (if (12 : Int) < (A.length : Nat) then (12 : Int) else (A.length : Nat)) = ((min A.length 12 : Nat) : Int) := by split <;> omega
  have ss := slcS_str A ((min A.length 12 : Nat) : Int) (by omega) (by omega)
  rw [Int.toNat_natCast] at ss
  have hl := fun (U : List UInt8) (l : List Ab.Obj) (tk) => setup_loop ⟨f, t, a, c, ⟨b, s, w, z, ti⟩⟩ A ok hA [A, T, U, A ++ T, A.take (min A.length 12)] rfl tk (St.nil.pl (.cells 0 (Su.cells ⟨f, t, a, c, ⟨b, s, w, z, ti⟩⟩) :: l)) (plg0 _ _ _) (by rw [pl_next]; simp)
  simp only [Su.cells, suC] at h54 h55 hl
  rw [show (1000 : Nat) = 999 + 1 from rfl, evZ_in rfl tab8]
  refine says_of ?_
  rw [show St.nil = St.nil.pl [] from rfl]
  by_cases g1 : 0 < A.length
  · have e1 : decide ((A.length : Int) > 0) = true := decide_eq_true (by omega)
    by_cases g2 : 0 ≤ n2
    · have e2 : decide (n2 ≥ 0) = true := decide_eq_true g2
      have r1 := i64_rem n2 (A.length : Nat) (by omega)
      obtain ⟨k, hk⟩ : ∃ k : Nat, n2.tmod (A.length : Nat) = (k : Int) := ⟨(n2.tmod (A.length : Nat)).toNat, by have := Int.tmod_nonneg (A.length : Nat) g2; omega⟩
      have hk2 : k < A.length := by have := Int.tmod_lt_of_pos n2 (show (0 : Int) < (A.length : Nat) by omega); omega
      rw [hk] at r1
      have s1 : s2hR (St.nil.pl [.cells 0 (suC f t a c b s w z ti)]) (.str A) = some (.hs 1 (St.nil.next + 1) 0 A.length, St.nil.pl [.cells 0 (suC f t a c b s w z ti), .cells 1 (bytesAV A)], 2) := s2hR_str _ _ (by omega)
      have ln : lenV (.hs 1 (St.nil.next + 1) 0 A.length) = some (.int .i64 (A.length : Nat)) := rfl
      have ix : ixaV 1 (.hs 1 (St.nil.next + 1) 0 A.length) (.int .i64 (k : Int)) = some (.ptr (St.nil.next + 1) k) := hs_ixa _ _ _ hk2
      have sA : setAt (some (.cells 1 (bytesAV A))) k (some [u8v v]) = some (.cells 1 (bytesAV (A.set k v))) := by simp [setAt, bytesAV_length, bytesAV_set]; omega
      have hbl' : (A.set k v).length = A.length := by simp
      have bb : b2sH (St.nil.pl [.cells 0 (suC f t a c b s w z ti), .cells 1 (bytesAV (A.set k v))]) (.hs 1 (St.nil.next + 1) 0 A.length) = some (.str (A.set k v), St.nil.pl [.cells 0 (suC f t a c b s w z ti), .cells 1 (bytesAV (A.set k v))], 1) := by
        rw [← hbl']; exact b2sH_has (plg1 _ _ _ _)
      simp only [suC] at s1 bb
      simp only [M8, l5, hb, hT, h54, h55, sn, qb, lx, e1, e2, r1, ln, ix, sA, sa, m0, m0', ss, ↓s1, ↓bb, ↓ev1_s2hR, ↓ev1_b2sH, evC_loop, evP_mn2, ev1_mn, ev1_eqv, ev1_boxV, ev1_extV, ev1_slsV, ev1_lensV', qES0, qES1, qES2, env0, List.length_cons, List.length_nil, Nat.reduceAdd, Nat.reduceSub, List.replicate, List.cons_append, List.nil_append, opd, Env.put, Env.at, List.set_cons_zero, List.set_cons_succ, List.getD_cons_zero, List.getD_cons_succ, freezeL, resVs, oneOr, Option.map_some, Option.map_none, List.map_cons, List.map_nil, if_true, if_false, Bool.not_true, Bool.not_false, Bool.false_eq_true, reduceIte, decide_true, decide_false, Int.reduceLT, Int.reduceLE, Int.reduceGT, Int.reduceGE, Int.reduceEq, Int.reduceBEq, Int.reduceBNe, load_ptr, ldV_some, cellAt_cells, List.getElem?_cons_zero, List.getElem?_cons_succ, store_ptr, stO_some, setAt_0, setAt_1, setAt_2, setAt_3, setAt_4, setAt_5, setAt_6, setAt_7, setAt_8, setAt_9, setAt_10, setAt_11, setAt_12, cells_int, cells_bool, cells_str, cells_nils, cells_nilp, cells_ptr, cells_sl, cells_u8, cells_u16, cells_agg, get_upd_is, Option.isSome_some, upd_upd, ev1_nchkV, ev1_faV, nchkV_ptr, faV_ptr, ev1_extV, extV_tup, eqptr_nil, eqptr_ptr, Nat.zero_add, Nat.add_zero, qPL0, qPL1, qPL2, qPL3, qPL4, qPL5, beq_self_eq_true]
      exact hl (A.set k v) [.cells 1 (bytesAV (A.set k v)), .tick 1 0] _ _ rfl
    · have e2 : decide (n2 ≥ 0) = false := decide_eq_false g2
      simp only [M8, l5, hb, hT, h54, h55, sn, qb, lx, e1, e2, sa, m0, m0', ss, evC_loop, evP_mn2, ev1_mn, ev1_eqv, ev1_boxV, ev1_extV, ev1_slsV, ev1_lensV', qES0, qES1, qES2, env0, List.length_cons, List.length_nil, Nat.reduceAdd, Nat.reduceSub, List.replicate, List.cons_append, List.nil_append, opd, Env.put, Env.at, List.set_cons_zero, List.set_cons_succ, List.getD_cons_zero, List.getD_cons_succ, freezeL, resVs, oneOr, Option.map_some, Option.map_none, List.map_cons, List.map_nil, if_true, if_false, Bool.not_true, Bool.not_false, Bool.false_eq_true, reduceIte, decide_true, decide_false, Int.reduceLT, Int.reduceLE, Int.reduceGT, Int.reduceGE, Int.reduceEq, Int.reduceBEq, Int.reduceBNe, load_ptr, ldV_some, cellAt_cells, List.getElem?_cons_zero, List.getElem?_cons_succ, store_ptr, stO_some, setAt_0, setAt_1, setAt_2, setAt_3, setAt_4, setAt_5, setAt_6, setAt_7, setAt_8, setAt_9, setAt_10, setAt_11, setAt_12, cells_int, cells_bool, cells_str, cells_nils, cells_nilp, cells_ptr, cells_sl, cells_u8, cells_u16, cells_agg, get_upd_is, Option.isSome_some, upd_upd, ev1_nchkV, ev1_faV, nchkV_ptr, faV_ptr, ev1_extV, extV_tup, eqptr_nil, eqptr_ptr, Nat.zero_add, Nat.add_zero, qPL0, qPL1, qPL2, qPL3, qPL4, qPL5, beq_self_eq_true]
      exact hl A [.tick 1 0] _ _ rfl
  · have e1 : decide ((A.length : Int) > 0) = false := decide_eq_false (by omega)
    simp only [M8, l5, hb, hT, h54, h55, sn, qb, lx, e1, sa, m0, m0', ss, evC_loop, evP_mn2, ev1_mn, ev1_eqv, ev1_boxV, ev1_extV, ev1_slsV, ev1_lensV', qES0, qES1, qES2, env0, List.length_cons, List.length_nil, Nat.reduceAdd, Nat.reduceSub, List.replicate, List.cons_append, List.nil_append, opd, Env.put, Env.at, List.set_cons_zero, List.set_cons_succ, List.getD_cons_zero, List.getD_cons_succ, freezeL, resVs, oneOr, Option.map_some, Option.map_none, List.map_cons, List.map_nil, if_true, if_false, Bool.not_true, Bool.not_false, Bool.false_eq_true, reduceIte, decide_true, decide_false, Int.reduceLT, Int.reduceLE, Int.reduceGT, Int.reduceGE, Int.reduceEq, Int.reduceBEq, Int.reduceBNe, load_ptr, ldV_some, cellAt_cells, List.getElem?_cons_zero, List.getElem?_cons_succ, store_ptr, stO_some, setAt_0, setAt_1, setAt_2, setAt_3, setAt_4, setAt_5, setAt_6, setAt_7, setAt_8, setAt_9, setAt_10, setAt_11, setAt_12, cells_int, cells_bool, cells_str, cells_nils, cells_nilp, cells_ptr, cells_sl, cells_u8, cells_u16, cells_agg, get_upd_is, Option.isSome_some, upd_upd, ev1_nchkV, ev1_faV, nchkV_ptr, faV_ptr, ev1_extV, extV_tup, eqptr_nil, eqptr_ptr, Nat.zero_add, Nat.add_zero, qPL0, qPL1, qPL2, qPL3, qPL4, qPL5, beq_self_eq_true]
    exact hl A [.tick 1 0] _ _ rfl
end Go.Proofs.YtbeimfhodgmjhaaDoor.setupAll
