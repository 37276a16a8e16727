/- What the evaluator says of the law XidTurn: true. No conditions. -/
import Derived.Test.YtbeimfhodgmjhaaDoorXTn
import Derived.Test.YtbeimfhodgmjhaaDoorPlainT8
namespace Go.Proofs.YtbeimfhodgmjhaaDoor.xidTurn
open Go Go.Ab
set_option linter.unusedVariables false
set_option linter.unusedSimpArgs false
set_option maxRecDepth 100000 in
set_option maxHeartbeats 8000000 in
theorem says (as0 : List Ab.AV) (hs0 : Ab.ScL Tryd.prog xidTypes as0) (n1 : Int) (hn1 : IntKind.has .i64 n1) (n2 : Int) (hn2 : IntKind.has .u8 n2) : Ab.saysTrue (evY 1000 15 [.agg as0, .int .i64 n1, .int .u8 n2] Ab.St.nil) = true := by
  have ok_of : ∀ {n : Int}, IntKind.has .u32 n → is32 n := by
    intro n hf
    unfold IntKind.has at hf; simp only [IntKind.min, IntKind.max, IntKind.bits, IntKind.signed] at hf; unfold is32; simp at hf ⊢; omega
  obtain ⟨f, t, sl, n, an, nk, rfl, hf, ht⟩ := xid_of hs0
  have h2 : 0 ≤ n2 ∧ n2 ≤ 255 := by
    have hn := hn2
    unfold IntKind.has at hn; simp only [IntKind.min, IntKind.max, IntKind.bits, IntKind.signed] at hn; simp at hn ⊢; omega
  obtain ⟨b, hb2⟩ : ∃ b : UInt8, AV.int .u8 n2 = u8v b := ⟨UInt8.ofNat n2.toNat, by
    show AV.int .u8 n2 = AV.int .u8 ((UInt8.ofNat n2.toNat).toNat : Int)
    congr 1; simp; omega⟩
  rw [hb2]
  have hb := y21 998
  have hT : ∀ s, evY (998 + 1) 22 [.str nk, .int .i64 20] s = some (.str (nk.take 20), s) := y22 998 nk 20
  have h47 := y47 998 ⟨f, t, sl, n, an, nk.take 20⟩ ⟨ok_of hf, ok_of ht⟩
  rw [show (1000 : Nat) = 999 + 1 from rfl, evY_in rfl tab15]
  refine says_of ?_
  rw [show St.nil = St.nil.pl [] from rfl]
  have hnk : (nk.take 20).length ≤ 20 := by rw [List.length_take]; omega
  generalize nk.take 20 = nk' at *
  by_cases g : Xi.may ⟨f, t, sl, n, an, nk'⟩
  · rw [if_pos g, decide_eq_true g] at h47
    have hti := turn_iff ⟨f, t, sl, n, an, nk'⟩
    have hBl := putX_len ⟨f, t, sl, n, an, nk'⟩
    simp only at hBl
    obtain ⟨B, hB⟩ : ∃ B, putX ⟨f, t, sl, n, an, nk'⟩ = B := ⟨_, rfl⟩
    rw [hB] at h47 hBl hti
    by_cases h : n1 < 0
    · have d1 : decide (n1 < 0) = true := decide_eq_true h
      simp only [Xi.cells, xiC] at h47
      simp only [M15, hb, hT, h47, d1, x_cut6, ev1_boxV, ev1_extV, qES0, qES1, qES2, env0, List.length_cons, List.length_nil, Nat.reduceAdd, Nat.reduceSub, List.replicate, List.cons_append, List.nil_append, opd, Env.put, Env.at, List.set_cons_zero, List.set_cons_succ, List.getD_cons_zero, List.getD_cons_succ, freezeL, resVs, oneOr, Option.map_some, Option.map_none, List.map_cons, List.map_nil, if_true, if_false, Bool.not_true, Bool.not_false, Bool.false_eq_true, reduceIte, decide_true, decide_false, Int.reduceLT, Int.reduceLE, Int.reduceGT, Int.reduceGE, Int.reduceEq, Int.reduceBEq, Int.reduceBNe, load_ptr, ldV_some, cellAt_cells, List.getElem?_cons_zero, List.getElem?_cons_succ, store_ptr, stO_some, setAt_0, setAt_1, setAt_2, setAt_3, setAt_4, setAt_5, setAt_6, setAt_7, setAt_8, setAt_9, setAt_10, setAt_11, setAt_12, cells_int, cells_bool, cells_str, cells_nils, cells_nilp, cells_ptr, cells_sl, cells_u8, cells_u16, cells_agg, get_upd_is, Option.isSome_some, upd_upd, ev1_nchkV, ev1_faV, nchkV_ptr, faV_ptr, ev1_extV, extV_tup, eqptr_nil, eqptr_ptr, Nat.zero_add, Nat.add_zero, qPL0, qPL1, qPL2, qPL3, qPL4, qPL5, beq_self_eq_true]
    · have d1 : decide (n1 < 0) = false := decide_eq_false h
      have hpos : 0 < B.length := by omega
      have r1 := i64_rem n1 (B.length : Nat) (by omega)
      obtain ⟨k, hk⟩ : ∃ k : Nat, n1.tmod (B.length : Nat) = (k : Int) := ⟨(n1.tmod (B.length : Nat)).toNat, by have := Int.tmod_nonneg (B.length : Nat) (show 0 ≤ n1 by omega); omega⟩
      have hk2 : k < B.length := by have := Int.tmod_lt_of_pos n1 (show (0 : Int) < (B.length : Nat) by omega); omega
      rw [hk] at r1
      have s1 : s2hR (St.nil.pl [.cells 0 (xiC f t sl n an nk')]) (.str B) = some (.hs 1 (St.nil.next + 1) 0 B.length, St.nil.pl [.cells 0 (xiC f t sl n an nk'), .cells 1 (bytesAV B)], 2) := s2hR_str _ _ (by omega)
      have lx : lenV (.hs 1 (St.nil.next + 1) 0 B.length) = some (.int .i64 (B.length : Nat)) := rfl
      have ix : ixaV 1 (.hs 1 (St.nil.next + 1) 0 B.length) (.int .i64 (k : Int)) = some (.ptr (St.nil.next + 1) k) := hs_ixa _ _ _ hk2
      have hH : Has (St.nil.pl [.cells 0 (xiC f t sl n an nk'), .cells 1 (bytesAV B)]) (St.nil.next + 1) B := plg1 _ _ _ _
      have ld := hH.load k hk2
      have st : storeV 1 (St.nil.pl [.cells 0 (xiC f t sl n an nk'), .cells 1 (bytesAV B)]) (.ptr (St.nil.next + 1) k) (u8v b) = some (.undef, St.nil.pl [.cells 0 (xiC f t sl n an nk'), .cells 1 (bytesAV (B.set k b))]) := by
        rw [hH.store k hk2 b]
        simp only [qPL0, qPL1, qPL2, qPL3, qPL4, qPL5, beq_self_eq_true]
      have hbl' : (B.set k b).length = B.length := by simp
      have bb : ∀ (l : List Ab.Obj), b2sH (St.nil.pl (.cells 0 (xiC f t sl n an nk') :: .cells 1 (bytesAV (B.set k b)) :: l)) (.hs 1 (St.nil.next + 1) 0 B.length) = some (.str (B.set k b), St.nil.pl (.cells 0 (xiC f t sl n an nk') :: .cells 1 (bytesAV (B.set k b)) :: l), 1) := fun l => by
        rw [← hbl']; exact b2sH_has (plg1 _ _ _ _)
      have bb0 := bb []
      have bb1 := fun c => bb [c]
      have h50 := y50 998 (B.set k b) (by rw [hbl']; omega)
      have hti := fun y => hti y ⟨ok_of hf, ok_of ht⟩ g k hk2 b
      obtain ⟨w, hw⟩ : ∃ w, B[k] = w := ⟨_, rfl⟩
      rw [hw] at ld
      simp only [hw] at hti
      have e8 := u8_eql' w b
      have gk : (bytesAV B)[k]? = some (u8v w) := by rw [bytesAV_get, List.getElem?_eq_getElem hk2, hw]; rfl
      have sa : setAt (some (.cells 1 (bytesAV B))) k (some [u8v b]) = some (.cells 1 (bytesAV (B.set k b))) := by simp [setAt, bytesAV_length, bytesAV_set]; omega
      cases hg : getX (B.set k b) with
      | none =>
        rw [hg] at h50
        have h47z := y47 998 ⟨0, 0, 0, 0, false, []⟩ ⟨⟨Int.le_refl 0, (by decide : (0 : Int) < 4294967296)⟩, ⟨Int.le_refl 0, (by decide : (0 : Int) < 4294967296)⟩⟩
        simp only [getXV, zeroX, xiC] at h50
        simp only [Xi.cells, xiC] at h47 h47z s1 st bb0 ld
        generalize (if Xi.may ⟨0, 0, 0, 0, false, []⟩ then putX ⟨0, 0, 0, 0, false, []⟩ else []) = A at h47z
        generalize decide (Xi.may ⟨0, 0, 0, 0, false, []⟩) = o at h47z
        generalize B.set k b = B' at *
        simp only [M15, hb, hT, h47, h47z, h50, d1, r1, lx, ix, x_cut6, x_st6, ↓s1, gk, sa, ↓bb0, ↓ev1_s2hR, ↓ev1_b2sH, ev1_boxV, ev1_extV, qES0, qES1, qES2, env0, List.length_cons, List.length_nil, Nat.reduceAdd, Nat.reduceSub, List.replicate, List.cons_append, List.nil_append, opd, Env.put, Env.at, List.set_cons_zero, List.set_cons_succ, List.getD_cons_zero, List.getD_cons_succ, freezeL, resVs, oneOr, Option.map_some, Option.map_none, List.map_cons, List.map_nil, if_true, if_false, Bool.not_true, Bool.not_false, Bool.false_eq_true, reduceIte, decide_true, decide_false, Int.reduceLT, Int.reduceLE, Int.reduceGT, Int.reduceGE, Int.reduceEq, Int.reduceBEq, Int.reduceBNe, load_ptr, ldV_some, cellAt_cells, List.getElem?_cons_zero, List.getElem?_cons_succ, store_ptr, stO_some, setAt_0, setAt_1, setAt_2, setAt_3, setAt_4, setAt_5, setAt_6, setAt_7, setAt_8, setAt_9, setAt_10, setAt_11, setAt_12, cells_int, cells_bool, cells_str, cells_nils, cells_nilp, cells_ptr, cells_sl, cells_u8, cells_u16, cells_agg, get_upd_is, Option.isSome_some, upd_upd, ev1_nchkV, ev1_faV, nchkV_ptr, faV_ptr, ev1_extV, extV_tup, eqptr_nil, eqptr_ptr, Nat.zero_add, Nat.add_zero, qPL0, qPL1, qPL2, qPL3, qPL4, qPL5, beq_self_eq_true]
      | some y =>
        obtain ⟨p1, p2, p3⟩ := getX_some hg
        have h47y := y47 998 y (rdX_ok p1)
        rw [if_pos p2, decide_eq_true p2, p3] at h47y
        rw [hg] at h50
        obtain ⟨b9, c9, d9⟩ := eqXi y ⟨f, t, sl, n, an, nk'⟩
        have hfin : b9 = (w == b) := by
          rw [Bool.eq_iff_iff, d9, beq_iff_eq]
          exact hti y hg
        subst hfin
        have g9 := eqBB (w == b) (w == b)
        rw [beq_self_eq_true] at g9
        have eS : binV .eql (.str (B.set k b)) (.str (B.set k b)) = some (.bool true) := by
          show some (AV.bool (B.set k b == B.set k b)) = _
          rw [beq_self_eq_true]
        obtain ⟨f', t', sl', n', an', nk''⟩ := y
        simp only [getXV, Xi.cells, xiC] at h50
        simp only [Xi.cells, xiC] at h47 h47y s1 st bb0 bb1 ld c9
        clear hti d9 hg p1 p2 p3
        generalize B.set k b = B' at *
        generalize (w == b) = q at *
        simp only [M15, hb, hT, h47, h47y, h50, d1, r1, lx, ix, e8, c9, g9, eS, x_cut6, x_st6, ↓s1, gk, sa, ↓bb0, ↓bb1, ↓ev1_s2hR, ↓ev1_b2sH, ev1_eqv, ev1_boxV, ev1_extV, qES0, qES1, qES2, env0, List.length_cons, List.length_nil, Nat.reduceAdd, Nat.reduceSub, List.replicate, List.cons_append, List.nil_append, opd, Env.put, Env.at, List.set_cons_zero, List.set_cons_succ, List.getD_cons_zero, List.getD_cons_succ, freezeL, resVs, oneOr, Option.map_some, Option.map_none, List.map_cons, List.map_nil, if_true, if_false, Bool.not_true, Bool.not_false, Bool.false_eq_true, reduceIte, decide_true, decide_false, Int.reduceLT, Int.reduceLE, Int.reduceGT, Int.reduceGE, Int.reduceEq, Int.reduceBEq, Int.reduceBNe, load_ptr, ldV_some, cellAt_cells, List.getElem?_cons_zero, List.getElem?_cons_succ, store_ptr, stO_some, setAt_0, setAt_1, setAt_2, setAt_3, setAt_4, setAt_5, setAt_6, setAt_7, setAt_8, setAt_9, setAt_10, setAt_11, setAt_12, cells_int, cells_bool, cells_str, cells_nils, cells_nilp, cells_ptr, cells_sl, cells_u8, cells_u16, cells_agg, get_upd_is, Option.isSome_some, upd_upd, ev1_nchkV, ev1_faV, nchkV_ptr, faV_ptr, ev1_extV, extV_tup, eqptr_nil, eqptr_ptr, Nat.zero_add, Nat.add_zero, qPL0, qPL1, qPL2, qPL3, qPL4, qPL5, beq_self_eq_true]
  · rw [if_neg g, decide_eq_false g] at h47
    simp only [Xi.cells, xiC] at h47
    simp only [M15, hb, hT, h47, x_cut6, ev1_boxV, ev1_extV, qES0, qES1, qES2, env0, List.length_cons, List.length_nil, Nat.reduceAdd, Nat.reduceSub, List.replicate, List.cons_append, List.nil_append, opd, Env.put, Env.at, List.set_cons_zero, List.set_cons_succ, List.getD_cons_zero, List.getD_cons_succ, freezeL, resVs, oneOr, Option.map_some, Option.map_none, List.map_cons, List.map_nil, if_true, if_false, Bool.not_true, Bool.not_false, Bool.false_eq_true, reduceIte, decide_true, decide_false, Int.reduceLT, Int.reduceLE, Int.reduceGT, Int.reduceGE, Int.reduceEq, Int.reduceBEq, Int.reduceBNe, load_ptr, ldV_some, cellAt_cells, List.getElem?_cons_zero, List.getElem?_cons_succ, store_ptr, stO_some, setAt_0, setAt_1, setAt_2, setAt_3, setAt_4, setAt_5, setAt_6, setAt_7, setAt_8, setAt_9, setAt_10, setAt_11, setAt_12, cells_int, cells_bool, cells_str, cells_nils, cells_nilp, cells_ptr, cells_sl, cells_u8, cells_u16, cells_agg, get_upd_is, Option.isSome_some, upd_upd, ev1_nchkV, ev1_faV, nchkV_ptr, faV_ptr, ev1_extV, extV_tup, eqptr_nil, eqptr_ptr, Nat.zero_add, Nat.add_zero, qPL0, qPL1, qPL2, qPL3, qPL4, qPL5, beq_self_eq_true]
end Go.Proofs.YtbeimfhodgmjhaaDoor.xidTurn
