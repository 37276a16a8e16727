/- glowwormref4.Get, glowwormlaw1.Short; layer 4 with them. No conditions. -/
import Derived.Test.YthcblggiojpmcaaDoorL5
import Derived.Test.YthcblggiojpmcaaDoorArg
set_option linter.unusedSimpArgs false
set_option linter.unusedVariables false
set_option maxRecDepth 100000
namespace Go.Proofs.YthcblggiojpmcaaDoor
open Go Go.Ab
/-! glowwormlaw1.Short -/
def bsV (bs : List UInt8) : AV := if bs = [] then .nils else .sl (bytesAV bs) bs.length none
theorem bsV_flat (bs : List UInt8) : Ab.flat (bsV bs) = true := by
  unfold bsV
  split
  · rfl
  · simp [Ab.flat, bytes_flat]
def hShort : List AV → St → Option AV
  | [v, .int .i64 75], _ => (toBs v).map fun bs => bsV (bs.take 75)
  | _, _ => none
theorem short_nil (s : St) : valR (evL4 1000 48 [.nils, .int .i64 75] (s.pl [])) = some .nils := by
  rw [show (1000 : Nat) = 999 + 1 from rfl, evL4_in rfl tab48]
  have l0 : lenV .nils = some (.int .i64 0) := rfl
  have s0 : slcV 1 .nils none (some (.int .i64 0)) = some .nils := rfl
  have a0 : ∀ s, appV false 1 1 s .nils .nils = some (.nils, s) := fun _ => rfl
  have m0 : (if (75 : Int) < 0 then (75 : Int) else 0) = 0 := rfl
  simp only [M48, l0, s0, a0, m0, ev1_slc, qES0, qES1, qES2, env0, List.length_cons, List.length_nil, Nat.reduceAdd, Nat.reduceSub, List.replicate, List.cons_append, List.nil_append, opd, Env.put, Env.at, List.set_cons_zero, List.set_cons_succ, List.getD_cons_zero, List.getD_cons_succ, freezeL, resVs, oneOr, Option.map_some, Option.map_none, List.map_cons, List.map_nil, if_true, if_false, Bool.not_true, Bool.not_false, Bool.false_eq_true, reduceIte, decide_true, decide_false, Int.reduceLT, Int.reduceLE, Int.reduceGT, Int.reduceGE, Int.reduceEq, Int.reduceBEq, Int.reduceBNe, load_ptr, ldV_some, cellAt_cells, List.getElem?_cons_zero, List.getElem?_cons_succ, store_ptr, stO_some, setAt_0, setAt_1, setAt_2, setAt_3, setAt_4, setAt_5, setAt_6, setAt_7, setAt_8, setAt_9, setAt_10, setAt_11, setAt_12, cells_int, cells_bool, cells_str, cells_nils, cells_nilp, cells_ptr, cells_sl, cells_u8, cells_u16, cells_agg, get_upd_is, Option.isSome_some, upd_upd, ev1_nchkV, ev1_faV, nchkV_ptr, faV_ptr, ev1_extV, extV_tup, eqptr_nil, eqptr_ptr, Nat.zero_add, Nat.add_zero, qPL0, qPL1, qPL2, qPL3, qPL4, qPL5, beq_self_eq_true]
theorem short_sl (bs : List UInt8) (s : St) : valR (evL4 1000 48 [.sl (bytesAV bs) bs.length none, .int .i64 75] (s.pl [])) = some (bsV (bs.take 75)) := by
  rw [show (1000 : Nat) = 999 + 1 from rfl, evL4_in rfl tab48]
  have l0 : lenV (.sl (bytesAV bs) bs.length none) = some (.int .i64 bs.length) := rfl
  obtain ⟨K, hK⟩ : ∃ K : Nat, K = min 75 bs.length := ⟨_, rfl⟩
  have m0 : (if (75 : Int) < (bs.length : Int) then (75 : Int) else (bs.length : Int)) = (K : Int) := by
    subst hK
    split <;> omega
  have hl : (bytesAV (bs.take 75)).length = K := by rw [bytesAV_length, List.length_take]; omega
  have htk : (bytesAV bs).take K = bytesAV (bs.take 75) := by
    have : (bytesAV bs).take K = bytesAV (bs.take K) := by simp [bytesAV, List.map_take]
    rw [this]
    congr 1
    rcases Nat.le_total 75 bs.length with h | h
    · rw [hK, Nat.min_eq_left h]
    · rw [hK, Nat.min_eq_right h, List.take_length, List.take_of_length_le h]
  have s0 : slcV 1 (.sl (bytesAV bs) bs.length none) none (some (.int .i64 (K : Int))) = some (.sl (bytesAV (bs.take 75)) K none) := by
    have h1 : 0 ≤ (K : Int) ∧ (K : Int) ≤ (bs.length : Int) := ⟨by omega, by omega⟩
    simp only [slcV, bndO, bnd]
    rw [if_pos h1]
    simp only [Int.toNat_natCast, Nat.mul_one, Nat.zero_mul, List.drop_zero, Nat.sub_zero, htk, tkCut]
  have a0 : ∀ s, appV false 1 1 s .nils (.sl (bytesAV (bs.take 75)) K none) = if K = 0 then some (.nils, s) else some (.sl (bytesAV (bs.take 75)) K (some (s.next, 0, 1)), s.new (.tick 1 0)) := fun s => by
    simp only [appV, newsOf, hl, Nat.mul_one, if_true, Bool.false_and, Bool.false_eq_true, if_false, appS]
    rw [if_pos (fits_small (by omega))]
  unfold bsV
  by_cases h0 : K = 0
  · have : bs.take 75 = [] := by
      have := bytesAV_length (bs.take 75)
      rw [hl, h0] at this
      exact List.length_eq_zero_iff.1 this.symm
    simp only [h0, if_true] at a0
    rw [if_pos this]
    simp only [M48, l0, s0, m0, h0, ev1_slc, qES0, qES1, qES2, env0, List.length_cons, List.length_nil, Nat.reduceAdd, Nat.reduceSub, List.replicate, List.cons_append, List.nil_append, opd, Env.put, Env.at, List.set_cons_zero, List.set_cons_succ, List.getD_cons_zero, List.getD_cons_succ, freezeL, resVs, oneOr, Option.map_some, Option.map_none, List.map_cons, List.map_nil, if_true, if_false, Bool.not_true, Bool.not_false, Bool.false_eq_true, reduceIte, decide_true, decide_false, Int.reduceLT, Int.reduceLE, Int.reduceGT, Int.reduceGE, Int.reduceEq, Int.reduceBEq, Int.reduceBNe, load_ptr, ldV_some, cellAt_cells, List.getElem?_cons_zero, List.getElem?_cons_succ, store_ptr, stO_some, setAt_0, setAt_1, setAt_2, setAt_3, setAt_4, setAt_5, setAt_6, setAt_7, setAt_8, setAt_9, setAt_10, setAt_11, setAt_12, cells_int, cells_bool, cells_str, cells_nils, cells_nilp, cells_ptr, cells_sl, cells_u8, cells_u16, cells_agg, get_upd_is, Option.isSome_some, upd_upd, ev1_nchkV, ev1_faV, nchkV_ptr, faV_ptr, ev1_extV, extV_tup, eqptr_nil, eqptr_ptr, Nat.zero_add, Nat.add_zero, qPL0, qPL1, qPL2, qPL3, qPL4, qPL5, beq_self_eq_true]
    rw [h0] at s0
    simp only [s0, a0, qES0, qES1, qES2, env0, List.length_cons, List.length_nil, Nat.reduceAdd, Nat.reduceSub, List.replicate, List.cons_append, List.nil_append, opd, Env.put, Env.at, List.set_cons_zero, List.set_cons_succ, List.getD_cons_zero, List.getD_cons_succ, freezeL, resVs, oneOr, Option.map_some, Option.map_none, List.map_cons, List.map_nil, if_true, if_false, Bool.not_true, Bool.not_false, Bool.false_eq_true, reduceIte, decide_true, decide_false, Int.reduceLT, Int.reduceLE, Int.reduceGT, Int.reduceGE, Int.reduceEq, Int.reduceBEq, Int.reduceBNe, load_ptr, ldV_some, cellAt_cells, List.getElem?_cons_zero, List.getElem?_cons_succ, store_ptr, stO_some, setAt_0, setAt_1, setAt_2, setAt_3, setAt_4, setAt_5, setAt_6, setAt_7, setAt_8, setAt_9, setAt_10, setAt_11, setAt_12, cells_int, cells_bool, cells_str, cells_nils, cells_nilp, cells_ptr, cells_sl, cells_u8, cells_u16, cells_agg, get_upd_is, Option.isSome_some, upd_upd, ev1_nchkV, ev1_faV, nchkV_ptr, faV_ptr, ev1_extV, extV_tup, eqptr_nil, eqptr_ptr, Nat.zero_add, Nat.add_zero, qPL0, qPL1, qPL2, qPL3, qPL4, qPL5, beq_self_eq_true]
  · have : ¬ bs.take 75 = [] := fun h => h0 (by rw [← hl, h]; rfl)
    simp only [h0, if_false] at a0
    rw [if_neg this]
    have hlen : (bs.take 75).length = K := by rw [← bytesAV_length]; exact hl
    rw [hlen]
    simp only [M48, l0, s0, a0, m0, ev1_slc, qES0, qES1, qES2, env0, List.length_cons, List.length_nil, Nat.reduceAdd, Nat.reduceSub, List.replicate, List.cons_append, List.nil_append, opd, Env.put, Env.at, List.set_cons_zero, List.set_cons_succ, List.getD_cons_zero, List.getD_cons_succ, freezeL, resVs, oneOr, Option.map_some, Option.map_none, List.map_cons, List.map_nil, if_true, if_false, Bool.not_true, Bool.not_false, Bool.false_eq_true, reduceIte, decide_true, decide_false, Int.reduceLT, Int.reduceLE, Int.reduceGT, Int.reduceGE, Int.reduceEq, Int.reduceBEq, Int.reduceBNe, load_ptr, ldV_some, cellAt_cells, List.getElem?_cons_zero, List.getElem?_cons_succ, store_ptr, stO_some, setAt_0, setAt_1, setAt_2, setAt_3, setAt_4, setAt_5, setAt_6, setAt_7, setAt_8, setAt_9, setAt_10, setAt_11, setAt_12, cells_int, cells_bool, cells_str, cells_nils, cells_nilp, cells_ptr, cells_sl, cells_u8, cells_u16, cells_agg, get_upd_is, Option.isSome_some, upd_upd, ev1_nchkV, ev1_faV, nchkV_ptr, faV_ptr, ev1_extV, extV_tup, eqptr_nil, eqptr_ptr, Nat.zero_add, Nat.add_zero, qPL0, qPL1, qPL2, qPL3, qPL4, qPL5, beq_self_eq_true]
theorem short_pure : PureOk (evL4 1000) 48 hShort := pureOk_of (by
  intro args s v h
  unfold hShort at h
  split at h
  · obtain ⟨bs, hb, rfl⟩ := one_of h
    rcases toBs_of hb with ⟨rfl, rfl⟩ | rfl
    · exact ⟨rfl, rfl, short_nil St.nil⟩
    · exact ⟨bsV_flat _, by simp [flatL, Ab.flat, bytes_flat], short_sl bs St.nil⟩
  · cases h)
/-! glowwormref4.Get -/
def hRGet : List AV → St → Option AV
  | [v], _ => (toBs v).map fun bs => match gfr bs with
    | some f => .tup [.agg f.pn.cells, .bool true]
    | none => .tup [.agg Pn.zero.cells, .bool false]
  | _, _ => none
theorem rget_short (v : AV) (n : Nat) (hl : lenV v = some (.int .i64 n)) (hn : (n : Int) < 3) (s : St) : valR (evL4 1000 49 [v] (s.pl [])) = some (.tup [.agg Pn.zero.cells, .bool false]) := by
  rw [show (1000 : Nat) = 999 + 1 from rfl, evL4_in rfl tab49]
  have hn' : ((n : Int) < 3) = True := eq_true hn
  simp only [M49, hl, hn', Pn.zero, Pn.cells, qES0, qES1, qES2, env0, List.length_cons, List.length_nil, Nat.reduceAdd, Nat.reduceSub, List.replicate, List.cons_append, List.nil_append, opd, Env.put, Env.at, List.set_cons_zero, List.set_cons_succ, List.getD_cons_zero, List.getD_cons_succ, freezeL, resVs, oneOr, Option.map_some, Option.map_none, List.map_cons, List.map_nil, if_true, if_false, Bool.not_true, Bool.not_false, Bool.false_eq_true, reduceIte, decide_true, decide_false, Int.reduceLT, Int.reduceLE, Int.reduceGT, Int.reduceGE, Int.reduceEq, Int.reduceBEq, Int.reduceBNe, load_ptr, ldV_some, cellAt_cells, List.getElem?_cons_zero, List.getElem?_cons_succ, store_ptr, stO_some, setAt_0, setAt_1, setAt_2, setAt_3, setAt_4, setAt_5, setAt_6, setAt_7, setAt_8, setAt_9, setAt_10, setAt_11, setAt_12, cells_int, cells_bool, cells_str, cells_nils, cells_nilp, cells_ptr, cells_sl, cells_u8, cells_u16, cells_agg, get_upd_is, Option.isSome_some, upd_upd, ev1_nchkV, ev1_faV, nchkV_ptr, faV_ptr, ev1_extV, extV_tup, eqptr_nil, eqptr_ptr, Nat.zero_add, Nat.add_zero, qPL0, qPL1, qPL2, qPL3, qPL4, qPL5, beq_self_eq_true]
theorem rget_long (a b c : UInt8) (rest : List UInt8) (s : St) : valR (evL4 1000 49 [.sl (bytesAV (a :: b :: c :: rest)) (rest.length + 3) none] (s.pl [])) = some (match gfr (a :: b :: c :: rest) with
    | some f => .tup [.agg f.pn.cells, .bool true]
    | none => .tup [.agg Pn.zero.cells, .bool false]) := by
  rw [show (1000 : Nat) = 999 + 1 from rfl, evL4_in rfl tab49]
  have ha := a.toNat_lt
  have hb := b.toNat_lt
  have hc := c.toNat_lt
  have h39 := f39 998 c.toNat (by omega)
  have e0 : bytesAV (a :: b :: c :: rest) = .int .u8 a.toNat :: .int .u8 b.toNat :: .int .u8 c.toNat :: bytesAV rest := rfl
  have i0 : ixaV 1 (.sl (.int .u8 a.toNat :: .int .u8 b.toNat :: .int .u8 c.toNat :: bytesAV rest) (rest.length + 3) none) (.int .i64 0) = some (.rp (.int .u8 a.toNat :: .int .u8 b.toNat :: .int .u8 c.toNat :: bytesAV rest)) := by
    simp only [ixaV, idx]; rw [if_pos ⟨by omega, by omega⟩]; rfl
  have i1 : ixaV 1 (.sl (.int .u8 a.toNat :: .int .u8 b.toNat :: .int .u8 c.toNat :: bytesAV rest) (rest.length + 3) none) (.int .i64 1) = some (.rp (.int .u8 b.toNat :: .int .u8 c.toNat :: bytesAV rest)) := by
    simp only [ixaV, idx]; rw [if_pos ⟨by omega, by omega⟩]; rfl
  have i2 : ixaV 1 (.sl (.int .u8 a.toNat :: .int .u8 b.toNat :: .int .u8 c.toNat :: bytesAV rest) (rest.length + 3) none) (.int .i64 2) = some (.rp (.int .u8 c.toNat :: bytesAV rest)) := by
    simp only [ixaV, idx]; rw [if_pos ⟨by omega, by omega⟩]; rfl
  have cu : ∀ x l, Ab.cut (x :: l) 0 none = some x := fun _ _ => rfl
  have hs : slcV 1 (.sl (.int .u8 a.toNat :: .int .u8 b.toNat :: .int .u8 c.toNat :: bytesAV rest) (rest.length + 3) none) (some (.int .i64 3)) none = some (.sl (bytesAV rest) rest.length none) := by
    simp only [slcV, bndO, bnd]
    rw [if_pos ⟨by omega, by omega⟩]
    have hl : (bytesAV rest).length = rest.length := bytesAV_length rest
    simp [tkCut, ← hl]
  have hb2 : convP .b2s (.sl (bytesAV rest) rest.length none) = some (.str rest) := by
    simp [convP, bytesAV_length, toBytes_bytesAV]
  have hm : (a.toNat : Int).tmod 2 = ((a.toNat % 2 : Nat) : Int) := rfl
  have hq : (((a.toNat % 2 : Nat) : Int) == 1) = decide (a.toNat % 2 = 1) := by
    rw [Bool.eq_iff_iff, beq_iff_eq, decide_eq_true_iff]; omega
  have hw0 : IntKind.i64.wrap (a.toNat : Int) = (a.toNat : Int) := wrapI _ (by omega) (by omega)
  have hw1 : IntKind.i64.wrap ((a.toNat : Int).tdiv 2) = ((a.toNat / 2 : Nat) : Int) := wrapI ((a.toNat / 2 : Nat) : Int) (by omega) (by omega)
  have hw2 : IntKind.i64.wrap (b.toNat : Int) = (b.toNat : Int) := wrapI _ (by omega) (by omega)
  have hlt : (((rest.length + 3 : Nat) : Int) < 3) = False := eq_false (by omega)
  have uq := i64_quo a.toNat 2 (by omega)
  have ur := u8_rem a.toNat 2 (by omega)
  have gl : lenV (.sl (.int .u8 a.toNat :: .int .u8 b.toNat :: .int .u8 c.toNat :: bytesAV rest) (rest.length + 3) none) = some (.int .i64 (rest.length + 3 : Nat)) := rfl
  simp only [gfr]
  rw [e0]
  have hF : ∀ is, (gct c.toNat).is = is → (is = false → (Fr.mk (a.toNat / 2 : Nat) b.toNat (decide (a.toNat % 2 = 1)) (gct c.toNat) rest).may = false) := fun is h1 h2 => by
    rw [h2] at h1
    rw [Bool.eq_false_iff]
    intro h
    have := fr_may_ctl h
    rw [not_is h1] at this
    cases this
  cases his : (gct c.toNat).is with
  | false =>
    rw [his] at h39
    rw [hF _ his rfl]
    simp only [Ct.pn, Pn.cells] at h39
    simp only [M49, gl, hlt, i0, i1, i2, cu, h39, uq, ur, hw0, hw1, hw2, hm, hq, hs, hb2, u8_eq, bk_convH, bkH_sl, bkH_int, ev1_slc, qES0, qES1, qES2, env0, List.length_cons, List.length_nil, Nat.reduceAdd, Nat.reduceSub, List.replicate, List.cons_append, List.nil_append, opd, Env.put, Env.at, List.set_cons_zero, List.set_cons_succ, List.getD_cons_zero, List.getD_cons_succ, freezeL, resVs, oneOr, Option.map_some, Option.map_none, List.map_cons, List.map_nil, if_true, if_false, Bool.not_true, Bool.not_false, Bool.false_eq_true, reduceIte, decide_true, decide_false, Int.reduceLT, Int.reduceLE, Int.reduceGT, Int.reduceGE, Int.reduceEq, Int.reduceBEq, Int.reduceBNe, load_ptr, ldV_some, cellAt_cells, List.getElem?_cons_zero, List.getElem?_cons_succ, store_ptr, stO_some, setAt_0, setAt_1, setAt_2, setAt_3, setAt_4, setAt_5, setAt_6, setAt_7, setAt_8, setAt_9, setAt_10, setAt_11, setAt_12, cells_int, cells_bool, cells_str, cells_nils, cells_nilp, cells_ptr, cells_sl, cells_u8, cells_u16, cells_agg, get_upd_is, Option.isSome_some, upd_upd, ev1_nchkV, ev1_faV, nchkV_ptr, faV_ptr, ev1_extV, extV_tup, eqptr_nil, eqptr_ptr, Nat.zero_add, Nat.add_zero, qPL0, qPL1, qPL2, qPL3, qPL4, qPL5, beq_self_eq_true, qED0, qED1, placeR]
    rw [drawR_ok]; case h => simp (config := { decide := true }) [calm, calmPair, calmTwo, List.range, List.range.loop, sameO_refl, plg0, plg1, plg2, plg3, plg4, plg5, plg6, plg7, plg8, plg9, plg10, plg11, plg12, plg13]
    simp only [Pn.zero, Pn.cells, qES0, qES1, qES2, env0, List.length_cons, List.length_nil, Nat.reduceAdd, Nat.reduceSub, List.replicate, List.cons_append, List.nil_append, opd, Env.put, Env.at, List.set_cons_zero, List.set_cons_succ, List.getD_cons_zero, List.getD_cons_succ, freezeL, resVs, oneOr, Option.map_some, Option.map_none, List.map_cons, List.map_nil, if_true, if_false, Bool.not_true, Bool.not_false, Bool.false_eq_true, reduceIte, decide_true, decide_false, Int.reduceLT, Int.reduceLE, Int.reduceGT, Int.reduceGE, Int.reduceEq, Int.reduceBEq, Int.reduceBNe, load_ptr, ldV_some, cellAt_cells, List.getElem?_cons_zero, List.getElem?_cons_succ, store_ptr, stO_some, setAt_0, setAt_1, setAt_2, setAt_3, setAt_4, setAt_5, setAt_6, setAt_7, setAt_8, setAt_9, setAt_10, setAt_11, setAt_12, cells_int, cells_bool, cells_str, cells_nils, cells_nilp, cells_ptr, cells_sl, cells_u8, cells_u16, cells_agg, get_upd_is, Option.isSome_some, upd_upd, ev1_nchkV, ev1_faV, nchkV_ptr, faV_ptr, ev1_extV, extV_tup, eqptr_nil, eqptr_ptr, Nat.zero_add, Nat.add_zero, qPL0, qPL1, qPL2, qPL3, qPL4, qPL5, beq_self_eq_true, qED0, qED1, placeR]
  | true =>
    rw [his] at h39
    have hT := pn_ctl_is _ his
    generalize gct c.toNat = T at h39 hT his
    have h41 := f41 998 ⟨(a.toNat / 2 : Nat), b.toNat, decide (a.toNat % 2 = 1), T.kind, T.sort, T.nr, T.ns, T.pf, rest⟩
    have hq' : (Pn.mk (a.toNat / 2 : Nat) b.toNat (decide (a.toNat % 2 = 1)) T.kind T.sort T.nr T.ns T.pf rest).may = (Fr.mk (a.toNat / 2 : Nat) b.toNat (decide (a.toNat % 2 = 1)) T rest).may := by
      have h1 : (Pn.mk (a.toNat / 2 : Nat) b.toNat (decide (a.toNat % 2 = 1)) T.kind T.sort T.nr T.ns T.pf rest).ctl = T := hT
      have h2 : (Pn.mk (a.toNat / 2 : Nat) b.toNat (decide (a.toNat % 2 = 1)) T.kind T.sort T.nr T.ns T.pf rest).exact = true := by
        cases T <;> first | rfl | cases his
      have h3 : (Pn.mk (a.toNat / 2 : Nat) b.toNat (decide (a.toNat % 2 = 1)) T.kind T.sort T.nr T.ns T.pf rest).fr = Fr.mk (a.toNat / 2 : Nat) b.toNat (decide (a.toNat % 2 = 1)) T rest := by
        rw [Pn.fr, h1]
      rw [Pn.may, h2, h3, Bool.and_true]
    rw [hq'] at h41
    simp only [Ct.pn, Pn.cells] at h39 h41
    cases hmm : (Fr.mk (a.toNat / 2 : Nat) b.toNat (decide (a.toNat % 2 = 1)) T rest).may with
    | false =>
      rw [hmm] at h41
      simp only [M49, gl, hlt, i0, i1, i2, cu, h39, uq, ur, hw0, hw1, hw2, hm, hq, hs, hb2, u8_eq, bk_convH, bkH_sl, bkH_int, ev1_slc, qES0, qES1, qES2, env0, List.length_cons, List.length_nil, Nat.reduceAdd, Nat.reduceSub, List.replicate, List.cons_append, List.nil_append, opd, Env.put, Env.at, List.set_cons_zero, List.set_cons_succ, List.getD_cons_zero, List.getD_cons_succ, freezeL, resVs, oneOr, Option.map_some, Option.map_none, List.map_cons, List.map_nil, if_true, if_false, Bool.not_true, Bool.not_false, Bool.false_eq_true, reduceIte, decide_true, decide_false, Int.reduceLT, Int.reduceLE, Int.reduceGT, Int.reduceGE, Int.reduceEq, Int.reduceBEq, Int.reduceBNe, load_ptr, ldV_some, cellAt_cells, List.getElem?_cons_zero, List.getElem?_cons_succ, store_ptr, stO_some, setAt_0, setAt_1, setAt_2, setAt_3, setAt_4, setAt_5, setAt_6, setAt_7, setAt_8, setAt_9, setAt_10, setAt_11, setAt_12, cells_int, cells_bool, cells_str, cells_nils, cells_nilp, cells_ptr, cells_sl, cells_u8, cells_u16, cells_agg, get_upd_is, Option.isSome_some, upd_upd, ev1_nchkV, ev1_faV, nchkV_ptr, faV_ptr, ev1_extV, extV_tup, eqptr_nil, eqptr_ptr, Nat.zero_add, Nat.add_zero, qPL0, qPL1, qPL2, qPL3, qPL4, qPL5, beq_self_eq_true, qED0, qED1, placeR]
      rw [drawR_ok]; case h => simp (config := { decide := true }) [calm, calmPair, calmTwo, List.range, List.range.loop, sameO_refl, plg0, plg1, plg2, plg3, plg4, plg5, plg6, plg7, plg8, plg9, plg10, plg11, plg12, plg13]
      simp only [h41, Pn.zero, Pn.cells, qES0, qES1, qES2, env0, List.length_cons, List.length_nil, Nat.reduceAdd, Nat.reduceSub, List.replicate, List.cons_append, List.nil_append, opd, Env.put, Env.at, List.set_cons_zero, List.set_cons_succ, List.getD_cons_zero, List.getD_cons_succ, freezeL, resVs, oneOr, Option.map_some, Option.map_none, List.map_cons, List.map_nil, if_true, if_false, Bool.not_true, Bool.not_false, Bool.false_eq_true, reduceIte, decide_true, decide_false, Int.reduceLT, Int.reduceLE, Int.reduceGT, Int.reduceGE, Int.reduceEq, Int.reduceBEq, Int.reduceBNe, load_ptr, ldV_some, cellAt_cells, List.getElem?_cons_zero, List.getElem?_cons_succ, store_ptr, stO_some, setAt_0, setAt_1, setAt_2, setAt_3, setAt_4, setAt_5, setAt_6, setAt_7, setAt_8, setAt_9, setAt_10, setAt_11, setAt_12, cells_int, cells_bool, cells_str, cells_nils, cells_nilp, cells_ptr, cells_sl, cells_u8, cells_u16, cells_agg, get_upd_is, Option.isSome_some, upd_upd, ev1_nchkV, ev1_faV, nchkV_ptr, faV_ptr, ev1_extV, extV_tup, eqptr_nil, eqptr_ptr, Nat.zero_add, Nat.add_zero, qPL0, qPL1, qPL2, qPL3, qPL4, qPL5, beq_self_eq_true, qED0, qED1, placeR]
    | true =>
      rw [hmm] at h41
      have hpn : (Fr.mk (a.toNat / 2 : Nat) b.toNat (decide (a.toNat % 2 = 1)) T rest).pn = ⟨(a.toNat / 2 : Nat), b.toNat, decide (a.toNat % 2 = 1), T.kind, T.sort, T.nr, T.ns, T.pf, rest⟩ := by
        rw [Fr.pn, if_pos hmm]
      simp only [M49, gl, hlt, i0, i1, i2, cu, h39, uq, ur, hw0, hw1, hw2, hm, hq, hs, hb2, u8_eq, bk_convH, bkH_sl, bkH_int, ev1_slc, qES0, qES1, qES2, env0, List.length_cons, List.length_nil, Nat.reduceAdd, Nat.reduceSub, List.replicate, List.cons_append, List.nil_append, opd, Env.put, Env.at, List.set_cons_zero, List.set_cons_succ, List.getD_cons_zero, List.getD_cons_succ, freezeL, resVs, oneOr, Option.map_some, Option.map_none, List.map_cons, List.map_nil, if_true, if_false, Bool.not_true, Bool.not_false, Bool.false_eq_true, reduceIte, decide_true, decide_false, Int.reduceLT, Int.reduceLE, Int.reduceGT, Int.reduceGE, Int.reduceEq, Int.reduceBEq, Int.reduceBNe, load_ptr, ldV_some, cellAt_cells, List.getElem?_cons_zero, List.getElem?_cons_succ, store_ptr, stO_some, setAt_0, setAt_1, setAt_2, setAt_3, setAt_4, setAt_5, setAt_6, setAt_7, setAt_8, setAt_9, setAt_10, setAt_11, setAt_12, cells_int, cells_bool, cells_str, cells_nils, cells_nilp, cells_ptr, cells_sl, cells_u8, cells_u16, cells_agg, get_upd_is, Option.isSome_some, upd_upd, ev1_nchkV, ev1_faV, nchkV_ptr, faV_ptr, ev1_extV, extV_tup, eqptr_nil, eqptr_ptr, Nat.zero_add, Nat.add_zero, qPL0, qPL1, qPL2, qPL3, qPL4, qPL5, beq_self_eq_true, qED0, qED1, placeR]
      rw [drawR_ok]; case h => simp (config := { decide := true }) [calm, calmPair, calmTwo, List.range, List.range.loop, sameO_refl, plg0, plg1, plg2, plg3, plg4, plg5, plg6, plg7, plg8, plg9, plg10, plg11, plg12, plg13]
      simp only [h41, hpn, Pn.cells, qES0, qES1, qES2, env0, List.length_cons, List.length_nil, Nat.reduceAdd, Nat.reduceSub, List.replicate, List.cons_append, List.nil_append, opd, Env.put, Env.at, List.set_cons_zero, List.set_cons_succ, List.getD_cons_zero, List.getD_cons_succ, freezeL, resVs, oneOr, Option.map_some, Option.map_none, List.map_cons, List.map_nil, if_true, if_false, Bool.not_true, Bool.not_false, Bool.false_eq_true, reduceIte, decide_true, decide_false, Int.reduceLT, Int.reduceLE, Int.reduceGT, Int.reduceGE, Int.reduceEq, Int.reduceBEq, Int.reduceBNe, load_ptr, ldV_some, cellAt_cells, List.getElem?_cons_zero, List.getElem?_cons_succ, store_ptr, stO_some, setAt_0, setAt_1, setAt_2, setAt_3, setAt_4, setAt_5, setAt_6, setAt_7, setAt_8, setAt_9, setAt_10, setAt_11, setAt_12, cells_int, cells_bool, cells_str, cells_nils, cells_nilp, cells_ptr, cells_sl, cells_u8, cells_u16, cells_agg, get_upd_is, Option.isSome_some, upd_upd, ev1_nchkV, ev1_faV, nchkV_ptr, faV_ptr, ev1_extV, extV_tup, eqptr_nil, eqptr_ptr, Nat.zero_add, Nat.add_zero, qPL0, qPL1, qPL2, qPL3, qPL4, qPL5, beq_self_eq_true, qED0, qED1, placeR]
theorem rget_pure : PureOk (evL4 1000) 49 hRGet := pureOk_of (by
  intro args s v h
  unfold hRGet at h
  split at h
  · obtain ⟨bs, hb, rfl⟩ := one_of h
    refine ⟨?_, ?_, ?_⟩
    · split
      · exact rfl
      · rfl
    · rcases toBs_of hb with ⟨rfl, rfl⟩ | rfl
      · rfl
      · simp [Ab.flat, Ab.flatL, bytes_flat]
    · rcases toBs_of hb with ⟨rfl, rfl⟩ | rfl
      · exact rget_short .nils 0 rfl (by decide) St.nil
      · match bs with
        | [] => exact rget_short _ 0 rfl (by decide) St.nil
        | [a] => exact rget_short _ 1 rfl (by decide) St.nil
        | [a, b] => exact rget_short _ 2 rfl (by decide) St.nil
        | a :: b :: c :: rest => exact rget_long a b c rest St.nil
  · cases h)
def lst5 (f : Nat) : Option (List AV → St → Option AV) := if f = 48 then some hShort else if f = 49 then some hRGet else none
noncomputable def ext5 := extWith ext4 lst5
theorem ext5_ok : ∀ w0, ExtOk Tryd.prog tabGl w0 ext5 := extOk_add (tableOf_ok _) mixed tab_flat ext4_ok lst5 (by
  intro f h hf
  unfold lst5 at hf
  rcases some_of hf with ⟨rfl, rfl⟩ | hf
  · exact ⟨by rw [tab48]; rfl, 1000, short_pure⟩
  rcases some_of hf with ⟨rfl, rfl⟩ | hf
  · exact ⟨by rw [tab49]; rfl, 1000, rget_pure⟩
  cases hf)
noncomputable def evL5 : Nat → Calls' := evF tabGl (tableOf Tryd.prog) ext5
theorem evL5_ok (w0 : World) (k : Nat) : CallOk Tryd.prog tabGl w0 (evL5 k) := evF_sound (tableOf_ok _) (ext5_ok w0) mixed k
theorem evL5_in {k f : Nat} {m : MFun} (hx : ext5 f = none) (hF : tableOf Tryd.prog f = some m) (args : List AV) (s : St) :
    evL5 (k + 1) f args s = outR m.res (evC tabGl (evL5 k) k m.body (env0 m.ntmps args) s) := evF_in hx hF args s
theorem g20 (k : Nat) (s : St) : evL5 (k + 1) 20 [] s = some (.bool true, s) := evF_ext (H := hTrue) rfl rfl
theorem dry_bs (v : AV) (bs : List UInt8) (h : IsBytes v bs) : toBs (dry1 v) = some bs := by
  rcases h with ⟨rfl, rfl⟩ | rfl
  · rfl
  · exact toBs_mk bs
theorem dry_bsV (bs : List UInt8) : toBs (dry1 (bsV bs)) = some bs := by
  unfold bsV
  split
  · rename_i h; subst h; rfl
  · exact toBs_mk bs
theorem g48 (k : Nat) (v : AV) (bs : List UInt8) (h : IsBytes v bs) (s : St) : evL5 (k + 1) 48 [v, .int .i64 75] s = some (bsV (bs.take 75), s) := evF_ext (H := hShort) rfl (by
  simp only [List.map_cons, List.map_nil, dry1_int, hShort, dry_bs v bs h, Option.map_some])
theorem g43 (k : Nat) (bs : List UInt8) (s : St) : evL5 (k + 1) 43 [bsV bs] s = some (match gfr bs with
    | some f => .tup [.agg f.cells, .bool true]
    | none => .tup [.agg Fr.zero.cells, .bool false], s) := evF_ext (H := hFGet) rfl (by
  simp only [List.map_cons, List.map_nil, hFGet, dry_bsV, Option.map_some]; rfl)
theorem g49 (k : Nat) (bs : List UInt8) (s : St) : evL5 (k + 1) 49 [bsV bs] s = some (match gfr bs with
    | some f => .tup [.agg f.pn.cells, .bool true]
    | none => .tup [.agg Pn.zero.cells, .bool false], s) := evF_ext (H := hRGet) rfl (by
  simp only [List.map_cons, List.map_nil, hRGet, dry_bsV, Option.map_some])
theorem g46 (k : Nat) (f : Fr) (s : St) : evL5 (k + 1) 46 [.agg f.cells] s = some (.agg f.pn.cells, s) := evF_ext (H := hFPlain) rfl (by simp only [List.map_cons, List.map_nil, dry1_agg, hFPlain, toFr, Fr.cells, toCt_av, Option.map_some])
theorem g42 (k : Nat) (f : Fr) (s : St) : evL5 (k + 1) 42 [.agg f.cells] s = some (if f.may = true then .tup [.sl f.bytes (3 + f.body.length) none, .bool true] else .tup [.nils, .bool false], s) := evF_ext (H := hFPut) rfl (by simp only [List.map_cons, List.map_nil, dry1_agg, hFPut, toFr, Fr.cells, toCt_av, Option.map_some])
theorem g21 (k : Nat) (l : List UInt8) (n : Nat) (s : St) : evL5 (k + 1) 21 [.str l, .int .i64 (n : Int)] s = some (.str (l.take n), s) := evF_ext (H := hText) rfl (by simp only [List.map_cons, List.map_nil, dry1_str, dry1_int, hText]; rw [if_pos (by omega)]; simp)
theorem g47f (k : Nat) (v : AV) (h : isFo v = true) (s : St) : evL5 (k + 1) 47 [v] s = some (.bool false, s) := by
  refine evF_ext (H := hFMay) rfl ?_
  obtain ⟨seat, count, cmd, t, w, body, rfl, hw⟩ := isFo_of h
  simp only [List.map_cons, List.map_nil, dry1_agg, hFMay, toFr_fo h]
  rw [if_pos h]
theorem g46f (k : Nat) (v : AV) (h : isFo v = true) (hf : Ab.flat v = true) (s : St) : evL5 (k + 1) 46 [v] s = some (.agg Pn.zero.cells, s) := by
  refine evF_ext (H := hFPlain) rfl ?_
  obtain ⟨seat, count, cmd, t, w, body, rfl, hw⟩ := isFo_of h
  simp only [List.map_cons, List.map_nil, dry1_agg, hFPlain, toFr_fo h]
  rw [if_pos (by simp [h, hf])]
theorem g42f (k : Nat) (v : AV) (h : isFo v = true) (hf : Ab.flat v = true) (s : St) : evL5 (k + 1) 42 [v] s = some (.tup [.nils, .bool false], s) := by
  refine evF_ext (H := hFPut) rfl ?_
  obtain ⟨seat, count, cmd, t, w, body, rfl, hw⟩ := isFo_of h
  simp only [List.map_cons, List.map_nil, dry1_agg, hFPut, toFr_fo h]
  rw [if_pos (by simp [h, hf])]
theorem g45f (k : Nat) (v : AV) (h : isFo v = true) (hf : Ab.flat v = true) (s : St) : evL5 (k + 1) 45 [v, v] s = some (.bool false, s) := by
  refine evF_ext (H := hEq) rfl ?_
  obtain ⟨seat, count, cmd, t, w, body, rfl, hw⟩ := isFo_of h
  simp only [List.map_cons, List.map_nil, dry1_agg, hEq, toFr_fo h]
  rw [if_pos (by simp [h, hf])]
theorem num_gct' : ∀ n, n < 256 → (gct n).is = true → (gct n).may = true ∧ (gct n).num = (n : Nat) := by decide +kernel
/-- Bytes that are a frame's are just its. -/
theorem gfr_some {bs : List UInt8} {f : Fr} (h : gfr bs = some f) : f.may = true ∧ f.B = bs := by
  unfold gfr at h
  split at h
  · rename_i a b c rest
    split at h
    · rename_i hm
      cases h
      refine ⟨hm, ?_⟩
      have ha := a.toNat_lt
      have hb := b.toNat_lt
      have hc := c.toNat_lt
      obtain ⟨_, hn⟩ := num_gct' c.toNat (by omega) (may_is (fr_may_ctl hm))
      simp only [Fr.B, hn]
      have e1 : (((a.toNat / 2 : Nat) : Int) * 2 + (if decide (a.toNat % 2 = 1) = true then 1 else 0)).toNat = a.toNat := by
        by_cases h : a.toNat % 2 = 1 <;> simp [h] <;> omega
      rw [e1]
      simp
    · cases h
  · cases h
end Go.Proofs.YthcblggiojpmcaaDoor
