/- rx.New, rx.All, as the evaluator answers them. No conditions. -/
import Derived.Test.YtghfinbdgnggjaaRx
import Derived.Test.YtghfinbdgnggjaaConcat
set_option linter.unusedSimpArgs false
namespace Go.Ab
open Go
/-- A list of slices. -/
def IsL (o : AV) (ys : List AV) : Prop := (o = .nils ∧ ys = []) ∨ ∃ tk, o = .sl ys ys.length tk
theorem IsL.freeze {o : AV} {ys : List AV} (h : IsL o ys) (n : Nat) (s : St) : Ab.freeze n s o = some (o, s) := by
  rcases h with ⟨rfl, _⟩ | ⟨tk, rfl⟩ <;> rfl
theorem IsL.len {o : AV} {ys : List AV} (h : IsL o ys) : lenV o = some (.int .i64 ys.length) := by
  rcases h with ⟨rfl, rfl⟩ | ⟨tk, rfl⟩ <;> rfl
theorem IsL.ixa {o : AV} {ys : List AV} (h : IsL o ys) (i : Nat) (hi : i < ys.length) : ixaV 1 o (.int .i64 (i : Int)) = some (.rp (ys.drop i)) := by
  rcases h with ⟨rfl, rfl⟩ | ⟨tk, rfl⟩
  · simp at hi
  · exact sl_ixa ys tk i hi
/-- A list of slices of one's own, made since b; p, t: whose it is not. -/
def OwnL (b : Nat) (s : St) (o : AV) (ys : List AV) (p t : Nat) : Prop :=
  (o = .nils ∧ ys = []) ∨ ∃ t2 v, o = .sl ys ys.length (some (t2, v, 1)) ∧ t2 < s.next ∧ s.get t2 = some (.tick 1 v) ∧ t2 ≠ p ∧ t2 ≠ t ∧ b ≤ t2
theorem OwnL.isL {b : Nat} {s : St} {o : AV} {ys : List AV} {p t : Nat} (h : OwnL b s o ys p t) : IsL o ys := by
  rcases h with h | ⟨t2, v, h, _⟩
  · exact .inl h
  · exact .inr ⟨_, h⟩
theorem OwnL.still {b : Nat} {s s' : St} {o : AV} {ys : List AV} {p t t' : Nat} (h : OwnL b s o ys p t) (f : Still p t s s') (ht : t' = t ∨ s.next ≤ t') : OwnL b s' o ys p t' := by
  rcases h with h | ⟨t2, v, h, h1, h2, h3, h4, h5⟩
  · exact .inl h
  · refine .inr ⟨t2, v, h, Nat.lt_of_lt_of_le h1 f.le, (f.get t2 h1 h3 h4).trans h2, h3, ?_, h5⟩
    rcases ht with rfl | ht
    · exact h4
    · omega
theorem fits24 {n : Nat} (h : n ≤ 10000000) : fits n 24 = true := by simp [fits]; omega
theorem OwnL.app {b : Nat} {s : St} {o : AV} {ys : List AV} {p t : Nat} (h : OwnL b s o ys p t) (hp : p < s.next) (ht : t < s.next) (hb : b ≤ s.next) (y : AV) (tk) (hl : ys.length ≤ 1000000) :
    ∃ o' s', appV false 1 24 s o (.sl [y] 1 tk) = some (o', s') ∧ OwnL b s' o' (ys ++ [y]) p t ∧ s.next ≤ s'.next ∧ ∀ q, q < s.next → q = p ∨ q = t ∨ q < b → s'.get q = s.get q := by
  have hn : newsOf 1 s (.sl [y] 1 tk) = some ([y], 1) := rfl
  rcases h with ⟨rfl, rfl⟩ | ⟨t2, v, rfl, h1, h2, h3, h4, h5⟩
  · refine ⟨.sl [y] 1 (some (s.next, 0, 1)), s.new (.tick 1 0), rfl, .inr ⟨s.next, 0, rfl, by simp [St.new], get_new_eq _ _, by omega, by omega, hb⟩, by simp [St.new], fun q hq _ => get_new_ne _ _ (by omega)⟩
  · refine ⟨.sl (ys ++ [y]) (ys ++ [y]).length (some (t2, v + 1, 1)), s.upd t2 (.tick 1 (v + 1)), ?_, .inr ⟨t2, v + 1, rfl, h1, get_upd_eq _ _ h2, h3, h4, h5⟩, Nat.le_refl _, fun q hq hh => get_upd_ne _ _ (by omega)⟩
    simp only [appV, hn, appS, h2, Bool.false_and, if_false, Bool.false_eq_true]
    rw [if_pos ⟨trivial, trivial, by simp, fits24 (by omega)⟩]
    simp
theorem Still.ext {a s s' : St} {p t : Nat} (h : Ext a s) (f : Still p t s s') (hp : a.next ≤ p) (ht : a.next ≤ t) : Ext a s' :=
  ⟨Nat.le_trans h.le f.le, fun q hq => (f.get q (Nat.lt_of_lt_of_le hq h.le) (by omega) (by omega)).trans (h.get q hq)⟩
theorem AllBys.snoc {ls : List AV} {bs : List (List UInt8)} (h : AllBys ls bs) {y : AV} {b : List UInt8} (hy : Bys y b) : AllBys (ls ++ [y]) (bs ++ [b]) := by
  induction ls generalizing bs with
  | nil => cases bs with
    | nil => exact ⟨hy, trivial⟩
    | cons b bs => exact absurd h id
  | cons x ls ih => cases bs with
    | nil => exact absurd h id
    | cons b bs => exact ⟨h.1, ih h.2⟩
end Go.Ab
namespace Go.Proofs.Ytghfinbdgnggjaa
open Go Go.Ab
def rxStep (st : RxS × List (List UInt8)) (x : UInt8) : RxS × List (List UInt8) :=
  ((rxPut st.1 x).1, if (rxPut st.1 x).2.2.2 && (rxPut st.1 x).2.2.1 == 0 then st.2 ++ [(rxPut st.1 x).2.1] else st.2)
def rxMost (m : Int) : Nat := (min (max m 1) 200).toNat
def rxNew (m : Int) : RxS := ⟨rxMost m, [], false, false⟩
def rxRun (r : RxS) (xs : List UInt8) : RxS × List (List UInt8) := xs.foldl rxStep (r, [])
def rxAll (m : Int) (xs : List UInt8) : List (List UInt8) := (rxRun (rxNew m) xs).2
theorem rxMost_le (m : Int) : rxMost m ≤ 200 := by unfold rxMost; omega
theorem rxPut_inv (r : RxS) (x : UInt8) (h : r.b.length ≤ r.most + 2) : (rxPut r x).1.b.length ≤ (rxPut r x).1.most + 2 ∧ (rxPut r x).1.most = r.most := by
  unfold rxPut rxShut rxMore
  repeat' split
  all_goals simp_all
  all_goals omega
theorem rxNew_ev (m : Int) (k : Nat) (s : St) : ∃ s', ev (k + 1) 36 [.int .i64 m] s = some (.ptr s.next 0, s') ∧ RxAt s' s.next (rxNew m) s.next ∧ Ext s s' := by
  have hm : (if (200 : Int) < (if (1 : Int) > m then (1 : Int) else m) then (200 : Int) else (if (1 : Int) > m then (1 : Int) else m)) = ((rxMost m : Nat) : Int) := by
    unfold rxMost; split <;> split <;> omega
  refine ⟨s.new (.cells 0 [.int .i64 (rxMost m), .nils, .bool false, .bool false]), ?_, ⟨.nils, get_new_eq _ _, OwnT.nil _ _, by simp [St.new], by simp [St.new]⟩, (Ext.refl s).new _⟩
  rw [ev_in rfl tab36]
  simp only [M36, isNum, foldV, mnV, mxV, evP, hm, ev1_build, ev1_box, evW, cells_agg, env0, List.length_cons, List.length_nil, Nat.reduceAdd, Nat.reduceSub, List.replicate, List.cons_append, List.nil_append, evC_seq, evC_reg, evC_skip, evC_exit, evC_ret, evC_block, evC_condX, condX_true, condX_false, evOps_nil, evOps_one, contR_some, evOps_gd, gdR_tt, gdR_ft, gdR_tf, gdR_ff, gdR_un, bq_true, bq_false, ev1_mv, ev1_pick, ev1_bin, ev1_eqv, ev1_un, un_not, ev1_mki, ev1_slc, ev1_lenV, ev1_ixaV, ev1_appV, ev1_load, ev1_call, ev1_mn, ev1_mx, ev1_conv, ev1_alloc, ev1_storeV, ev1_bslR, bslR_sl, bslR_hs, fill_nil, fill_cons, fill1_u8a, fill1_u8b, fill1_ca, fill1_cb, thenO_some, loadR_rp, opd, Env.put, Env.at, seqR_nrm, seqR_exit, seqR_ret, regR_some, List.set_cons_zero, List.set_cons_succ, List.getD_cons_zero, List.getD_cons_succ, pR_some, wR_some, callR_some, freezeL, freeze_int, freeze_bool, freeze_str, freeze_u16, freeze_u8, freeze_ptr, freeze_nils, boolR_true, boolR_false, blockR_nrm, blockR_exit, blockR_ret, outR_ret, outR_nrm, resVs, resV_tmp, oneOr, Option.map_some, Option.map_none, List.map_cons, List.map_nil, if_true, if_false, Bool.not_true, Bool.not_false, Bool.false_eq_true, reduceIte, decide_true, decide_false, i64_lss, i64_leq, i64_gtr, i64_geq, i64_eql, i64_neq, i64_add, i64_sub]
theorem round35 {s0 s : St} {x o : AV} {xs : List UInt8} {ys : List AV} {fs : List (List UInt8)} {p t : Nat} {r : RxS} (hx : Bys x xs) (h : RxAt s p r t) (ho : OwnL s0.next s o ys p t) (ha : AllBys ys fs) (he : Ext s0 s) (hp : s0.next ≤ p) (ht : s0.next ≤ t)
    (hr : r.b.length ≤ r.most + 2) (hm : r.most ≤ 200) (i : Nat) (hi : i < xs.length) (hl : xs.length ≤ 100000) (hy : ys.length ≤ i) (k : Nat) (hk : 202 < k) :
    ∃ e' s' o' ys' t', evC noGl (ev (k + 34)) (k + 34) M35b0 ([.undef, .undef, .undef, .undef, .undef, .ptr p 0, o, .undef, .undef, .undef, .undef, .undef, .undef, .undef, x, .int .i64 xs.length, .int .i64 i] ++ List.replicate 21 .undef) s = some (.nrm, e', s') ∧
      maskE M35b0l e' = [.undef, .undef, .undef, .undef, .undef, .ptr p 0, o', .undef, .undef, .undef, .undef, .undef, .undef, .undef, x, .int .i64 xs.length, .int .i64 (i + 1 : Nat)] ++ List.replicate 21 .undef ∧
      RxAt s' p (rxStep (r, fs) xs[i]).1 t' ∧ OwnL s0.next s' o' ys' p t' ∧ AllBys ys' (rxStep (r, fs) xs[i]).2 ∧ Ext s0 s' ∧ s0.next ≤ t' ∧ ys'.length ≤ i + 1 := by
  have h1 : ((i : Int) < (xs.length : Int)) = True := eq_true (by omega)
  have h2 : IntKind.i64.wrap ((i : Int) + 1) = ((i + 1 : Nat) : Int) := by rw [wrapI _ (by omega) (by omega)]; omega
  obtain ⟨y, s1, t', g1, g2, g3, g4, g5⟩ := rxPut_ev h xs[i] k (by omega) (by omega) hm
  have ht' : s0.next ≤ t' := by
    rcases g4 with rfl | g4
    · exact ht
    · exact Nat.le_trans he.le g4
  have he1 := Still.ext he g5 hp ht
  have ho1 := ho.still g5 g4
  have hq : ((((rxPut r xs[i]).2.2.1 : Nat) : Int) == 0) = ((rxPut r xs[i]).2.2.1 == 0) := by rw [Bool.eq_iff_iff, beq_iff_eq, beq_iff_eq]; omega
  have idle : ((rxPut r xs[i]).2.2.2 && (rxPut r xs[i]).2.2.1 == 0) = false → (rxStep (r, fs) xs[i]) = ((rxPut r xs[i]).1, fs) := by
    intro hc; unfold rxStep; rw [hc]; rfl
  cases c1 : (rxPut r xs[i]).2.2.2 with
  | false =>
    rw [idle (by rw [c1]; rfl)]
    rw [c1] at g1
    refine ⟨_, s1, o, ys, t', Eq.trans (b := some (Ex.nrm, ?_, s1)) ?_ rfl, ?_, g3, ho1, ha, he1, ht', by omega⟩
    case refine_2 =>
      simp only [M35b0, h1, h2, hx.ixa i hi, cut_bytes xs i hi, g1, env0, List.length_cons, List.length_nil, Nat.reduceAdd, Nat.reduceSub, List.replicate, List.cons_append, List.nil_append, evC_seq, evC_reg, evC_skip, evC_exit, evC_ret, evC_block, evC_condX, condX_true, condX_false, evOps_nil, evOps_one, contR_some, evOps_gd, gdR_tt, gdR_ft, gdR_tf, gdR_ff, gdR_un, bq_true, bq_false, ev1_mv, ev1_pick, ev1_bin, ev1_eqv, ev1_un, un_not, ev1_mki, ev1_slc, ev1_lenV, ev1_ixaV, ev1_appV, ev1_load, ev1_call, ev1_mn, ev1_mx, ev1_conv, ev1_alloc, ev1_storeV, ev1_bslR, bslR_sl, bslR_hs, fill_nil, fill_cons, fill1_u8a, fill1_u8b, fill1_ca, fill1_cb, thenO_some, loadR_rp, opd, Env.put, Env.at, seqR_nrm, seqR_exit, seqR_ret, regR_some, List.set_cons_zero, List.set_cons_succ, List.getD_cons_zero, List.getD_cons_succ, pR_some, wR_some, callR_some, freezeL, freeze_int, freeze_bool, freeze_str, freeze_u16, freeze_u8, freeze_ptr, freeze_nils, boolR_true, boolR_false, blockR_nrm, blockR_exit, blockR_ret, outR_ret, outR_nrm, resVs, resV_tmp, oneOr, Option.map_some, Option.map_none, List.map_cons, List.map_nil, if_true, if_false, Bool.not_true, Bool.not_false, Bool.false_eq_true, reduceIte, decide_true, decide_false, i64_lss, i64_leq, i64_gtr, i64_geq, i64_eql, i64_neq, i64_add, i64_sub, load_ptr, ldV_some, cellAt_cells, List.getElem?_cons_zero, List.getElem?_cons_succ, store_ptr, stO_some, setAt_0, setAt_1, setAt_2, setAt_3, setAt_4, setAt_5, setAt_6, setAt_7, setAt_8, setAt_9, setAt_10, setAt_11, setAt_12, cells_int, cells_bool, cells_str, cells_nils, cells_nilp, cells_ptr, cells_sl, cells_u8, cells_u16, cells_agg, get_upd_is, Option.isSome_some, upd_upd, ev1_nchkV, ev1_faV, nchkV_ptr, faV_ptr, ev1_extV, extV_tup, eqptr_nil, eqptr_ptr, Nat.zero_add, Nat.add_zero]
      rfl
    case refine_3 => rfl
  | true =>
  cases c2 : ((rxPut r xs[i]).2.2.1 == 0) with
  | false =>
    rw [idle (by rw [c1, c2]; rfl)]
    rw [c1] at g1
    rw [c2] at hq
    refine ⟨_, s1, o, ys, t', Eq.trans (b := some (Ex.nrm, ?_, s1)) ?_ rfl, ?_, g3, ho1, ha, he1, ht', by omega⟩
    case refine_2 =>
      simp only [M35b0, h1, h2, hx.ixa i hi, cut_bytes xs i hi, g1, hq, env0, List.length_cons, List.length_nil, Nat.reduceAdd, Nat.reduceSub, List.replicate, List.cons_append, List.nil_append, evC_seq, evC_reg, evC_skip, evC_exit, evC_ret, evC_block, evC_condX, condX_true, condX_false, evOps_nil, evOps_one, contR_some, evOps_gd, gdR_tt, gdR_ft, gdR_tf, gdR_ff, gdR_un, bq_true, bq_false, ev1_mv, ev1_pick, ev1_bin, ev1_eqv, ev1_un, un_not, ev1_mki, ev1_slc, ev1_lenV, ev1_ixaV, ev1_appV, ev1_load, ev1_call, ev1_mn, ev1_mx, ev1_conv, ev1_alloc, ev1_storeV, ev1_bslR, bslR_sl, bslR_hs, fill_nil, fill_cons, fill1_u8a, fill1_u8b, fill1_ca, fill1_cb, thenO_some, loadR_rp, opd, Env.put, Env.at, seqR_nrm, seqR_exit, seqR_ret, regR_some, List.set_cons_zero, List.set_cons_succ, List.getD_cons_zero, List.getD_cons_succ, pR_some, wR_some, callR_some, freezeL, freeze_int, freeze_bool, freeze_str, freeze_u16, freeze_u8, freeze_ptr, freeze_nils, boolR_true, boolR_false, blockR_nrm, blockR_exit, blockR_ret, outR_ret, outR_nrm, resVs, resV_tmp, oneOr, Option.map_some, Option.map_none, List.map_cons, List.map_nil, if_true, if_false, Bool.not_true, Bool.not_false, Bool.false_eq_true, reduceIte, decide_true, decide_false, i64_lss, i64_leq, i64_gtr, i64_geq, i64_eql, i64_neq, i64_add, i64_sub, load_ptr, ldV_some, cellAt_cells, List.getElem?_cons_zero, List.getElem?_cons_succ, store_ptr, stO_some, setAt_0, setAt_1, setAt_2, setAt_3, setAt_4, setAt_5, setAt_6, setAt_7, setAt_8, setAt_9, setAt_10, setAt_11, setAt_12, cells_int, cells_bool, cells_str, cells_nils, cells_nilp, cells_ptr, cells_sl, cells_u8, cells_u16, cells_agg, get_upd_is, Option.isSome_some, upd_upd, ev1_nchkV, ev1_faV, nchkV_ptr, faV_ptr, ev1_extV, extV_tup, eqptr_nil, eqptr_ptr, Nat.zero_add, Nat.add_zero]
      rfl
    case refine_3 => rfl
  | true =>
    have hst : rxStep (r, fs) xs[i] = ((rxPut r xs[i]).1, fs ++ [(rxPut r xs[i]).2.1]) := by unfold rxStep; rw [c1, c2]; rfl
    rw [hst]
    rw [c1] at g1
    rw [c2] at hq
    obtain ⟨ob, a1, a2, a3, a4⟩ := g3
    have en := (Ext.refl s1).new (.tick 1 0)
    have ho2 : OwnL s0.next (s1.new (.tick 1 0)) o ys p t' := ho1.still (en.frame p t') (.inl rfl)
    obtain ⟨o', s2, b1, b2, b3, b4⟩ := ho2.app (Nat.lt_succ_of_lt a3) (Nat.lt_succ_of_lt a4) (Nat.le_succ_of_le he1.le) y (some (s1.next, 0, 1)) (by omega)
    have f1 : Ab.fill1 [AV.nils] 0 1 y = some [y] := g2.fill1 [.nils] 0 (by simp)
    refine ⟨_, s2, o', ys ++ [y], t', Eq.trans (b := some (Ex.nrm, ?_, s2)) ?_ rfl, ?_, ⟨ob, ?_, ?_, ?_, ?_⟩, b2, ha.snoc g2, ⟨Nat.le_trans (Nat.le_succ_of_le he1.le) b3, fun q hq' => ?_⟩, ht', by simp; omega⟩
    case refine_2 =>
      simp only [M35b0, h1, h2, hx.ixa i hi, cut_bytes xs i hi, g1, hq, f1, b1, env0, List.length_cons, List.length_nil, Nat.reduceAdd, Nat.reduceSub, List.replicate, List.cons_append, List.nil_append, evC_seq, evC_reg, evC_skip, evC_exit, evC_ret, evC_block, evC_condX, condX_true, condX_false, evOps_nil, evOps_one, contR_some, evOps_gd, gdR_tt, gdR_ft, gdR_tf, gdR_ff, gdR_un, bq_true, bq_false, ev1_mv, ev1_pick, ev1_bin, ev1_eqv, ev1_un, un_not, ev1_mki, ev1_slc, ev1_lenV, ev1_ixaV, ev1_appV, ev1_load, ev1_call, ev1_mn, ev1_mx, ev1_conv, ev1_alloc, ev1_storeV, ev1_bslR, bslR_sl, bslR_hs, fill_nil, fill_cons, fill1_u8a, fill1_u8b, fill1_ca, fill1_cb, thenO_some, loadR_rp, opd, Env.put, Env.at, seqR_nrm, seqR_exit, seqR_ret, regR_some, List.set_cons_zero, List.set_cons_succ, List.getD_cons_zero, List.getD_cons_succ, pR_some, wR_some, callR_some, freezeL, freeze_int, freeze_bool, freeze_str, freeze_u16, freeze_u8, freeze_ptr, freeze_nils, boolR_true, boolR_false, blockR_nrm, blockR_exit, blockR_ret, outR_ret, outR_nrm, resVs, resV_tmp, oneOr, Option.map_some, Option.map_none, List.map_cons, List.map_nil, if_true, if_false, Bool.not_true, Bool.not_false, Bool.false_eq_true, reduceIte, decide_true, decide_false, i64_lss, i64_leq, i64_gtr, i64_geq, i64_eql, i64_neq, i64_add, i64_sub, load_ptr, ldV_some, cellAt_cells, List.getElem?_cons_zero, List.getElem?_cons_succ, store_ptr, stO_some, setAt_0, setAt_1, setAt_2, setAt_3, setAt_4, setAt_5, setAt_6, setAt_7, setAt_8, setAt_9, setAt_10, setAt_11, setAt_12, cells_int, cells_bool, cells_str, cells_nils, cells_nilp, cells_ptr, cells_sl, cells_u8, cells_u16, cells_agg, get_upd_is, Option.isSome_some, upd_upd, ev1_nchkV, ev1_faV, nchkV_ptr, faV_ptr, ev1_extV, extV_tup, eqptr_nil, eqptr_ptr, Nat.zero_add, Nat.add_zero]
      rfl
    case refine_3 => rfl
    case refine_4 => rw [b4 p (Nat.lt_succ_of_lt a3) (.inl rfl), en.get p a3]; exact a1
    case refine_5 => exact a2.keep (Nat.le_trans (Nat.le_succ _) b3) (fun v hv => by rw [b4 t' (Nat.lt_succ_of_lt a4) (.inr (.inl rfl)), en.get t' a4]; exact hv)
    case refine_6 => exact Nat.lt_of_lt_of_le (Nat.lt_succ_of_lt a3) b3
    case refine_7 => exact Nat.lt_of_lt_of_le (Nat.lt_succ_of_lt a4) b3
    case refine_8 =>
      have hlt : q < s1.next := Nat.lt_of_lt_of_le hq' he1.le
      rw [b4 q (Nat.lt_succ_of_lt hlt) (.inr (.inr hq')), en.get q hlt]
      exact he1.get q hq'
theorem rxRun_succ (r : RxS) (xs : List UInt8) (i : Nat) (hi : i < xs.length) : rxRun r (xs.take (i + 1)) = rxStep (rxRun r (xs.take i)) xs[i] := by
  rw [List.take_succ_eq_append_getElem hi, rxRun, List.foldl_append]; rfl
theorem rxRun_inv (r : RxS) (xs : List UInt8) (h : r.b.length ≤ r.most + 2) : (rxRun r xs).1.b.length ≤ (rxRun r xs).1.most + 2 ∧ (rxRun r xs).1.most = r.most := by
  suffices ∀ st : RxS × List (List UInt8), st.1.b.length ≤ st.1.most + 2 → (xs.foldl rxStep st).1.b.length ≤ (xs.foldl rxStep st).1.most + 2 ∧ (xs.foldl rxStep st).1.most = st.1.most from this (r, []) h
  induction xs with
  | nil => intro st h; exact ⟨h, rfl⟩
  | cons x xs ih =>
    intro st h
    obtain ⟨q1, q2⟩ := rxPut_inv st.1 x h
    obtain ⟨w1, w2⟩ := ih (rxStep st x) q1
    exact ⟨w1, w2.trans q2⟩
/-- rx.All, of any bytes. -/
theorem rxAll_ev {x : AV} {xs : List UInt8} (hx : Bys x xs) (m : Int) (k : Nat) (hk : xs.length + 202 < k) (hl : xs.length ≤ 100000) (s : St) :
    ∃ o s' ys, ev (k + 35) 35 [.int .i64 m, x] s = some (o, s') ∧ IsL o ys ∧ AllBys ys (rxAll m xs) ∧ Ext s s' := by
  obtain ⟨s1, n1, n2, n3⟩ := rxNew_ev m (k + 33) s
  let E (o : AV) (i : Int) : Env := [.undef, .undef, .undef, .undef, .undef, .ptr s.next 0, o, .undef, .undef, .undef, .undef, .undef, .undef, .undef, x, .int .i64 xs.length, .int .i64 i] ++ List.replicate 21 .undef
  have off : ∀ o s', evC noGl (ev (k + 34)) (k + 34) M35b0 (E o xs.length) s' = some (.exit 0, (E o xs.length).set 17 (.bool false), s') := by
    intro o s'
    simp only [M35b0, E, Int.lt_irrefl, env0, List.length_cons, List.length_nil, Nat.reduceAdd, Nat.reduceSub, List.replicate, List.cons_append, List.nil_append, evC_seq, evC_reg, evC_skip, evC_exit, evC_ret, evC_block, evC_condX, condX_true, condX_false, evOps_nil, evOps_one, contR_some, evOps_gd, gdR_tt, gdR_ft, gdR_tf, gdR_ff, gdR_un, bq_true, bq_false, ev1_mv, ev1_pick, ev1_bin, ev1_eqv, ev1_un, un_not, ev1_mki, ev1_slc, ev1_lenV, ev1_ixaV, ev1_appV, ev1_load, ev1_call, ev1_mn, ev1_mx, ev1_conv, ev1_alloc, ev1_storeV, ev1_bslR, bslR_sl, bslR_hs, fill_nil, fill_cons, fill1_u8a, fill1_u8b, fill1_ca, fill1_cb, thenO_some, loadR_rp, opd, Env.put, Env.at, seqR_nrm, seqR_exit, seqR_ret, regR_some, List.set_cons_zero, List.set_cons_succ, List.getD_cons_zero, List.getD_cons_succ, pR_some, wR_some, callR_some, freezeL, freeze_int, freeze_bool, freeze_str, freeze_u16, freeze_u8, freeze_ptr, freeze_nils, boolR_true, boolR_false, blockR_nrm, blockR_exit, blockR_ret, outR_ret, outR_nrm, resVs, resV_tmp, oneOr, Option.map_some, Option.map_none, List.map_cons, List.map_nil, if_true, if_false, Bool.not_true, Bool.not_false, Bool.false_eq_true, reduceIte, decide_true, decide_false, i64_lss, i64_leq, i64_gtr, i64_geq, i64_eql, i64_neq, i64_add, i64_sub]
  have key := iter_leave (evC noGl (ev (k + 34)) (k + 34) M35b0) M35b0l
    (fun i e' s' => ∃ o ys t, maskE M35b0l e' = E o (i : Nat) ∧ RxAt s' s.next (rxRun (rxNew m) (xs.take i)).1 t ∧ OwnL s.next s' o ys s.next t ∧ AllBys ys (rxRun (rxNew m) (xs.take i)).2 ∧ Ext s s' ∧ s.next ≤ t ∧ ys.length ≤ i)
    (fun r => ∃ o ys s', r = some (.exit 0, (E o xs.length).set 17 (.bool false), s') ∧ IsL o ys ∧ AllBys ys (rxAll m xs) ∧ Ext s s') xs.length ?_ ?_ xs.length 0 (E .nils 0) s1 (k + 34) (by omega)
    ⟨.nils, [], s.next, rfl, n2, .inl ⟨rfl, rfl⟩, trivial, n3, Nat.le_refl _, Nat.le_refl _⟩ (by omega)
  · obtain ⟨o, ys, s', k1, k2, k3, k4⟩ := key
    have key' : ∀ e, maskE M35b0l e = E .nils 0 → iter (evC noGl (ev (k + 34)) (k + 34) M35b0) M35b0l (k + 34) e s1 = some (.exit 0, (E o xs.length).set 17 (.bool false), s') :=
      fun e he => by rw [iter_mask _ _ _ e (E .nils 0) _ (he.trans rfl), k1]
    refine ⟨o, s', ys, ?_, k2, k3, k4⟩
    rw [show k + 35 = (k + 34) + 1 from rfl, ev_in rfl tab35]
    simp only [M35, hx.len, n1, evC_loop, env0, List.length_cons, List.length_nil, Nat.reduceAdd, Nat.reduceSub, List.replicate, List.cons_append, List.nil_append, evC_seq, evC_reg, evC_skip, evC_exit, evC_ret, evC_block, evC_condX, condX_true, condX_false, evOps_nil, evOps_one, contR_some, evOps_gd, gdR_tt, gdR_ft, gdR_tf, gdR_ff, gdR_un, bq_true, bq_false, ev1_mv, ev1_pick, ev1_bin, ev1_eqv, ev1_un, un_not, ev1_mki, ev1_slc, ev1_lenV, ev1_ixaV, ev1_appV, ev1_load, ev1_call, ev1_mn, ev1_mx, ev1_conv, ev1_alloc, ev1_storeV, ev1_bslR, bslR_sl, bslR_hs, fill_nil, fill_cons, fill1_u8a, fill1_u8b, fill1_ca, fill1_cb, thenO_some, loadR_rp, opd, Env.put, Env.at, seqR_nrm, seqR_exit, seqR_ret, regR_some, List.set_cons_zero, List.set_cons_succ, List.getD_cons_zero, List.getD_cons_succ, pR_some, wR_some, callR_some, freezeL, freeze_int, freeze_bool, freeze_str, freeze_u16, freeze_u8, freeze_ptr, freeze_nils, boolR_true, boolR_false, blockR_nrm, blockR_exit, blockR_ret, outR_ret, outR_nrm, resVs, resV_tmp, oneOr, Option.map_some, Option.map_none, List.map_cons, List.map_nil, if_true, if_false, Bool.not_true, Bool.not_false, Bool.false_eq_true, reduceIte, decide_true, decide_false, i64_lss, i64_leq, i64_gtr, i64_geq, i64_eql, i64_neq, i64_add, i64_sub]
    rw [key' _ rfl]
    simp only [E, List.replicate, List.cons_append, List.nil_append, k2.freeze, env0, List.length_cons, List.length_nil, Nat.reduceAdd, Nat.reduceSub, List.replicate, List.cons_append, List.nil_append, evC_seq, evC_reg, evC_skip, evC_exit, evC_ret, evC_block, evC_condX, condX_true, condX_false, evOps_nil, evOps_one, contR_some, evOps_gd, gdR_tt, gdR_ft, gdR_tf, gdR_ff, gdR_un, bq_true, bq_false, ev1_mv, ev1_pick, ev1_bin, ev1_eqv, ev1_un, un_not, ev1_mki, ev1_slc, ev1_lenV, ev1_ixaV, ev1_appV, ev1_load, ev1_call, ev1_mn, ev1_mx, ev1_conv, ev1_alloc, ev1_storeV, ev1_bslR, bslR_sl, bslR_hs, fill_nil, fill_cons, fill1_u8a, fill1_u8b, fill1_ca, fill1_cb, thenO_some, loadR_rp, opd, Env.put, Env.at, seqR_nrm, seqR_exit, seqR_ret, regR_some, List.set_cons_zero, List.set_cons_succ, List.getD_cons_zero, List.getD_cons_succ, pR_some, wR_some, callR_some, freezeL, freeze_int, freeze_bool, freeze_str, freeze_u16, freeze_u8, freeze_ptr, freeze_nils, boolR_true, boolR_false, blockR_nrm, blockR_exit, blockR_ret, outR_ret, outR_nrm, resVs, resV_tmp, oneOr, Option.map_some, Option.map_none, List.map_cons, List.map_nil, if_true, if_false, Bool.not_true, Bool.not_false, Bool.false_eq_true, reduceIte, decide_true, decide_false, i64_lss, i64_leq, i64_gtr, i64_geq, i64_eql, i64_neq, i64_add, i64_sub]
  · rintro i e' s' hi ⟨o, ys, t, h, hr, ho, ha, he, ht, hy⟩
    left
    obtain ⟨w1, w2⟩ := rxRun_inv (rxNew m) (xs.take i) (by simp [rxNew])
    have w3 : (rxNew m).most ≤ 200 := rxMost_le m
    obtain ⟨e2, s2, o2, ys2, t2, g1, g2, g3, g4, g5, g6, g7, g8⟩ := round35 hx hr ho ha he (Nat.le_refl _) ht w1 (by omega) i hi hl hy k (by omega)
    refine ⟨e2, s2, by rw [h]; exact g1, o2, ys2, t2, g2, ?_, g4, ?_, g6, g7, g8⟩
    · rw [rxRun_succ _ _ _ hi]; exact g3
    · rw [rxRun_succ _ _ _ hi]; exact g5
  · rintro e' s' ⟨o, ys, t, h, hr, ho, ha, he, ht, hy⟩
    rw [h, off]
    rw [List.take_length] at ha
    exact ⟨⟨o, ys, s', rfl, ho.isL, ha, he⟩, fun _ _ => by simp⟩
end Go.Proofs.Ytghfinbdgnggjaa
