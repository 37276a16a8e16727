/- The loop of RxTurn. No conditions. -/
import Derived.Test.YtghfinbdgnggjaaPTurn
import Derived.Test.YtghfinbdgnggjaaRfAll
import Derived.Test.YtghfinbdgnggjaaEqAll
import Derived.Test.YtghfinbdgnggjaaWrap
set_option linter.unusedSimpArgs false
namespace Go.Proofs.Ytghfinbdgnggjaa
open Go Go.Ab
def E16 (q l : AV) (i : Int) : Env := List.replicate 10 .undef ++ [q] ++ List.replicate 49 .undef ++ [l, .int .i64 2, .int .i64 i] ++ List.replicate 23 .undef
def special (v : UInt8) : Bool := v == 192 || v == 193 || v == 125
/-- A byte that means nothing: on. -/
theorem round16n (q : AV) (nb : Nat) (vs : List UInt8) (hl : vs.length = 2) (i : Nat) (hi : i < 2) (s : St) (hs : Has s nb vs) (hv : special vs[i] = false) :
    ∃ e', evC noGl (ev 999) 999 M16b0 (E16 q (.hs 1 nb 0 2) i) s = some (.nrm, e', s) ∧ maskE M16b0l e' = E16 q (.hs 1 nb 0 2) (i + 1 : Nat) := by
  have h1 : ((i : Int) < 2) = True := eq_true (by omega)
  have h2 : IntKind.i64.wrap ((i : Int) + 1) = ((i + 1 : Nat) : Int) := by rw [wrapI _ (by omega) (by omega)]; omega
  have h3 := hs_ixa nb 2 i hi
  have h4 := hs.load i (by omega)
  simp only [special, Bool.or_eq_false_iff] at hv
  obtain ⟨⟨c1, c2⟩, c3⟩ := hv
  refine ⟨_, Eq.trans (b := some (Ex.nrm, ?_, s)) ?_ rfl, ?_⟩
  case refine_2 =>
    simp only [M16b0, E16, List.replicate, List.cons_append, List.nil_append, h1, h2, h3, h4, eql192, eql193, eql125, c1, c2, c3, env0, List.length_cons, List.length_nil, Nat.reduceAdd, Nat.reduceSub, List.replicate, List.cons_append, List.nil_append, evC_seq, evC_reg, evC_skip, evC_exit, evC_ret, evC_block, evC_condX, condX_true, condX_false, evOps_nil, evOps_one, contR_some, evOps_gd, gdR_tt, gdR_ft, gdR_tf, gdR_ff, gdR_un, bq_true, bq_false, ev1_mv, ev1_pick, ev1_bin, ev1_eqv, ev1_un, un_not, ev1_mki, ev1_slc, ev1_lenV, ev1_ixaV, ev1_appV, ev1_load, ev1_call, ev1_mn, ev1_mx, ev1_conv, ev1_alloc, ev1_storeV, ev1_bslR, bslR_sl, bslR_hs, fill_nil, fill_cons, fill1_u8a, fill1_u8b, fill1_ca, fill1_cb, thenO_some, loadR_rp, opd, Env.put, Env.at, seqR_nrm, seqR_exit, seqR_ret, regR_some, List.set_cons_zero, List.set_cons_succ, List.getD_cons_zero, List.getD_cons_succ, pR_some, wR_some, callR_some, freezeL, freeze_int, freeze_bool, freeze_str, freeze_u16, freeze_u8, freeze_ptr, freeze_nils, boolR_true, boolR_false, blockR_nrm, blockR_exit, blockR_ret, outR_ret, outR_nrm, resVs, resV_tmp, oneOr, Option.map_some, Option.map_none, List.map_cons, List.map_nil, if_true, if_false, Bool.not_true, Bool.not_false, Bool.false_eq_true, reduceIte, decide_true, decide_false, i64_lss, i64_leq, i64_gtr, i64_geq, i64_eql, i64_neq, i64_add, i64_sub]
    rfl
  case refine_3 => rfl
/-- A byte that means something: all is as the reference says. -/
theorem round16s (bq : Nat) (qs : List UInt8) (hq : qs.length ≤ 400) (nb : Nat) (hne : bq ≠ nb) (vs : List UInt8) (hl : vs.length = 2) (i : Nat) (hi : i < 2) (s : St) (hs : Has s nb vs) (hQ : Has s bq qs) (hlt : bq < s.next) (hv : special vs[i] = true) :
    ∃ e' s', evC noGl (ev 999) 999 M16b0 (E16 (.hs 1 bq 0 qs.length) (.hs 1 nb 0 2) i) s = some (.ret, e', s') ∧ e'.at 6 = .bool true := by
  have h1 : ((i : Int) < 2) = True := eq_true (by omega)
  have h3 := hs_ixa nb 2 i hi
  have h4 := hs.load i (by omega)
  have f1 := hQ.freeze
  have g1 := hQ.froz
  have hnx : (s.upd bq (.froz 1 (bytesAV qs))).next = s.next := rfl
  generalize s.upd bq (.froz 1 (bytesAV qs)) = s1 at f1 g1 hnx
  obtain ⟨o1, s2, ys1, t1, t2, t3, t4⟩ : ∃ o s' ys, ev 999 35 [.int .i64 100, .sl (bytesAV qs) qs.length none] s1 = some (o, s') ∧ IsL o ys ∧ AllBys ys (rxAll 100 qs) ∧ Ext s1 s' := rxAll_ev (Bys.mk qs none) 100 964 (by omega) (by omega) s1
  have f2 := (g1.ext t4 (by omega)).freeze
  obtain ⟨o2, s3, ys2, u1, u2, u3, u4⟩ : ∃ o s' ys, ev 999 41 [.int .i64 100, .sl (bytesAV qs) qs.length none] s2 = some (o, s') ∧ IsL o ys ∧ AllBys ys (rxAll 100 qs) ∧ Ext s2 s' := rfAll_ev (Bys.mk qs none) 100 964 (by omega) (by omega) s2
  have hle := rxAll_le 100 qs
  have w : ∀ s, ev 999 40 [o1, o2] s = some (.bool true, s) := fun s => eqAll_ev t2 u2 t3 u3 998 (by rw [t3.length]; omega) (by rw [t3.length]; omega) s
  simp only [special] at hv
  cases c1 : (vs[i] == 192) <;> cases c2 : (vs[i] == 193) <;> cases c3 : (vs[i] == 125) <;> simp [c1, c2, c3] at hv
  all_goals
    refine ⟨_, s3, Eq.trans (b := some (Ex.ret, ?_, s3)) ?_ rfl, ?_⟩
    case refine_2 =>
      simp only [M16b0, E16, List.replicate, List.cons_append, List.nil_append, h1, h3, h4, eql192, eql193, eql125, c1, c2, c3, f1, t1, f2, u1, t2.freeze, u2.freeze, w, env0, List.length_cons, List.length_nil, Nat.reduceAdd, Nat.reduceSub, List.replicate, List.cons_append, List.nil_append, evC_seq, evC_reg, evC_skip, evC_exit, evC_ret, evC_block, evC_condX, condX_true, condX_false, evOps_nil, evOps_one, contR_some, evOps_gd, gdR_tt, gdR_ft, gdR_tf, gdR_ff, gdR_un, bq_true, bq_false, ev1_mv, ev1_pick, ev1_bin, ev1_eqv, ev1_un, un_not, ev1_mki, ev1_slc, ev1_lenV, ev1_ixaV, ev1_appV, ev1_load, ev1_call, ev1_mn, ev1_mx, ev1_conv, ev1_alloc, ev1_storeV, ev1_bslR, bslR_sl, bslR_hs, fill_nil, fill_cons, fill1_u8a, fill1_u8b, fill1_ca, fill1_cb, thenO_some, loadR_rp, opd, Env.put, Env.at, seqR_nrm, seqR_exit, seqR_ret, regR_some, List.set_cons_zero, List.set_cons_succ, List.getD_cons_zero, List.getD_cons_succ, pR_some, wR_some, callR_some, freezeL, freeze_int, freeze_bool, freeze_str, freeze_u16, freeze_u8, freeze_ptr, freeze_nils, boolR_true, boolR_false, blockR_nrm, blockR_exit, blockR_ret, outR_ret, outR_nrm, resVs, resV_tmp, oneOr, Option.map_some, Option.map_none, List.map_cons, List.map_nil, if_true, if_false, Bool.not_true, Bool.not_false, Bool.false_eq_true, reduceIte, decide_true, decide_false, i64_lss, i64_leq, i64_gtr, i64_geq, i64_eql, i64_neq, i64_add, i64_sub]
      rfl
    case refine_3 => rfl
theorem off16 (q l : AV) (s : St) : evC noGl (ev 999) 999 M16b0 (E16 q l 2) s = some (.exit 0, (E16 q l 2).set 63 (.bool false), s) := by
  simp only [M16b0, E16, List.replicate, List.cons_append, List.nil_append, Int.lt_irrefl, env0, List.length_cons, List.length_nil, Nat.reduceAdd, Nat.reduceSub, List.replicate, List.cons_append, List.nil_append, evC_seq, evC_reg, evC_skip, evC_exit, evC_ret, evC_block, evC_condX, condX_true, condX_false, evOps_nil, evOps_one, contR_some, evOps_gd, gdR_tt, gdR_ft, gdR_tf, gdR_ff, gdR_un, bq_true, bq_false, ev1_mv, ev1_pick, ev1_bin, ev1_eqv, ev1_un, un_not, ev1_mki, ev1_slc, ev1_lenV, ev1_ixaV, ev1_appV, ev1_load, ev1_call, ev1_mn, ev1_mx, ev1_conv, ev1_alloc, ev1_storeV, ev1_bslR, bslR_sl, bslR_hs, fill_nil, fill_cons, fill1_u8a, fill1_u8b, fill1_ca, fill1_cb, thenO_some, loadR_rp, opd, Env.put, Env.at, seqR_nrm, seqR_exit, seqR_ret, regR_some, List.set_cons_zero, List.set_cons_succ, List.getD_cons_zero, List.getD_cons_succ, pR_some, wR_some, callR_some, freezeL, freeze_int, freeze_bool, freeze_str, freeze_u16, freeze_u8, freeze_ptr, freeze_nils, boolR_true, boolR_false, blockR_nrm, blockR_exit, blockR_ret, outR_ret, outR_nrm, resVs, resV_tmp, oneOr, Option.map_some, Option.map_none, List.map_cons, List.map_nil, if_true, if_false, Bool.not_true, Bool.not_false, Bool.false_eq_true, reduceIte, decide_true, decide_false, i64_lss, i64_leq, i64_gtr, i64_geq, i64_eql, i64_neq, i64_add, i64_sub]
theorem loop16s (bq : Nat) (qs : List UInt8) (hq : qs.length ≤ 400) (nb : Nat) (hne : bq ≠ nb) (v y : UInt8) (s : St) (hs : Has s nb [v, y]) (hQ : Has s bq qs) (hlt : bq < s.next) (hv : special v = true ∨ special y = true) :
    ∃ e' s', (∀ e, maskE M16b0l e = E16 (.hs 1 bq 0 qs.length) (.hs 1 nb 0 2) 0 → iter (evC noGl (ev 999) 999 M16b0) M16b0l 999 e s = some (.ret, e', s')) ∧ e'.at 6 = .bool true := by
  cases c : special v with
  | true =>
    obtain ⟨e', s', h1, h2⟩ := round16s bq qs hq nb hne [v, y] rfl 0 (by omega) s hs hQ hlt c
    refine ⟨e', s', fun e he => ?_, h2⟩
    have k1 : evC noGl (ev 999) 999 M16b0 (maskE M16b0l e) s = some (.ret, e', s') := by rw [he]; exact h1
    show iter _ _ (998 + 1) e s = _
    rw [iter_succ, k1, seqR_ret]
  | false =>
    have hy : special y = true := by
      rcases hv with h | h
      · rw [c] at h; cases h
      · exact h
    obtain ⟨e1, g1, g2⟩ := round16n (.hs 1 bq 0 qs.length) nb [v, y] rfl 0 (by omega) s hs c
    obtain ⟨e', s', h1, h2⟩ := round16s bq qs hq nb hne [v, y] rfl 1 (by omega) s hs hQ hlt hy
    refine ⟨e', s', fun e he => ?_, h2⟩
    have k1 : evC noGl (ev 999) 999 M16b0 (maskE M16b0l e) s = some (.nrm, e1, s) := by rw [he]; exact g1
    have k2 : evC noGl (ev 999) 999 M16b0 (maskE M16b0l e1) s = some (.ret, e', s') := by rw [g2]; exact h1
    show iter _ _ (998 + 1) e s = _
    rw [iter_succ, k1, seqR_nrm]
    show iter _ _ (997 + 1) e1 s = _
    rw [iter_succ, k2, seqR_ret]
theorem loop16n (q : AV) (nb : Nat) (v y : UInt8) (s : St) (hs : Has s nb [v, y]) (hv : special v = false) (hy : special y = false) (e : Env) (he : maskE M16b0l e = E16 q (.hs 1 nb 0 2) 0) :
    iter (evC noGl (ev 999) 999 M16b0) M16b0l 999 e s = some (.exit 0, (E16 q (.hs 1 nb 0 2) 2).set 63 (.bool false), s) := by
  obtain ⟨e1, g1, g2⟩ := round16n q nb [v, y] rfl 0 (by omega) s hs hv
  obtain ⟨e2, g3, g4⟩ := round16n q nb [v, y] rfl 1 (by omega) s hs hy
  have k1 : evC noGl (ev 999) 999 M16b0 (maskE M16b0l e) s = some (.nrm, e1, s) := by rw [he]; exact g1
  have k2 : evC noGl (ev 999) 999 M16b0 (maskE M16b0l e1) s = some (.nrm, e2, s) := by rw [g2]; exact g3
  have k3 : evC noGl (ev 999) 999 M16b0 (maskE M16b0l e2) s = some (.exit 0, (E16 q (.hs 1 nb 0 2) 2).set 63 (.bool false), s) := by rw [g4]; exact off16 q _ s
  show iter _ _ (998 + 1) e s = _
  rw [iter_succ, k1, seqR_nrm]
  show iter _ _ (997 + 1) e1 s = _
  rw [iter_succ, k2, seqR_nrm]
  show iter _ _ (996 + 1) e2 s = _
  rw [iter_succ, k3, seqR_exit]
end Go.Proofs.Ytghfinbdgnggjaa
