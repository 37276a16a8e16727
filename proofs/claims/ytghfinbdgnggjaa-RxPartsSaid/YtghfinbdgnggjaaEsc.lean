/- sir.Escape and the reference's, as the evaluator answers them. No conditions. -/
import Derived.Test.YtghfinbdgnggjaaBegun
import Derived.Test.YtghfinbdgnggjaaMc
import Derived.Test.YtghfinbdgnggjaaHs
set_option linter.unusedSimpArgs false
namespace Go.Proofs.Ytghfinbdgnggjaa
open Go Go.Ab
def escB (x : UInt8) : List UInt8 := if (x == 192 || x == 193 || x == 125) = true then [125, x ^^^ 32] else [x]
def esc (xs : List UInt8) : List UInt8 := xs.flatMap escB
theorem esc_length (xs : List UInt8) : (esc xs).length ≤ 2 * xs.length := by
  induction xs with
  | nil => simp [esc]
  | cons x xs ih =>
    have : (escB x).length ≤ 2 := by unfold escB; split <;> simp
    simp only [esc, List.flatMap_cons, List.length_append, List.length_cons] at ih ⊢
    omega
theorem esc_succ (xs : List UInt8) (i : Nat) (hi : i < xs.length) : esc (xs.take (i + 1)) = esc (xs.take i) ++ escB xs[i] := by
  rw [List.take_succ_eq_append_getElem hi, esc, List.flatMap_append]; simp [esc]
theorem eql192 (x : UInt8) : binV .eql (u8v x) (.int .u8 192) = some (.bool (x == 192)) := u8_eql x 192
theorem eql193 (x : UInt8) : binV .eql (u8v x) (.int .u8 193) = some (.bool (x == 193)) := u8_eql x 193
theorem eql125 (x : UInt8) : binV .eql (u8v x) (.int .u8 125) = some (.bool (x == 125)) := u8_eql x 125
theorem xor32 (x : UInt8) : binV .xor (u8v x) (.int .u8 32) = some (u8v (x ^^^ 32)) := b8_xor x 32
/-- One byte more. -/
theorem esc_app {s0 s : St} {o : AV} {xs : List UInt8} (h : Own s0 s o xs) (e : Ext s0 s) (hl : xs.length ≤ 900000000) (x : UInt8) :
    (∃ z s', appV false 1 1 (s.new (.tick 1 0)) o (.sl [.int .u8 125, u8v (x ^^^ 32)] 2 (some (s.next, 0, 1))) = some (z, s') ∧ Own s0 s' z (xs ++ [125, x ^^^ 32]) ∧ Ext s0 s') ∧
    (∃ z s', appV false 1 1 (s.new (.tick 1 0)) o (.sl [u8v x] 1 (some (s.next, 0, 1))) = some (z, s') ∧ Own s0 s' z (xs ++ [x]) ∧ Ext s0 s') := by
  have h' := h.ext ((Ext.refl s).new (.tick 1 0))
  exact ⟨h'.app (Own.mk s0 s e [125, x ^^^ 32] [.int .u8 125, u8v (x ^^^ 32)] rfl 2 rfl).bys (e.new _) (by simp; omega),
    h'.app (Own.mk s0 s e [x] [u8v x] rfl 1 rfl).bys (e.new _) (by simp; omega)⟩
def E31 (o x : AV) (n i : Int) : Env := [.undef, .undef, .undef, o, .undef, .undef, x, .int .i64 n, .int .i64 i] ++ List.replicate 24 .undef
theorem round31 (call : Calls') (k : Nat) {x : AV} {xs : List UInt8} (hx : Bys x xs) (i : Nat) (hi : i < xs.length) (hl : xs.length ≤ 1000000) (s0 s : St) (o : AV) (ho : Own s0 s o (esc (xs.take i))) (he : Ext s0 s) :
    ∃ e' s' o', evC noGl call k M31b0 (E31 o x xs.length i) s = some (.nrm, e', s') ∧ maskE M31b0l e' = E31 o' x xs.length (i + 1 : Nat) ∧ Own s0 s' o' (esc (xs.take (i + 1))) ∧ Ext s0 s' := by
  have h1 : ((i : Int) < (xs.length : Int)) = True := eq_true (by omega)
  have h2 : IntKind.i64.wrap ((i : Int) + 1) = ((i + 1 : Nat) : Int) := by rw [IntKind.wrap_i64]; omega
  have hlen : (esc (xs.take i)).length ≤ 900000000 := by have := esc_length (xs.take i); simp at this; omega
  obtain ⟨⟨z1, s1, a1, a2, a3⟩, ⟨z2, s2, b1, b2, b3⟩⟩ := esc_app ho he hlen xs[i]
  rw [esc_succ xs i hi]
  cases hc : (xs[i] == 192 || xs[i] == 193 || xs[i] == 125) with
  | true =>
    have : escB xs[i] = [125, xs[i] ^^^ 32] := by unfold escB; rw [if_pos hc]
    rw [this]
    have key : ∃ e', evC noGl call k M31b0 (E31 o x xs.length i) s = some (.nrm, e', s1) ∧ maskE M31b0l e' = E31 z1 x xs.length (i + 1 : Nat) := by
      cases c1 : (xs[i] == 192) <;> cases c2 : (xs[i] == 193) <;> cases c3 : (xs[i] == 125) <;> simp [c1, c2, c3] at hc
      all_goals
        refine ⟨_, Eq.trans (b := some (Ex.nrm, ?_, s1)) ?_ rfl, ?_⟩
        case refine_2 =>
          simp only [M31b0, E31, h1, h2, hx.ixa i hi, cut_bytes xs i hi, eql192, eql193, eql125, xor32, c1, c2, c3, a1, env0, List.length_cons, List.length_nil, Nat.reduceAdd, Nat.reduceSub, List.replicate, List.cons_append, List.nil_append, evC_seq, evC_reg, evC_skip, evC_exit, evC_ret, evC_block, evC_condX, condX_true, condX_false, evOps_nil, evOps_one, contR_some, evOps_gd, gdR_tt, gdR_ft, gdR_tf, gdR_ff, gdR_un, bq_true, bq_false, ev1_mv, ev1_pick, ev1_bin, ev1_eqv, ev1_un, un_not, ev1_mki, ev1_slc, ev1_lenV, ev1_ixaV, ev1_appV, ev1_load, ev1_call, ev1_mn, ev1_mx, ev1_conv, ev1_alloc, ev1_storeV, ev1_bslR, bslR_sl, bslR_hs, fill_nil, fill_cons, fill1_u8a, fill1_u8b, fill1_ca, fill1_cb, thenO_some, loadR_rp, opd, Env.put, Env.at, seqR_nrm, seqR_exit, seqR_ret, regR_some, List.set_cons_zero, List.set_cons_succ, List.getD_cons_zero, List.getD_cons_succ, pR_some, wR_some, callR_some, freezeL, freeze_int, freeze_bool, freeze_str, freeze_u16, freeze_u8, freeze_ptr, freeze_nils, boolR_true, boolR_false, blockR_nrm, blockR_exit, blockR_ret, outR_ret, outR_nrm, resVs, resV_tmp, oneOr, Option.map_some, Option.map_none, List.map_cons, List.map_nil, if_true, if_false, Bool.not_true, Bool.not_false, Bool.false_eq_true, reduceIte, decide_true, decide_false, i64_lss, i64_leq, i64_gtr, i64_geq, i64_eql, i64_neq, i64_add, i64_sub]
          rfl
        case refine_3 => rfl
    obtain ⟨e', k1, k2⟩ := key
    exact ⟨e', s1, z1, k1, k2, a2, a3⟩
  | false =>
    have : escB xs[i] = [xs[i]] := by unfold escB; rw [if_neg (by rw [hc]; decide)]
    rw [this]
    have key : ∃ e', evC noGl call k M31b0 (E31 o x xs.length i) s = some (.nrm, e', s2) ∧ maskE M31b0l e' = E31 z2 x xs.length (i + 1 : Nat) := by
      cases c1 : (xs[i] == 192) <;> cases c2 : (xs[i] == 193) <;> cases c3 : (xs[i] == 125) <;> simp [c1, c2, c3] at hc
      all_goals
        refine ⟨_, Eq.trans (b := some (Ex.nrm, ?_, s2)) ?_ rfl, ?_⟩
        case refine_2 =>
          simp only [M31b0, E31, h1, h2, hx.ixa i hi, cut_bytes xs i hi, eql192, eql193, eql125, xor32, c1, c2, c3, b1, env0, List.length_cons, List.length_nil, Nat.reduceAdd, Nat.reduceSub, List.replicate, List.cons_append, List.nil_append, evC_seq, evC_reg, evC_skip, evC_exit, evC_ret, evC_block, evC_condX, condX_true, condX_false, evOps_nil, evOps_one, contR_some, evOps_gd, gdR_tt, gdR_ft, gdR_tf, gdR_ff, gdR_un, bq_true, bq_false, ev1_mv, ev1_pick, ev1_bin, ev1_eqv, ev1_un, un_not, ev1_mki, ev1_slc, ev1_lenV, ev1_ixaV, ev1_appV, ev1_load, ev1_call, ev1_mn, ev1_mx, ev1_conv, ev1_alloc, ev1_storeV, ev1_bslR, bslR_sl, bslR_hs, fill_nil, fill_cons, fill1_u8a, fill1_u8b, fill1_ca, fill1_cb, thenO_some, loadR_rp, opd, Env.put, Env.at, seqR_nrm, seqR_exit, seqR_ret, regR_some, List.set_cons_zero, List.set_cons_succ, List.getD_cons_zero, List.getD_cons_succ, pR_some, wR_some, callR_some, freezeL, freeze_int, freeze_bool, freeze_str, freeze_u16, freeze_u8, freeze_ptr, freeze_nils, boolR_true, boolR_false, blockR_nrm, blockR_exit, blockR_ret, outR_ret, outR_nrm, resVs, resV_tmp, oneOr, Option.map_some, Option.map_none, List.map_cons, List.map_nil, if_true, if_false, Bool.not_true, Bool.not_false, Bool.false_eq_true, reduceIte, decide_true, decide_false, i64_lss, i64_leq, i64_gtr, i64_geq, i64_eql, i64_neq, i64_add, i64_sub]
          rfl
        case refine_3 => rfl
    obtain ⟨e', k1, k2⟩ := key
    exact ⟨e', s2, z2, k1, k2, b2, b3⟩
theorem escape_ev {x : AV} {xs : List UInt8} (hx : Bys x xs) (k : Nat) (hk : xs.length < k) (hl : xs.length ≤ 1000000) (s : St) :
    ∃ y s', ev (k + 1) 31 [x] s = some (y, s') ∧ Own s s' y (esc xs) ∧ Ext s s' := by
  have off : ∀ o s', evC noGl (ev k) k M31b0 (E31 o x xs.length xs.length) s' = some (.exit 0, (E31 o x xs.length xs.length).set 9 (.bool false), s') := by
    intro o s'
    simp only [M31b0, E31, Int.lt_irrefl, env0, List.length_cons, List.length_nil, Nat.reduceAdd, Nat.reduceSub, List.replicate, List.cons_append, List.nil_append, evC_seq, evC_reg, evC_skip, evC_exit, evC_ret, evC_block, evC_condX, condX_true, condX_false, evOps_nil, evOps_one, contR_some, evOps_gd, gdR_tt, gdR_ft, gdR_tf, gdR_ff, gdR_un, bq_true, bq_false, ev1_mv, ev1_pick, ev1_bin, ev1_eqv, ev1_un, un_not, ev1_mki, ev1_slc, ev1_lenV, ev1_ixaV, ev1_appV, ev1_load, ev1_call, ev1_mn, ev1_mx, ev1_conv, ev1_alloc, ev1_storeV, ev1_bslR, bslR_sl, bslR_hs, fill_nil, fill_cons, fill1_u8a, fill1_u8b, fill1_ca, fill1_cb, thenO_some, loadR_rp, opd, Env.put, Env.at, seqR_nrm, seqR_exit, seqR_ret, regR_some, List.set_cons_zero, List.set_cons_succ, List.getD_cons_zero, List.getD_cons_succ, pR_some, wR_some, callR_some, freezeL, freeze_int, freeze_bool, freeze_str, freeze_u16, freeze_u8, freeze_ptr, freeze_nils, boolR_true, boolR_false, blockR_nrm, blockR_exit, blockR_ret, outR_ret, outR_nrm, resVs, resV_tmp, oneOr, Option.map_some, Option.map_none, List.map_cons, List.map_nil, if_true, if_false, Bool.not_true, Bool.not_false, Bool.false_eq_true, reduceIte, decide_true, decide_false, i64_lss, i64_leq, i64_gtr, i64_geq, i64_eql, i64_neq, i64_add, i64_sub]
  have key := iter_leave (evC noGl (ev k) k M31b0) M31b0l (fun i e' s' => ∃ o, maskE M31b0l e' = E31 o x xs.length (i : Nat) ∧ Own s s' o (esc (xs.take i)) ∧ Ext s s')
    (fun r => ∃ o s', r = some (.exit 0, (E31 o x xs.length xs.length).set 9 (.bool false), s') ∧ Own s s' o (esc xs) ∧ Ext s s') xs.length ?_ ?_ xs.length 0 (E31 .nils x xs.length 0) s k (by omega) ⟨.nils, rfl, Own.nil s s, Ext.refl s⟩ hk
  · obtain ⟨o, s', k1, k2, k3⟩ := key
    refine ⟨o, s', ?_, k2, k3⟩
    rw [ev_in rfl tab31]
    simp only [M31, hx.len, evC_loop, env0, List.length_cons, List.length_nil, Nat.reduceAdd, Nat.reduceSub, List.replicate, List.cons_append, List.nil_append, evC_seq, evC_reg, evC_skip, evC_exit, evC_ret, evC_block, evC_condX, condX_true, condX_false, evOps_nil, evOps_one, contR_some, evOps_gd, gdR_tt, gdR_ft, gdR_tf, gdR_ff, gdR_un, bq_true, bq_false, ev1_mv, ev1_pick, ev1_bin, ev1_eqv, ev1_un, un_not, ev1_mki, ev1_slc, ev1_lenV, ev1_ixaV, ev1_appV, ev1_load, ev1_call, ev1_mn, ev1_mx, ev1_conv, ev1_alloc, ev1_storeV, ev1_bslR, bslR_sl, bslR_hs, fill_nil, fill_cons, fill1_u8a, fill1_u8b, fill1_ca, fill1_cb, thenO_some, loadR_rp, opd, Env.put, Env.at, seqR_nrm, seqR_exit, seqR_ret, regR_some, List.set_cons_zero, List.set_cons_succ, List.getD_cons_zero, List.getD_cons_succ, pR_some, wR_some, callR_some, freezeL, freeze_int, freeze_bool, freeze_str, freeze_u16, freeze_u8, freeze_ptr, freeze_nils, boolR_true, boolR_false, blockR_nrm, blockR_exit, blockR_ret, outR_ret, outR_nrm, resVs, resV_tmp, oneOr, Option.map_some, Option.map_none, List.map_cons, List.map_nil, if_true, if_false, Bool.not_true, Bool.not_false, Bool.false_eq_true, reduceIte, decide_true, decide_false, i64_lss, i64_leq, i64_gtr, i64_geq, i64_eql, i64_neq, i64_add, i64_sub]
    have key' : ∀ e, maskE M31b0l e = E31 .nils x xs.length 0 → iter (evC noGl (ev k) k M31b0) M31b0l k e s = some (.exit 0, (E31 o x xs.length xs.length).set 9 (.bool false), s') :=
      fun e he => by rw [iter_mask _ _ _ e (E31 .nils x xs.length 0) _ (he.trans rfl), k1]
    rw [key' _ rfl]
    simp only [E31, k2.bys.freeze, env0, List.length_cons, List.length_nil, Nat.reduceAdd, Nat.reduceSub, List.replicate, List.cons_append, List.nil_append, evC_seq, evC_reg, evC_skip, evC_exit, evC_ret, evC_block, evC_condX, condX_true, condX_false, evOps_nil, evOps_one, contR_some, evOps_gd, gdR_tt, gdR_ft, gdR_tf, gdR_ff, gdR_un, bq_true, bq_false, ev1_mv, ev1_pick, ev1_bin, ev1_eqv, ev1_un, un_not, ev1_mki, ev1_slc, ev1_lenV, ev1_ixaV, ev1_appV, ev1_load, ev1_call, ev1_mn, ev1_mx, ev1_conv, ev1_alloc, ev1_storeV, ev1_bslR, bslR_sl, bslR_hs, fill_nil, fill_cons, fill1_u8a, fill1_u8b, fill1_ca, fill1_cb, thenO_some, loadR_rp, opd, Env.put, Env.at, seqR_nrm, seqR_exit, seqR_ret, regR_some, List.set_cons_zero, List.set_cons_succ, List.getD_cons_zero, List.getD_cons_succ, pR_some, wR_some, callR_some, freezeL, freeze_int, freeze_bool, freeze_str, freeze_u16, freeze_u8, freeze_ptr, freeze_nils, boolR_true, boolR_false, blockR_nrm, blockR_exit, blockR_ret, outR_ret, outR_nrm, resVs, resV_tmp, oneOr, Option.map_some, Option.map_none, List.map_cons, List.map_nil, if_true, if_false, Bool.not_true, Bool.not_false, Bool.false_eq_true, reduceIte, decide_true, decide_false, i64_lss, i64_leq, i64_gtr, i64_geq, i64_eql, i64_neq, i64_add, i64_sub]
  · rintro i e' s' hi ⟨o, h, ho, he⟩
    left
    obtain ⟨e2, s2, o2, h1, h2, h3, h4⟩ := round31 (ev k) k hx i hi hl s s' o ho he
    exact ⟨e2, s2, by rw [h]; exact h1, o2, h2, h3, h4⟩
  · rintro e' s' ⟨o, h, ho, he⟩
    rw [h, off]
    exact ⟨⟨o, s', rfl, by rwa [List.take_length] at ho, he⟩, fun _ _ => by simp⟩
def E32 (o x : AV) (i : Int) : Env := [x, .undef, .undef, o, .int .i64 i] ++ List.replicate 41 .undef
theorem round32 (call : Calls') (k : Nat) {x : AV} {xs : List UInt8} (hx : Bys x xs) (i : Nat) (hi : i < xs.length) (hl : xs.length ≤ 1000000) (s0 s : St) (o : AV) (ho : Own s0 s o (esc (xs.take i))) (he : Ext s0 s) :
    ∃ e' s' o', evC noGl call k M32b0 (E32 o x i) s = some (.nrm, e', s') ∧ maskE M32b0l e' = E32 o' x (i + 1 : Nat) ∧ Own s0 s' o' (esc (xs.take (i + 1))) ∧ Ext s0 s' := by
  have h1 : ((i : Int) < (xs.length : Int)) = True := eq_true (by omega)
  have h2 : IntKind.i64.wrap ((i : Int) + 1) = ((i + 1 : Nat) : Int) := by rw [IntKind.wrap_i64]; omega
  have hlen : (esc (xs.take i)).length ≤ 900000000 := by have := esc_length (xs.take i); simp at this; omega
  obtain ⟨⟨z1, s1, a1, a2, a3⟩, ⟨z2, s2, b1, b2, b3⟩⟩ := esc_app ho he hlen xs[i]
  rw [esc_succ xs i hi]
  cases hc : (xs[i] == 192 || xs[i] == 193 || xs[i] == 125) with
  | true =>
    have : escB xs[i] = [125, xs[i] ^^^ 32] := by unfold escB; rw [if_pos hc]
    rw [this]
    have key : ∃ e', evC noGl call k M32b0 (E32 o x i) s = some (.nrm, e', s1) ∧ maskE M32b0l e' = E32 z1 x (i + 1 : Nat) := by
      cases c1 : (xs[i] == 192) <;> cases c2 : (xs[i] == 193) <;> cases c3 : (xs[i] == 125) <;> simp [c1, c2, c3] at hc
      all_goals
        refine ⟨_, Eq.trans (b := some (Ex.nrm, ?_, s1)) ?_ rfl, ?_⟩
        case refine_2 =>
          simp only [M32b0, E32, h1, h2, hx.len, hx.ixa i hi, cut_bytes xs i hi, eql192, eql193, eql125, xor32, c1, c2, c3, a1, env0, List.length_cons, List.length_nil, Nat.reduceAdd, Nat.reduceSub, List.replicate, List.cons_append, List.nil_append, evC_seq, evC_reg, evC_skip, evC_exit, evC_ret, evC_block, evC_condX, condX_true, condX_false, evOps_nil, evOps_one, contR_some, evOps_gd, gdR_tt, gdR_ft, gdR_tf, gdR_ff, gdR_un, bq_true, bq_false, ev1_mv, ev1_pick, ev1_bin, ev1_eqv, ev1_un, un_not, ev1_mki, ev1_slc, ev1_lenV, ev1_ixaV, ev1_appV, ev1_load, ev1_call, ev1_mn, ev1_mx, ev1_conv, ev1_alloc, ev1_storeV, ev1_bslR, bslR_sl, bslR_hs, fill_nil, fill_cons, fill1_u8a, fill1_u8b, fill1_ca, fill1_cb, thenO_some, loadR_rp, opd, Env.put, Env.at, seqR_nrm, seqR_exit, seqR_ret, regR_some, List.set_cons_zero, List.set_cons_succ, List.getD_cons_zero, List.getD_cons_succ, pR_some, wR_some, callR_some, freezeL, freeze_int, freeze_bool, freeze_str, freeze_u16, freeze_u8, freeze_ptr, freeze_nils, boolR_true, boolR_false, blockR_nrm, blockR_exit, blockR_ret, outR_ret, outR_nrm, resVs, resV_tmp, oneOr, Option.map_some, Option.map_none, List.map_cons, List.map_nil, if_true, if_false, Bool.not_true, Bool.not_false, Bool.false_eq_true, reduceIte, decide_true, decide_false, i64_lss, i64_leq, i64_gtr, i64_geq, i64_eql, i64_neq, i64_add, i64_sub]
          rfl
        case refine_3 => rfl
    obtain ⟨e', k1, k2⟩ := key
    exact ⟨e', s1, z1, k1, k2, a2, a3⟩
  | false =>
    have : escB xs[i] = [xs[i]] := by unfold escB; rw [if_neg (by rw [hc]; decide)]
    rw [this]
    have key : ∃ e', evC noGl call k M32b0 (E32 o x i) s = some (.nrm, e', s2) ∧ maskE M32b0l e' = E32 z2 x (i + 1 : Nat) := by
      cases c1 : (xs[i] == 192) <;> cases c2 : (xs[i] == 193) <;> cases c3 : (xs[i] == 125) <;> simp [c1, c2, c3] at hc
      all_goals
        refine ⟨_, Eq.trans (b := some (Ex.nrm, ?_, s2)) ?_ rfl, ?_⟩
        case refine_2 =>
          simp only [M32b0, E32, h1, h2, hx.len, hx.ixa i hi, cut_bytes xs i hi, eql192, eql193, eql125, xor32, c1, c2, c3, b1, env0, List.length_cons, List.length_nil, Nat.reduceAdd, Nat.reduceSub, List.replicate, List.cons_append, List.nil_append, evC_seq, evC_reg, evC_skip, evC_exit, evC_ret, evC_block, evC_condX, condX_true, condX_false, evOps_nil, evOps_one, contR_some, evOps_gd, gdR_tt, gdR_ft, gdR_tf, gdR_ff, gdR_un, bq_true, bq_false, ev1_mv, ev1_pick, ev1_bin, ev1_eqv, ev1_un, un_not, ev1_mki, ev1_slc, ev1_lenV, ev1_ixaV, ev1_appV, ev1_load, ev1_call, ev1_mn, ev1_mx, ev1_conv, ev1_alloc, ev1_storeV, ev1_bslR, bslR_sl, bslR_hs, fill_nil, fill_cons, fill1_u8a, fill1_u8b, fill1_ca, fill1_cb, thenO_some, loadR_rp, opd, Env.put, Env.at, seqR_nrm, seqR_exit, seqR_ret, regR_some, List.set_cons_zero, List.set_cons_succ, List.getD_cons_zero, List.getD_cons_succ, pR_some, wR_some, callR_some, freezeL, freeze_int, freeze_bool, freeze_str, freeze_u16, freeze_u8, freeze_ptr, freeze_nils, boolR_true, boolR_false, blockR_nrm, blockR_exit, blockR_ret, outR_ret, outR_nrm, resVs, resV_tmp, oneOr, Option.map_some, Option.map_none, List.map_cons, List.map_nil, if_true, if_false, Bool.not_true, Bool.not_false, Bool.false_eq_true, reduceIte, decide_true, decide_false, i64_lss, i64_leq, i64_gtr, i64_geq, i64_eql, i64_neq, i64_add, i64_sub]
          rfl
        case refine_3 => rfl
    obtain ⟨e', k1, k2⟩ := key
    exact ⟨e', s2, z2, k1, k2, b2, b3⟩
theorem refEscape_ev {x : AV} {xs : List UInt8} (hx : Bys x xs) (k : Nat) (hk : xs.length < k) (hl : xs.length ≤ 1000000) (s : St) :
    ∃ y s', ev (k + 1) 32 [x] s = some (y, s') ∧ Own s s' y (esc xs) ∧ Ext s s' := by
  have off : ∀ o s', evC noGl (ev k) k M32b0 (E32 o x xs.length) s' = some (.exit 0, (E32 o x xs.length).set 5 (.int .i64 xs.length) |>.set 6 x |>.set 7 (.int .i64 xs.length) |>.set 8 (.bool false), s') := by
    intro o s'
    simp only [M32b0, E32, hx.len, Int.lt_irrefl, env0, List.length_cons, List.length_nil, Nat.reduceAdd, Nat.reduceSub, List.replicate, List.cons_append, List.nil_append, evC_seq, evC_reg, evC_skip, evC_exit, evC_ret, evC_block, evC_condX, condX_true, condX_false, evOps_nil, evOps_one, contR_some, evOps_gd, gdR_tt, gdR_ft, gdR_tf, gdR_ff, gdR_un, bq_true, bq_false, ev1_mv, ev1_pick, ev1_bin, ev1_eqv, ev1_un, un_not, ev1_mki, ev1_slc, ev1_lenV, ev1_ixaV, ev1_appV, ev1_load, ev1_call, ev1_mn, ev1_mx, ev1_conv, ev1_alloc, ev1_storeV, ev1_bslR, bslR_sl, bslR_hs, fill_nil, fill_cons, fill1_u8a, fill1_u8b, fill1_ca, fill1_cb, thenO_some, loadR_rp, opd, Env.put, Env.at, seqR_nrm, seqR_exit, seqR_ret, regR_some, List.set_cons_zero, List.set_cons_succ, List.getD_cons_zero, List.getD_cons_succ, pR_some, wR_some, callR_some, freezeL, freeze_int, freeze_bool, freeze_str, freeze_u16, freeze_u8, freeze_ptr, freeze_nils, boolR_true, boolR_false, blockR_nrm, blockR_exit, blockR_ret, outR_ret, outR_nrm, resVs, resV_tmp, oneOr, Option.map_some, Option.map_none, List.map_cons, List.map_nil, if_true, if_false, Bool.not_true, Bool.not_false, Bool.false_eq_true, reduceIte, decide_true, decide_false, i64_lss, i64_leq, i64_gtr, i64_geq, i64_eql, i64_neq, i64_add, i64_sub]
  have key := iter_leave (evC noGl (ev k) k M32b0) M32b0l (fun i e' s' => ∃ o, maskE M32b0l e' = E32 o x (i : Nat) ∧ Own s s' o (esc (xs.take i)) ∧ Ext s s')
    (fun r => ∃ o s', r = some (.exit 0, (E32 o x xs.length).set 5 (.int .i64 xs.length) |>.set 6 x |>.set 7 (.int .i64 xs.length) |>.set 8 (.bool false), s') ∧ Own s s' o (esc xs) ∧ Ext s s') xs.length ?_ ?_ xs.length 0 (E32 .nils x 0) s k (by omega) ⟨.nils, rfl, Own.nil s s, Ext.refl s⟩ hk
  · obtain ⟨o, s', k1, k2, k3⟩ := key
    refine ⟨o, s', ?_, k2, k3⟩
    rw [ev_in rfl tab32]
    simp only [M32, hx.len, evC_loop, env0, List.length_cons, List.length_nil, Nat.reduceAdd, Nat.reduceSub, List.replicate, List.cons_append, List.nil_append, evC_seq, evC_reg, evC_skip, evC_exit, evC_ret, evC_block, evC_condX, condX_true, condX_false, evOps_nil, evOps_one, contR_some, evOps_gd, gdR_tt, gdR_ft, gdR_tf, gdR_ff, gdR_un, bq_true, bq_false, ev1_mv, ev1_pick, ev1_bin, ev1_eqv, ev1_un, un_not, ev1_mki, ev1_slc, ev1_lenV, ev1_ixaV, ev1_appV, ev1_load, ev1_call, ev1_mn, ev1_mx, ev1_conv, ev1_alloc, ev1_storeV, ev1_bslR, bslR_sl, bslR_hs, fill_nil, fill_cons, fill1_u8a, fill1_u8b, fill1_ca, fill1_cb, thenO_some, loadR_rp, opd, Env.put, Env.at, seqR_nrm, seqR_exit, seqR_ret, regR_some, List.set_cons_zero, List.set_cons_succ, List.getD_cons_zero, List.getD_cons_succ, pR_some, wR_some, callR_some, freezeL, freeze_int, freeze_bool, freeze_str, freeze_u16, freeze_u8, freeze_ptr, freeze_nils, boolR_true, boolR_false, blockR_nrm, blockR_exit, blockR_ret, outR_ret, outR_nrm, resVs, resV_tmp, oneOr, Option.map_some, Option.map_none, List.map_cons, List.map_nil, if_true, if_false, Bool.not_true, Bool.not_false, Bool.false_eq_true, reduceIte, decide_true, decide_false, i64_lss, i64_leq, i64_gtr, i64_geq, i64_eql, i64_neq, i64_add, i64_sub]
    have key' : ∀ e, maskE M32b0l e = E32 .nils x 0 → iter (evC noGl (ev k) k M32b0) M32b0l k e s = some (.exit 0, (E32 o x xs.length).set 5 (.int .i64 xs.length) |>.set 6 x |>.set 7 (.int .i64 xs.length) |>.set 8 (.bool false), s') :=
      fun e he => by rw [iter_mask _ _ _ e (E32 .nils x 0) _ (he.trans rfl), k1]
    rw [key' _ rfl]
    simp only [E32, k2.bys.freeze, env0, List.length_cons, List.length_nil, Nat.reduceAdd, Nat.reduceSub, List.replicate, List.cons_append, List.nil_append, evC_seq, evC_reg, evC_skip, evC_exit, evC_ret, evC_block, evC_condX, condX_true, condX_false, evOps_nil, evOps_one, contR_some, evOps_gd, gdR_tt, gdR_ft, gdR_tf, gdR_ff, gdR_un, bq_true, bq_false, ev1_mv, ev1_pick, ev1_bin, ev1_eqv, ev1_un, un_not, ev1_mki, ev1_slc, ev1_lenV, ev1_ixaV, ev1_appV, ev1_load, ev1_call, ev1_mn, ev1_mx, ev1_conv, ev1_alloc, ev1_storeV, ev1_bslR, bslR_sl, bslR_hs, fill_nil, fill_cons, fill1_u8a, fill1_u8b, fill1_ca, fill1_cb, thenO_some, loadR_rp, opd, Env.put, Env.at, seqR_nrm, seqR_exit, seqR_ret, regR_some, List.set_cons_zero, List.set_cons_succ, List.getD_cons_zero, List.getD_cons_succ, pR_some, wR_some, callR_some, freezeL, freeze_int, freeze_bool, freeze_str, freeze_u16, freeze_u8, freeze_ptr, freeze_nils, boolR_true, boolR_false, blockR_nrm, blockR_exit, blockR_ret, outR_ret, outR_nrm, resVs, resV_tmp, oneOr, Option.map_some, Option.map_none, List.map_cons, List.map_nil, if_true, if_false, Bool.not_true, Bool.not_false, Bool.false_eq_true, reduceIte, decide_true, decide_false, i64_lss, i64_leq, i64_gtr, i64_geq, i64_eql, i64_neq, i64_add, i64_sub]
  · rintro i e' s' hi ⟨o, h, ho, he⟩
    left
    obtain ⟨e2, s2, o2, h1, h2, h3, h4⟩ := round32 (ev k) k hx i hi hl s s' o ho he
    exact ⟨e2, s2, by rw [h]; exact h1, o2, h2, h3, h4⟩
  · rintro e' s' ⟨o, h, ho, he⟩
    rw [h, off]
    exact ⟨⟨o, s', rfl, by rwa [List.take_length] at ho, he⟩, fun _ _ => by simp⟩
end Go.Proofs.Ytghfinbdgnggjaa
