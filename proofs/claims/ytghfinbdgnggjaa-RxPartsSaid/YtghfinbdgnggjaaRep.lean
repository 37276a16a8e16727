/- slices.Repeat of one byte, as the evaluator answers it. No conditions. -/
import Derived.Test.YtghfinbdgnggjaaBegun
import Derived.Test.YtghfinbdgnggjaaMc
import Derived.Test.YtghfinbdgnggjaaHs
set_option linter.unusedSimpArgs false
namespace Go.Ab
open Go
theorem u64_gtr (a b : Int) : binV .gtr (.int .u64 a) (.int .u64 b) = some (.bool (decide (a > b))) := rfl
theorem conv_u64 (n : Nat) (h : n ≤ 1000000000) (k : IntKind) : convP (.toInt .u64) (.int k (n : Int)) = some (.int .u64 (n : Int)) := by
  have : IntKind.u64.wrap (n : Int) = (n : Int) := by
    simp only [IntKind.wrap, IntKind.bits, IntKind.signed]; simp; omega
  simp only [convP, this]
theorem conv_i64 (n : Nat) (h : n ≤ 1000000000) (k : IntKind) : convP (.toInt .i64) (.int k (n : Int)) = some (.int .i64 (n : Int)) := by
  simp only [convP, wrapI (n : Int) (by omega) (by omega)]
theorem zeros (n : Nat) : ((List.replicate n [AV.int .u8 0]).flatten) = bytesAV (List.replicate n 0) := by
  induction n with
  | zero => rfl
  | succ n ih => rw [List.replicate_succ, List.flatten_cons, ih]; simp [bytesAV, List.replicate_succ]
def mksV (size bytes : Nat) (zs : List AV) (s : St) (l c : AV) : Option (AV × St) :=
  match l, c with
  | .int .i64 l, .int .i64 c => if l = c ∧ 0 ≤ l ∧ fits l.toNat bytes = true then
        some (.hs size s.next 0 l.toNat, s.new (.cells size ((List.replicate l.toNat zs).flatten))) else none
  | _, _ => none
theorem ev1_mksV (gl : Nat → AV) (call : Calls') (e : Env) (s : St) (m b : Nat) (z : List AV) (l c : Opd) : ev1 gl call e s (.mks m b z l c) = wR (mksV m b z s (opd gl e l) (opd gl e c)) := by
  rw [ev1_mks]; rfl
theorem mks_n (s : St) (n : Nat) (h : n ≤ 1000000000) : mksV 1 1 [.int .u8 0] s (.int .i64 (n : Int)) (.int .i64 (n : Int)) = some (.hs 1 s.next 0 n, s.new (.cells 1 (bytesAV (List.replicate n 0)))) := by
  simp only [mksV, Int.toNat_natCast, zeros]
  rw [if_pos ⟨trivial, by omega, fits_small h⟩]
def cpyV (size : Nat) (s : St) (x y : AV) : Option (AV × St) :=
  match x with
  | .hs _ b o n => match newsOf size s y, s.get b with
    | some (news, m), some (.cells z cs) => if z = size then match storeL cs o (news.take (min m n * size)) with
      | some cs' => some (.int .i64 (min m n : Nat), s.upd b (.cells z cs'))
      | none => none else none
    | _, _ => none
  | _ => none
theorem ev1_cpyV (gl : Nat → AV) (call : Calls') (e : Env) (s : St) (n : Nat) (x y : Opd) : ev1 gl call e s (.cpy n x y) = wR (cpyV n s (opd gl e x) (opd gl e y)) := by
  rw [ev1_cpy]; rfl
theorem fillL_bytes (ys : List UInt8) (cs : List UInt8) (o : Nat) (h : o + ys.length ≤ cs.length) : fillL (bytesAV cs) o (bytesAV ys) = bytesAV (cs.take o ++ ys ++ cs.drop (o + ys.length)) := by
  induction ys generalizing cs o with
  | nil => simp [bytesAV, fillL]
  | cons y ys ih =>
    have : bytesAV (y :: ys) = u8v y :: bytesAV ys := rfl
    rw [this]
    simp only [fillL]
    rw [bytesAV_set, ih _ _ (by simp at h ⊢; omega)]
    congr 1
    have h0 : o < cs.length := by simp at h; omega
    rw [List.take_succ_eq_append_getElem (by simpa using h0)]
    simp only [List.getElem_set_self, List.take_set_of_le (Nat.le_refl o), List.append_assoc, List.cons_append, List.nil_append]
    rw [List.drop_set_of_lt (by omega)]
    simp only [List.length_cons]
    rw [show o + 1 + ys.length = o + (ys.length + 1) from by omega]
/-- A copy into bytes of one's own. -/
theorem Has.cpy {s : St} {b : Nat} {cs : List UInt8} (h : Has s b cs) (o n : Nat) (y : AV) (ys : List UInt8) (hy : newsOf 1 s y = some (bytesAV ys, ys.length)) (hl : o + min ys.length n ≤ cs.length) :
    cpyV 1 s (.hs 1 b o n) y = some (.int .i64 (min ys.length n : Nat), s.upd b (.cells 1 (bytesAV (cs.take o ++ ys.take (min ys.length n) ++ cs.drop (o + min ys.length n))))) := by
  unfold Has at h
  simp only [cpyV, hy, h, if_true, Nat.mul_one]
  have : (bytesAV ys).take (min ys.length n) = bytesAV (ys.take (min ys.length n)) := by simp [bytesAV, List.map_take]
  rw [this, storeL, if_pos (by simp [bytesAV_length]; omega), fillL_bytes _ _ _ (by simp; omega)]
  simp
theorem hs_behind (b n i : Nat) (h : i < n) : slcV 1 (.hs 1 b 0 n) (some (.int .i64 (i : Int))) none = some (.hs 1 b i (n - i)) := by
  have q : bnd n (.int .i64 (i : Int)) = some i := by simp [bnd]; omega
  simp only [slcV, bndO, q]
  rw [if_pos ⟨trivial, .inr h⟩]; simp
theorem hs_till (b n i : Nat) (h : i ≤ n) : slcV 1 (.hs 1 b 0 n) none (some (.int .i64 (i : Int))) = some (.hs 1 b 0 i) := by
  have q : bnd n (.int .i64 (i : Int)) = some i := by simp [bnd]; omega
  simp only [slcV, bndO, q]
  rw [if_pos ⟨trivial, .inl trivial⟩]; simp
theorem Has.news {s : St} {b : Nat} {cs : List UInt8} (h : Has s b cs) (n : Nat) (hn : n ≤ cs.length) : newsOf 1 s (.hs 1 b 0 n) = some (bytesAV (cs.take n), (cs.take n).length) := by
  unfold Has at h
  simp only [newsOf, h]
  rw [if_pos ⟨trivial, by simp [bytesAV_length]; omega⟩]
  simp [bytesAV, List.map_take]; omega
end Go.Ab
namespace Go.Proofs.Ytghfinbdgnggjaa
open Go Go.Ab
theorem mul_ev (k n : Nat) (hn : n ≤ 10) (s : St) : ev (k + 5) 49 [.int .u64 1, .int .u64 (n : Int)] s = some (.tup [.int .u64 0, .int .u64 (n : Int)], s) := by
  rcases n with _ | _ | _ | _ | _ | _ | _ | _ | _ | _ | _ | n
  all_goals first | omega | kernel_rfl
def E44 (x : AV) (i : Int) : Env := [.undef, .undef, .undef, .undef, .undef, .undef, .undef, x, .int .i64 i] ++ List.replicate 39 .undef
/-- What lies in the new slice after a chunk was written. -/
def half (n c : Nat) : List UInt8 := List.replicate c 255 ++ List.replicate (n - c) 0
theorem half_next (n c : Nat) (h : c < n) : (half n c).take c ++ ((half n c).take c).take (min ((half n c).take c).length (n - c)) ++ (half n c).drop (c + min ((half n c).take c).length (n - c)) = half n (c + min c (n - c)) := by
  have h1 : (half n c).take c = List.replicate c 255 := by simp [half]
  rw [h1]
  simp only [List.length_replicate, List.take_replicate, half]
  rw [List.drop_append]
  simp only [List.drop_replicate, List.length_replicate]
  rw [show c - (c + min c (n - c)) = 0 from by omega, show n - c - (c + min c (n - c) - c) = n - (c + min c (n - c)) from by omega]
  simp only [List.replicate_zero, List.nil_append, ← List.append_assoc]
  congr 1
  rw [List.replicate_append_replicate]
  congr 1; omega
theorem round44 (call : Calls') (k n c b : Nat) (hc : c < n) (hn : n ≤ 10) (s : St) (hs : Has s b (half n c)) :
    ∃ e' s', evC noGl call k M44b0 (E44 (.hs 1 b 0 n) c) s = some (.nrm, e', s') ∧ maskE M44b0l e' = E44 (.hs 1 b 0 n) (c + min c (n - c) : Nat) ∧ Has s' b (half n (c + min c (n - c))) ∧ s' = s.upd b (.cells 1 (bytesAV (half n (c + min c (n - c))))) := by
  have h1 : ((c : Int) < (n : Int)) = True := eq_true (by omega)
  have hlen : (half n c).length = n := by simp [half]; omega
  have g1 := hs_behind b n c hc
  have g2 := hs_till b n c (by omega)
  have g3 := hs.cpy c (n - c) (.hs 1 b 0 c) ((half n c).take c) (hs.news c (by omega)) (by simp; omega)
  rw [half_next n c hc] at g3
  have hl2 : ((half n c).take c).length = c := by simp [half]
  rw [hl2] at g3
  have h2 : IntKind.i64.wrap ((c : Int) + ((min c (n - c) : Nat) : Int)) = ((c + min c (n - c) : Nat) : Int) := by rw [wrapI _ (by omega) (by omega)]; omega
  refine ⟨_, _, Eq.trans (b := some (Ex.nrm, ?_, s.upd b (.cells 1 (bytesAV (half n (c + min c (n - c))))))) ?_ rfl, ?_, hs.upd _, rfl⟩
  case refine_2 =>
    simp only [M44b0, E44, lenV, h1, g1, g2, g3, h2, ev1_cpyV, env0, List.length_cons, List.length_nil, Nat.reduceAdd, Nat.reduceSub, List.replicate, List.cons_append, List.nil_append, evC_seq, evC_reg, evC_skip, evC_exit, evC_ret, evC_block, evC_condX, condX_true, condX_false, evOps_nil, evOps_one, contR_some, evOps_gd, gdR_tt, gdR_ft, gdR_tf, gdR_ff, gdR_un, bq_true, bq_false, ev1_mv, ev1_pick, ev1_bin, ev1_eqv, ev1_un, un_not, ev1_mki, ev1_slc, ev1_lenV, ev1_ixaV, ev1_appV, ev1_load, ev1_call, ev1_mn, ev1_mx, ev1_conv, ev1_alloc, ev1_storeV, ev1_bslR, bslR_sl, bslR_hs, fill_nil, fill_cons, fill1_u8a, fill1_u8b, fill1_ca, fill1_cb, thenO_some, loadR_rp, opd, Env.put, Env.at, seqR_nrm, seqR_exit, seqR_ret, regR_some, List.set_cons_zero, List.set_cons_succ, List.getD_cons_zero, List.getD_cons_succ, pR_some, wR_some, callR_some, freezeL, freeze_int, freeze_bool, freeze_str, freeze_u16, freeze_u8, freeze_ptr, freeze_nils, boolR_true, boolR_false, blockR_nrm, blockR_exit, blockR_ret, outR_ret, outR_nrm, resVs, resV_tmp, oneOr, Option.map_some, Option.map_none, List.map_cons, List.map_nil, if_true, if_false, Bool.not_true, Bool.not_false, Bool.false_eq_true, reduceIte, decide_true, decide_false, i64_lss, i64_leq, i64_gtr, i64_geq, i64_eql, i64_neq, i64_add, i64_sub, evC_draw, evLoud_nil, evLoud_one, az_mv, az_pick, az_bin, az_eqv, az_un, az_conv, az_mki, az_slc, az_sls, az_lens, az_ixs, az_fa, az_fld, az_ixa, az_ixp, az_ix, az_load, az_store, az_nchk, az_tas, az_ext, az_call, az_len, az_mn, az_mx, az_app, az_build, az_bsl, az_box, az_mks, az_cpy, az_rng, az_nxt, bk_mv, bk_pick, bk_bin, bk_eqv, bk_un, bk_mki, bk_slc, bk_sls, bk_lens, bk_ixs, bk_fa, bk_fld, bk_ixa, bk_ixp, bk_ix, bk_store, bk_nchk, bk_tas, bk_ext, bk_call, bk_len, bk_mn, bk_mx, bk_app, bk_build, bk_bsl, bk_box, bk_mks, bk_cpy, bk_rng, bk_nxt, bk_alloc, reserve_nil, reserve_none, reserve_gd, reserve_alloc, contL_some, evLoud_gd, gdL_tt, gdL_ft, gdL_tf, gdL_ff, gdL_un, evLoud_alloc, placeR]
    rw [drawR_ok]; case h => exact calm_quiet (by simp only [List.map_cons, List.map_nil]; decide +kernel)
    simp only [env0, List.length_cons, List.length_nil, Nat.reduceAdd, Nat.reduceSub, List.replicate, List.cons_append, List.nil_append, evC_seq, evC_reg, evC_skip, evC_exit, evC_ret, evC_block, evC_condX, condX_true, condX_false, evOps_nil, evOps_one, contR_some, evOps_gd, gdR_tt, gdR_ft, gdR_tf, gdR_ff, gdR_un, bq_true, bq_false, ev1_mv, ev1_pick, ev1_bin, ev1_eqv, ev1_un, un_not, ev1_mki, ev1_slc, ev1_lenV, ev1_ixaV, ev1_appV, ev1_load, ev1_call, ev1_mn, ev1_mx, ev1_conv, ev1_alloc, ev1_storeV, ev1_bslR, bslR_sl, bslR_hs, fill_nil, fill_cons, fill1_u8a, fill1_u8b, fill1_ca, fill1_cb, thenO_some, loadR_rp, opd, Env.put, Env.at, seqR_nrm, seqR_exit, seqR_ret, regR_some, List.set_cons_zero, List.set_cons_succ, List.getD_cons_zero, List.getD_cons_succ, pR_some, wR_some, callR_some, freezeL, freeze_int, freeze_bool, freeze_str, freeze_u16, freeze_u8, freeze_ptr, freeze_nils, boolR_true, boolR_false, blockR_nrm, blockR_exit, blockR_ret, outR_ret, outR_nrm, resVs, resV_tmp, oneOr, Option.map_some, Option.map_none, List.map_cons, List.map_nil, if_true, if_false, Bool.not_true, Bool.not_false, Bool.false_eq_true, reduceIte, decide_true, decide_false, i64_lss, i64_leq, i64_gtr, i64_geq, i64_eql, i64_neq, i64_add, i64_sub]
    rfl
  case refine_3 => rfl
theorem repeat_ev (k n : Nat) (hn : n ≤ 10) (hk : 10 < k) (tk : Option (Nat × Nat × Nat)) (s : St) :
    ∃ s', ev (k + 6) 44 [.sl [.int .u8 255] 1 tk, .int .i64 (n : Int)] s = some (.sl (bytesAV (List.replicate n 255)) n none, s') ∧ Ext s s' := by
  have hm : ∀ s, ev (k + 5) 49 [.int .u64 (1 : Int), .int .u64 (n : Int)] s = some (.tup [.int .u64 0, .int .u64 (n : Int)], s) := fun s => mul_ev k n hn s
  have c1 : convP (.toInt .u64) (.int .i64 1) = some (.int .u64 1) := conv_u64 1 (by omega) .i64
  have c2 := conv_u64 n (by omega) .i64
  have c3 := conv_i64 n (by omega) .u64
  have h1 : ((n : Int) < 0) = False := eq_false (by omega)
  have h2 : ((0 : Int) > 0) = False := eq_false (by omega)
  have h3 : ((n : Int) > 9223372036854775807) = False := eq_false (by omega)
  have hs0 : Has (s.new (.cells 1 (bytesAV (List.replicate n 0)))) s.next (List.replicate n 0) := Has.new _ _
  have hy : newsOf 1 (s.new (.cells 1 (bytesAV (List.replicate n 0)))) (.sl [.int .u8 255] 1 tk) = some (bytesAV [255], ([255] : List UInt8).length) := rfl
  have g := hs0.cpy 0 n _ [255] hy (by simp; omega)
  have hh : (List.replicate n (0 : UInt8)).take 0 ++ ([255] : List UInt8).take (min ([255] : List UInt8).length n) ++ (List.replicate n (0 : UInt8)).drop (0 + min ([255] : List UInt8).length n) = half n (min 1 n) := by
    rcases n with _ | n
    · rfl
    · simp [half, Nat.min_eq_left]
  rw [hh] at g
  have hs1 := hs0.upd (half n (min 1 n))
  have e1 : Ext s ((s.new (.cells 1 (bytesAV (List.replicate n 0)))).upd s.next (.cells 1 (bytesAV (half n (min 1 n))))) := ((Ext.refl s).new _).upd (Nat.le_refl _) _
  generalize (s.new (.cells 1 (bytesAV (List.replicate n 0)))).upd s.next (.cells 1 (bytesAV (half n (min 1 n)))) = s1 at g hs1 e1
  have off : ∀ s', evC noGl (ev (k + 5)) (k + 5) M44b0 (E44 (.hs 1 s.next 0 n) n) s' = some (.exit 0, (E44 (.hs 1 s.next 0 n) n).set 34 (.int .i64 n) |>.set 35 (.hs 1 s.next 0 n) |>.set 36 (.int .i64 n) |>.set 37 (.bool false), s') := by
    intro s'
    simp only [M44b0, E44, lenV, Int.lt_irrefl, env0, List.length_cons, List.length_nil, Nat.reduceAdd, Nat.reduceSub, List.replicate, List.cons_append, List.nil_append, evC_seq, evC_reg, evC_skip, evC_exit, evC_ret, evC_block, evC_condX, condX_true, condX_false, evOps_nil, evOps_one, contR_some, evOps_gd, gdR_tt, gdR_ft, gdR_tf, gdR_ff, gdR_un, bq_true, bq_false, ev1_mv, ev1_pick, ev1_bin, ev1_eqv, ev1_un, un_not, ev1_mki, ev1_slc, ev1_lenV, ev1_ixaV, ev1_appV, ev1_load, ev1_call, ev1_mn, ev1_mx, ev1_conv, ev1_alloc, ev1_storeV, ev1_bslR, bslR_sl, bslR_hs, fill_nil, fill_cons, fill1_u8a, fill1_u8b, fill1_ca, fill1_cb, thenO_some, loadR_rp, opd, Env.put, Env.at, seqR_nrm, seqR_exit, seqR_ret, regR_some, List.set_cons_zero, List.set_cons_succ, List.getD_cons_zero, List.getD_cons_succ, pR_some, wR_some, callR_some, freezeL, freeze_int, freeze_bool, freeze_str, freeze_u16, freeze_u8, freeze_ptr, freeze_nils, boolR_true, boolR_false, blockR_nrm, blockR_exit, blockR_ret, outR_ret, outR_nrm, resVs, resV_tmp, oneOr, Option.map_some, Option.map_none, List.map_cons, List.map_nil, if_true, if_false, Bool.not_true, Bool.not_false, Bool.false_eq_true, reduceIte, decide_true, decide_false, i64_lss, i64_leq, i64_gtr, i64_geq, i64_eql, i64_neq, i64_add, i64_sub]
  have key := iter_leave (evC noGl (ev (k + 5)) (k + 5) M44b0) M44b0l (fun i e' s' => ∃ c, (c = n ∨ (i ≤ c ∧ c < n ∧ (0 < n → 0 < c))) ∧ maskE M44b0l e' = E44 (.hs 1 s.next 0 n) (c : Nat) ∧ Has s' s.next (half n c) ∧ Ext s s')
    (fun r => ∃ s', r = some (.exit 0, (E44 (.hs 1 s.next 0 n) n).set 34 (.int .i64 n) |>.set 35 (.hs 1 s.next 0 n) |>.set 36 (.int .i64 n) |>.set 37 (.bool false), s') ∧ Has s' s.next (half n n) ∧ Ext s s') n ?_ ?_ n 0 (E44 (.hs 1 s.next 0 n) (min 1 n : Nat)) s1 (k + 5) (by omega) ⟨min 1 n, by omega, rfl, hs1, e1⟩ (by omega)
  · obtain ⟨s', k1, k2, k3⟩ := key
    have hfull : half n n = List.replicate n 255 := by simp [half]
    rw [hfull] at k2
    have fz := k2.freeze
    rw [List.length_replicate] at fz
    refine ⟨s'.upd s.next (.froz 1 (bytesAV (List.replicate n 255))), ?_, k3.upd (Nat.le_refl _) _⟩
    have key' : ∀ e, maskE M44b0l e = E44 (.hs 1 s.next 0 n) (min 1 n : Nat) → iter (evC noGl (ev (k + 5)) (k + 5) M44b0) M44b0l (k + 5) e s1 = some (.exit 0, (E44 (.hs 1 s.next 0 n) n).set 34 (.int .i64 n) |>.set 35 (.hs 1 s.next 0 n) |>.set 36 (.int .i64 n) |>.set 37 (.bool false), s') :=
      fun e he => by rw [iter_mask _ _ _ e (E44 (.hs 1 s.next 0 n) (min 1 n : Nat)) _ (he.trans rfl), k1]
    rw [show k + 6 = (k + 5) + 1 from rfl, ev_in rfl tab44]
    simp only [M44, lenV, h1, Int.natCast_one, c1, c2, hm, u64_gtr, h2, h3, c3, ev1_mksV, mks_n _ n (show n ≤ 1000000000 by omega), evC_loop, evP, ev1_ext, List.getElem?_cons_zero, List.getElem?_cons_succ, ev1_cpyV, g, List.length_cons, List.length_nil, Nat.zero_add, env0, List.length_cons, List.length_nil, Nat.reduceAdd, Nat.reduceSub, List.replicate, List.cons_append, List.nil_append, evC_seq, evC_reg, evC_skip, evC_exit, evC_ret, evC_block, evC_condX, condX_true, condX_false, evOps_nil, evOps_one, contR_some, evOps_gd, gdR_tt, gdR_ft, gdR_tf, gdR_ff, gdR_un, bq_true, bq_false, ev1_mv, ev1_pick, ev1_bin, ev1_eqv, ev1_un, un_not, ev1_mki, ev1_slc, ev1_lenV, ev1_ixaV, ev1_appV, ev1_load, ev1_call, ev1_mn, ev1_mx, ev1_conv, ev1_alloc, ev1_storeV, ev1_bslR, bslR_sl, bslR_hs, fill_nil, fill_cons, fill1_u8a, fill1_u8b, fill1_ca, fill1_cb, thenO_some, loadR_rp, opd, Env.put, Env.at, seqR_nrm, seqR_exit, seqR_ret, regR_some, List.set_cons_zero, List.set_cons_succ, List.getD_cons_zero, List.getD_cons_succ, pR_some, wR_some, callR_some, freezeL, freeze_int, freeze_bool, freeze_str, freeze_u16, freeze_u8, freeze_ptr, freeze_nils, boolR_true, boolR_false, blockR_nrm, blockR_exit, blockR_ret, outR_ret, outR_nrm, resVs, resV_tmp, oneOr, Option.map_some, Option.map_none, List.map_cons, List.map_nil, if_true, if_false, Bool.not_true, Bool.not_false, Bool.false_eq_true, reduceIte, decide_true, decide_false, i64_lss, i64_leq, i64_gtr, i64_geq, i64_eql, i64_neq, i64_add, i64_sub]
    rw [key' _ rfl]
    simp only [E44, List.replicate, List.cons_append, List.nil_append, fz, env0, List.length_cons, List.length_nil, Nat.reduceAdd, Nat.reduceSub, List.replicate, List.cons_append, List.nil_append, evC_seq, evC_reg, evC_skip, evC_exit, evC_ret, evC_block, evC_condX, condX_true, condX_false, evOps_nil, evOps_one, contR_some, evOps_gd, gdR_tt, gdR_ft, gdR_tf, gdR_ff, gdR_un, bq_true, bq_false, ev1_mv, ev1_pick, ev1_bin, ev1_eqv, ev1_un, un_not, ev1_mki, ev1_slc, ev1_lenV, ev1_ixaV, ev1_appV, ev1_load, ev1_call, ev1_mn, ev1_mx, ev1_conv, ev1_alloc, ev1_storeV, ev1_bslR, bslR_sl, bslR_hs, fill_nil, fill_cons, fill1_u8a, fill1_u8b, fill1_ca, fill1_cb, thenO_some, loadR_rp, opd, Env.put, Env.at, seqR_nrm, seqR_exit, seqR_ret, regR_some, List.set_cons_zero, List.set_cons_succ, List.getD_cons_zero, List.getD_cons_succ, pR_some, wR_some, callR_some, freezeL, freeze_int, freeze_bool, freeze_str, freeze_u16, freeze_u8, freeze_ptr, freeze_nils, boolR_true, boolR_false, blockR_nrm, blockR_exit, blockR_ret, outR_ret, outR_nrm, resVs, resV_tmp, oneOr, Option.map_some, Option.map_none, List.map_cons, List.map_nil, if_true, if_false, Bool.not_true, Bool.not_false, Bool.false_eq_true, reduceIte, decide_true, decide_false, i64_lss, i64_leq, i64_gtr, i64_geq, i64_eql, i64_neq, i64_add, i64_sub]
  · rintro i e' s' hi ⟨c, hc, h, hs, he⟩
    rcases hc with rfl | ⟨hc1, hc2, hc3⟩
    · right
      rw [h, off]
      exact ⟨⟨s', rfl, hs, he⟩, fun _ _ => by simp⟩
    · left
      obtain ⟨e2, s2, g1, g2, g3, g4⟩ := round44 (ev (k + 5)) (k + 5) n c s.next hc2 hn s' hs
      refine ⟨e2, s2, by rw [h]; exact g1, _, ?_, g2, g3, ?_⟩
      · have := hc3 (by omega)
        by_cases hq : c + min c (n - c) = n
        · exact .inl hq
        · exact .inr ⟨by omega, by omega, fun _ => by omega⟩
      · rw [g4]; exact he.upd (Nat.le_refl _) _
  · rintro e' s' ⟨c, hc, h, hs, he⟩
    have : c = n := by omega
    subst this
    rw [h, off]
    exact ⟨⟨s', rfl, hs, he⟩, fun _ _ => by simp⟩
end Go.Proofs.Ytghfinbdgnggjaa
