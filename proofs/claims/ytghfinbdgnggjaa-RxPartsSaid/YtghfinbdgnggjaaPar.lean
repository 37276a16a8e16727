/- RxParts: what is told is the caller's own. No conditions. -/
import Derived.Test.YtghfinbdgnggjaaRxR
import Derived.Test.YtghfinbdgnggjaaMny
import Derived.Test.YtghfinbdgnggjaaEqAll
set_option linter.unusedSimpArgs false
set_option linter.unusedVariables false
set_option maxRecDepth 100000
set_option maxHeartbeats 4000000
namespace Go.Proofs.Ytghfinbdgnggjaa
open Go Go.Ab
noncomputable def extP (f : Nat) : Option (List AV → St → Option (AV × St)) := if f = 37 then some h37 else if f = 19 then some (fun args s => ev 999 19 args s) else if f = 20 then some (fun args s => ev 999 20 args s) else if f = 36 then some (fun args s => ev 999 36 args s) else if f = 35 then some (fun args s => ev 999 35 args s) else if f = 40 then some (fun args s => ev 999 40 args s) else none
noncomputable def evP : Nat → Calls' := evF noGl (tableOf Try.prog) extP
noncomputable def h18 (args : List AV) (s : St) : Option (AV × St) := rawR M1018.res (evC noGl (evP 999) 999 M1018.body (env0 M1018.ntmps args) s)
noncomputable def extZ (f : Nat) : Option (List AV → St → Option (AV × St)) := if f = 18 then some h18 else none
noncomputable def evZ : Nat → Calls' := evF noGl (tableOf Try.prog) extZ
theorem evP37 (args : List AV) (s : St) : evP 999 37 args s = h37 args s := rfl
theorem evP19 (args : List AV) (s : St) : evP 999 19 args s = ev 999 19 args s := rfl
theorem evP20 (args : List AV) (s : St) : evP 999 20 args s = ev 999 20 args s := rfl
theorem evP36 (args : List AV) (s : St) : evP 999 36 args s = ev 999 36 args s := rfl
theorem evP35 (args : List AV) (s : St) : evP 999 35 args s = ev 999 35 args s := rfl
theorem evP40 (args : List AV) (s : St) : evP 999 40 args s = ev 999 40 args s := rfl
theorem there19 : (tableOf Try.prog 19).isSome = true := by kernel_rfl
theorem good19 : GoodFn Try.prog noGl 19 fun args s => ev 999 19 args s := by
  obtain ⟨m, hm⟩ := Option.isSome_iff_exists.1 there19
  exact good_ev (tableOf_ok _) ext0 mixed hm 999
theorem extP_ok : ∀ w0, ExtOk Try.prog noGl w0 extP := extOk_of fun f x hf => by
  unfold extP at hf
  split at hf
  · rename_i e; subst e; cases hf; exact good37
  split at hf
  · rename_i e; subst e; cases hf; exact good19
  split at hf
  · rename_i e; subst e; cases hf; exact good_ev (tableOf_ok _) ext0 mixed tab20 999
  split at hf
  · rename_i e; subst e; cases hf; exact good_ev (tableOf_ok _) ext0 mixed tab36 999
  split at hf
  · rename_i e; subst e; cases hf; exact good_ev (tableOf_ok _) ext0 mixed tab35 999
  split at hf
  · rename_i e; subst e; cases hf; exact good_ev (tableOf_ok _) ext0 mixed tab40 999
  · cases hf
theorem good18 : GoodFn Try.prog noGl 18 h18 := good_raw (tableOf_ok _) extP_ok mixed Try.func18 tabH18 (by kernel_rfl) 999
theorem extZ_ok : ∀ w0, ExtOk Try.prog noGl w0 extZ := extOk_of fun f x hf => by
  unfold extZ at hf
  split at hf
  · rename_i e; subst e; have hx := Option.some.inj hf; rw [← hx]; exact good18
  · cases hf
theorem evZ_ok (w0 : World) (k : Nat) : CallOk Try.prog noGl w0 (evZ k) := evF_sound (tableOf_ok _) (extZ_ok w0) mixed k
def E18 (y0 : AV) (p : Nat) (gv : AV) (len i : Int) : Env := [y0, .undef, .undef, .undef, .ptr p 0, gv, .undef, .undef, .undef, .undef, .undef, .undef, .undef, .undef, .undef, .undef, .undef, .undef, .undef, .undef, .int .i64 len, .int .i64 i, .undef, .undef, .undef, .undef, .undef, .undef, .undef, .undef, .undef, .undef, .undef, .undef, .undef, .undef, .undef, .undef, .undef, .undef, .undef, .undef, .undef, .undef, .undef, .undef, .undef, .undef, .undef, .undef, .undef, .undef, .undef, .undef, .undef, .undef, .undef, .undef, .undef, .undef, .undef]
def E18i (y0 : AV) (p : Nat) (gv : AV) (len i : Int) (b n : Nat) (k : Int) : Env := [y0, .undef, .undef, .undef, .ptr p 0, gv, .undef, .hs 1 b 0 n, .undef, .undef, .undef, .undef, .undef, .undef, .undef, .undef, .undef, .undef, .undef, .undef, .int .i64 len, .int .i64 i, .undef, .undef, .undef, .undef, .undef, .undef, .undef, .undef, .undef, .undef, .undef, .undef, .undef, .undef, .undef, .undef, .undef, .undef, .undef, .undef, .undef, .undef, .undef, .int .i64 (n : Nat), .int .i64 k, .undef, .undef, .undef, .undef, .undef, .undef, .undef, .undef, .undef, .undef, .undef, .undef, .undef, .undef]
def X18i (y0 : AV) (p : Nat) (gv : AV) (len i : Int) (b n : Nat) : Env := [y0, .undef, .undef, .undef, .ptr p 0, gv, .undef, .hs 1 b 0 n, .undef, .undef, .undef, .undef, .undef, .undef, .undef, .undef, .undef, .undef, .undef, .undef, .int .i64 len, .int .i64 i, .undef, .undef, .undef, .undef, .undef, .undef, .undef, .undef, .undef, .undef, .undef, .undef, .undef, .undef, .undef, .undef, .undef, .undef, .undef, .undef, .undef, .undef, .undef, .int .i64 (n : Nat), .int .i64 (n : Nat), .bool false, .undef, .undef, .undef, .undef, .undef, .undef, .undef, .undef, .undef, .undef, .undef, .undef, .undef]
/-- The caller turns what was told. -/
theorem flipL (y0 : AV) (p : Nat) (gv : AV) (len i : Int) (b : Nat) (f : List UInt8) (hf : f.length ≤ 300) (S : St) (h : Has S b f) (e : Env) (he : maskE M1018b0l e = E18i y0 p gv len i b f.length 0) :
    ∃ S', iter (evC noGl (evP 999) 999 M1018b0) M1018b0l 999 e S = some (.exit 2, X18i y0 p gv len i b f.length, S') ∧ S'.next = S.next ∧ ∀ q, q ≠ b → S'.get q = S.get q := by
  refine iter_leave (evC noGl (evP 999) 999 M1018b0) M1018b0l (fun k e S' => maskE M1018b0l e = E18i y0 p gv len i b f.length (k : Nat) ∧ (∃ zs, zs.length = f.length ∧ Has S' b zs) ∧ S'.next = S.next ∧ ∀ q, q ≠ b → S'.get q = S.get q)
    (fun out => ∃ S', out = some (.exit 2, X18i y0 p gv len i b f.length, S') ∧ S'.next = S.next ∧ ∀ q, q ≠ b → S'.get q = S.get q) f.length ?_ ?_ f.length 0 _ _ 999 (by omega) ⟨he, ⟨f, rfl, h⟩, rfl, fun _ _ => rfl⟩ (by omega)
  · rintro k e S' hk ⟨h1, ⟨zs, hz, hH⟩, h3, h4⟩
    rw [h1]
    left
    have q1 : ((k : Int) < ((f.length : Nat) : Int)) = True := eq_true (by omega)
    have w1 : IntKind.i64.wrap ((k : Int) + 1) = ((k + 1 : Nat) : Int) := (wrapI _ (by omega) (by omega)).trans (by omega)
    have i1 := hs_ixa b f.length k hk
    have ld := hH.load k (by omega)
    have st := hH.store k (by omega) (zs[k] ^^^ 255)
    have xr : binV .xor (u8v zs[k]) (.int .u8 255) = some (u8v (zs[k] ^^^ 255)) := b8_xor zs[k] 255
    unfold u8v at ld st xr
    suffices hs : ∃ e', evC noGl (evP 999) 999 M1018b0 (E18i y0 p gv len i b f.length (k : Nat)) S' = some (.nrm, e', S'.upd b (.cells 1 (bytesAV (zs.set k (zs[k] ^^^ 255))))) ∧ maskE M1018b0l e' = E18i y0 p gv len i b f.length ((k + 1 : Nat) : Int) by
      obtain ⟨e', g1, g2⟩ := hs
      exact ⟨e', _, g1, g2, ⟨_, by simp [hz], hH.upd _⟩, h3, fun q hq => (get_upd_ne _ _ hq).trans (h4 q hq)⟩
    simp only [M1018b0, E18i, q1, w1, i1, ld, st, xr, env0, List.length_cons, List.length_nil, Nat.reduceAdd, Nat.reduceSub, List.replicate, List.cons_append, List.nil_append, evC_seq, evC_reg, evC_skip, evC_exit, evC_ret, evC_block, evC_condX, condX_true, condX_false, evOps_nil, evOps_one, contR_some, evOps_gd, gdR_tt, gdR_ft, gdR_tf, gdR_ff, gdR_un, bq_true, bq_false, ev1_mv, ev1_pick, ev1_bin, ev1_eqv, ev1_un, un_not, ev1_mki, ev1_slc, ev1_lenV, ev1_ixaV, ev1_appV, ev1_load, ev1_call, ev1_mn, ev1_mx, ev1_conv, ev1_alloc, ev1_storeV, ev1_bslR, bslR_sl, bslR_hs, fill_nil, fill_cons, fill1_u8a, fill1_u8b, fill1_ca, fill1_cb, thenO_some, loadR_rp, opd, Env.put, Env.at, seqR_nrm, seqR_exit, seqR_ret, regR_some, List.set_cons_zero, List.set_cons_succ, List.getD_cons_zero, List.getD_cons_succ, pR_some, wR_some, callR_some, freezeL, freeze_int, freeze_bool, freeze_str, freeze_u16, freeze_u8, freeze_ptr, freeze_nils, boolR_true, boolR_false, blockR_nrm, blockR_exit, blockR_ret, outR_ret, outR_nrm, resVs, resV_tmp, oneOr, Option.map_some, Option.map_none, List.map_cons, List.map_nil, if_true, if_false, Bool.not_true, Bool.not_false, Bool.false_eq_true, reduceIte, decide_true, decide_false, i64_lss, i64_leq, i64_gtr, i64_geq, i64_eql, i64_neq, i64_add, i64_sub]
    exact ⟨_, rfl, rfl⟩
  · rintro e S' ⟨h1, _, h3, h4⟩
    rw [h1]
    have q1 : (((f.length : Nat) : Int) < ((f.length : Nat) : Int)) = False := eq_false (by omega)
    have hx : evC noGl (evP 999) 999 M1018b0 (E18i y0 p gv len i b f.length (f.length : Nat)) S' = some (.exit 2, X18i y0 p gv len i b f.length, S') := by
      simp only [M1018b0, E18i, X18i, q1, env0, List.length_cons, List.length_nil, Nat.reduceAdd, Nat.reduceSub, List.replicate, List.cons_append, List.nil_append, evC_seq, evC_reg, evC_skip, evC_exit, evC_ret, evC_block, evC_condX, condX_true, condX_false, evOps_nil, evOps_one, contR_some, evOps_gd, gdR_tt, gdR_ft, gdR_tf, gdR_ff, gdR_un, bq_true, bq_false, ev1_mv, ev1_pick, ev1_bin, ev1_eqv, ev1_un, un_not, ev1_mki, ev1_slc, ev1_lenV, ev1_ixaV, ev1_appV, ev1_load, ev1_call, ev1_mn, ev1_mx, ev1_conv, ev1_alloc, ev1_storeV, ev1_bslR, bslR_sl, bslR_hs, fill_nil, fill_cons, fill1_u8a, fill1_u8b, fill1_ca, fill1_cb, thenO_some, loadR_rp, opd, Env.put, Env.at, seqR_nrm, seqR_exit, seqR_ret, regR_some, List.set_cons_zero, List.set_cons_succ, List.getD_cons_zero, List.getD_cons_succ, pR_some, wR_some, callR_some, freezeL, freeze_int, freeze_bool, freeze_str, freeze_u16, freeze_u8, freeze_ptr, freeze_nils, boolR_true, boolR_false, blockR_nrm, blockR_exit, blockR_ret, outR_ret, outR_nrm, resVs, resV_tmp, oneOr, Option.map_some, Option.map_none, List.map_cons, List.map_nil, if_true, if_false, Bool.not_true, Bool.not_false, Bool.false_eq_true, reduceIte, decide_true, decide_false, i64_lss, i64_leq, i64_gtr, i64_geq, i64_eql, i64_neq, i64_add, i64_sub]
    rw [hx]
    exact ⟨⟨S', rfl, h3, h4⟩, fun _ _ h => by cases h⟩
def rx50 (xs : List UInt8) (i : Nat) : RxSt := (xs.take i).foldl rxStep (rxNew 50, [])
theorem rx50_succ (xs : List UInt8) (i : Nat) (hi : i < xs.length) : rx50 xs (i + 1) = rxStep (rx50 xs i) xs[i] := by
  unfold rx50
  rw [List.take_succ_eq_append_getElem hi, List.foldl_append]
  rfl
theorem rxPut_len (r : RxS) (x : UInt8) : (rxPut r x).1.b.length ≤ r.b.length + 1 := by
  unfold rxPut rxShut rxMore
  repeat' split
  all_goals simp
theorem rxPut_out (r : RxS) (x : UInt8) : (rxPut r x).2.1.length ≤ r.b.length := by
  unfold rxPut rxShut rxMore rxEnds
  repeat' split
  all_goals simp
theorem rx50_len (xs : List UInt8) : ∀ i, i ≤ xs.length → (rx50 xs i).1.b.length ≤ i := by
  intro i
  induction i with
  | zero => intro _; simp [rx50, rxNew]
  | succ i ih =>
    intro hi
    have := ih (by omega)
    rw [rx50_succ xs i (by omega)]
    have h2 := rxPut_len (rx50 xs i).1 xs[i]
    show (rxPut (rx50 xs i).1 xs[i]).1.b.length ≤ i + 1
    omega
theorem RxAt.keepB {s s' : St} {p t b : Nat} {r : RxS} (h : RxAt s p r t) {cs : List AV} (hb : s.get b = some (.cells 1 cs)) (hp : b ≠ p) (hn : s'.next = s.next) (hs : ∀ q, q ≠ b → s'.get q = s.get q) : RxAt s' p r t := by
  obtain ⟨ob, h1, h2, h4, h5⟩ := h
  refine ⟨ob, (hs p (Ne.symm hp)).trans h1, ?_, by omega, by omega⟩
  rcases h2 with h2 | ⟨v, q1, q0, q2⟩
  · exact .inl h2
  · refine .inr ⟨v, q1, by omega, ?_⟩
    rw [hs t (fun e => by subst e; rw [hb] at q2; cases q2)]
    exact q2
/-- What holds ahead of each byte. -/
def PI (S : St) (p : Nat) (gv : AV) (xs : List UInt8) (i : Nat) : Prop :=
  ∃ t ys, RxAt S p (rx50 xs i).1 t ∧ GrowAt S gv ys ∧ AllBys ys (rx50 xs i).2 ∧ ys.length ≤ i ∧ ∀ j, tkOf gv j → j ≠ p ∧ j ≠ t
theorem round18 (y0 : AV) (xs : List UInt8) (hy : Bys y0 xs) (hl : xs.length ≤ 200) (p : Nat) (S : St) (gv : AV) (i : Nat) (hi : i < xs.length) (h : PI S p gv xs i) :
    ∃ e' S' gv', evC noGl (evP 999) 999 M1018b1 (E18 y0 p gv (xs.length : Nat) (i : Nat)) S = some (.nrm, e', S') ∧ maskE M1018b1l e' = E18 y0 p gv' (xs.length : Nat) ((i + 1 : Nat) : Int) ∧ PI S' p gv' xs (i + 1) := by
  obtain ⟨t, ys, h1, h2, h3, h4, h5⟩ := h
  have q1 : ((i : Int) < ((xs.length : Nat) : Int)) = True := eq_true (by omega)
  have w1 : IntKind.i64.wrap ((i : Int) + 1) = ((i + 1 : Nat) : Int) := (wrapI _ (by omega) (by omega)).trans (by omega)
  have i1 := hy.ixa i hi
  have i2 : Ab.cut (bytesAV (xs.drop i)) 0 none = some (u8v xs[i]) := cut_bytes xs i hi
  have hm : (rx50 xs i).1.most ≤ 200 := by
    unfold rx50
    rw [rxFold_most]
    exact rxMost_le 50
  have hbl := rx50_len xs i (by omega)
  obtain ⟨y, s1, t', e1, e2, e3, e4, e5⟩ := rxPut_raw h1 xs[i] (by omega) hm
  have hp : p < S.next := by obtain ⟨_, _, _, hp, _⟩ := h1; exact hp
  rw [← evP37] at e1
  have hstep : rx50 xs (i + 1) = ((rxPut (rx50 xs i).1 xs[i]).1, if ((rxPut (rx50 xs i).1 xs[i]).2.2.2 && (rxPut (rx50 xs i).1 xs[i]).2.2.1 == 0) = true then (rx50 xs i).2 ++ [(rxPut (rx50 xs i).1 xs[i]).2.1] else (rx50 xs i).2) := by
    rw [rx50_succ xs i hi]
    rfl
  have fl : (rxPut (rx50 xs i).1 xs[i]).2.1.length ≤ 300 := Nat.le_trans (rxPut_out _ _) (by omega)
  have hmore := rxStep_more (rx50 xs i) xs[i]
  rw [← rx50_succ xs i hi, hstep] at hmore
  have g1 : GrowAt s1 gv ys := h2.mono e5.le fun j hj => e5.get j (h2.lt hj) (h5 j hj).1 (h5 j hj).2
  have ht5 : ∀ j, tkOf gv j → j ≠ t' := fun j hj e => by
    rcases e4 with e4 | e4
    · exact (h5 j hj).2 (e.trans e4)
    · have := h2.lt hj; omega
  unfold PI
  rw [hstep]
  generalize rxPut (rx50 xs i).1 xs[i] = q at *
  obtain ⟨r', f, er, ok⟩ := q
  simp only at e1 e2 e3 hmore ⊢
  by_cases hc : (ok && er == 0) = true
  · simp only [Bool.and_eq_true, beq_iff_eq] at hc
    obtain ⟨rfl, rfl⟩ := hc
    obtain ⟨m, m1, m2⟩ := hmore
    simp only [Bool.true_and, beq_self_eq_true, if_true, List.append_cancel_left_eq] at m1
    have hfn : f ≠ [] := m2 f (by rw [← m1]; simp)
    rcases e2 with ⟨_, e2⟩ | ⟨b, rfl, hH, hb1, hb2⟩
    · exact absurd e2 hfn
    have hn1 : newsOf 1 s1 (.hs 1 b 0 f.length) = some (bytesAV f, f.length) := by
      unfold Has at hH
      simp only [newsOf, hH]
      rw [if_pos ⟨trivial, by simp [bytesAV_length]⟩, take_all]
    have hfl : f.length ≠ 0 := fun e => hfn (List.length_eq_zero_iff.1 e)
    have hf3 : f.length ≤ 300 := by
      have : f.length ≤ 300 := fl
      exact this
    have a1 : appV false 1 1 s1 .nils (.hs 1 b 0 f.length) = some (.sl (bytesAV f) f.length (some (s1.next, 0, 1)), s1.new (.tick 1 0)) := by
      simp only [appV, hn1, Bool.false_and, Bool.false_eq_true, if_false, appS]
      rw [if_neg hfl, if_pos (fits_small (by omega))]
    have x3 : Ext s1 ((s1.new (.tick 1 0)).new (.tick 1 0)) := ((Ext.refl s1).new _).new _
    have n3 : ((s1.new (.tick 1 0)).new (.tick 1 0)).next = s1.next + 2 := rfl
    obtain ⟨gv', s4, b1, b2, b3, b4, b5⟩ := growN (by_ := 24) (by omega) (g1.ext x3) (y := .sl [.sl (bytesAV f) f.length (some (s1.next, 0, 1))] 1 (some ((s1.new (.tick 1 0)).next, 0, 1))) (news := [.sl (bytesAV f) f.length (some (s1.next, 0, 1))]) rfl (by simp; omega)
    have nb : ¬ tkOf gv b := fun hk => by have := h2.lt hk; omega
    have np : ¬ tkOf gv p := fun hk => (h5 p hk).1 rfl
    have gl : ∀ q, q < s1.next → ¬ tkOf gv q → s4.get q = s1.get q := fun q hq hn => (b4 q (by omega) hn).trans (x3.get q hq)
    have hH4 : Has s4 b f := (gl b hb2 nb).trans hH
    obtain ⟨s5, c1, c2, c3⟩ := flipL y0 p gv' (xs.length : Nat) (i : Nat) b f hf3 s4 hH4 (E18i y0 p gv' (xs.length : Nat) (i : Nat) b f.length 0) rfl
    have c1' : ∀ e, maskE M1018b0l e = maskE M1018b0l (E18i y0 p gv' (xs.length : Nat) (i : Nat) b f.length 0) → iter (evC noGl (evP 999) 999 M1018b0) M1018b0l 999 e s4 = some (.exit 2, X18i y0 p gv' (xs.length : Nat) (i : Nat) b f.length, s5) := fun e he => by
      rw [iter_mask _ _ _ _ _ _ he]; exact c1
    have f1 : ∀ cs n tk, fill1 [.nils] 0 1 (.sl cs n tk) = some [.sl cs n tk] := fun _ _ _ => rfl
    have lnH : lenV (.hs 1 b 0 f.length) = some (.int .i64 (f.length : Nat)) := rfl
    have z0 : (((0 : Nat) : Int) == 0) = true := rfl
    have hR4 : RxAt s4 p r' t' := by
      obtain ⟨ob, r1, r2, r3, r4⟩ := e3
      refine ⟨ob, (gl p r3 np).trans r1, r2.keep (by omega) (fun v hv => (gl t' r4 (fun hk => ht5 t' hk rfl)).trans hv), by omega, by omega⟩
    suffices hs : ∃ e', evC noGl (evP 999) 999 M1018b1 (E18 y0 p gv (xs.length : Nat) (i : Nat)) S = some (.nrm, e', s5) ∧ maskE M1018b1l e' = E18 y0 p gv' (xs.length : Nat) ((i + 1 : Nat) : Int) by
      obtain ⟨e', g1', g2'⟩ := hs
      refine ⟨e', s5, gv', g1', g2', t', ys ++ [.sl (bytesAV f) f.length (some (s1.next, 0, 1))], hR4.keepB hH4 (by omega) c2 c3, b2.mono (by omega) (fun j hj => c3 j ?_), ?_, by simp; omega, fun j hj => ?_⟩
      · rcases b5 j hj with hk | hk
        · have := h2.lt hk; omega
        · omega
      · simp only [Bool.true_and, beq_self_eq_true, if_true]
        exact h3.snoc (Bys.mk f _)
      · rcases b5 j hj with hk | hk
        · exact ⟨(h5 j hk).1, ht5 j hk⟩
        · obtain ⟨ob, r1, r2, r3, r4⟩ := e3
          exact ⟨by omega, by omega⟩
    simp only [M1018b1, E18, q1, w1, i1, i2, e1, z0, a1, f1, b1, lnH, loadR_rp, ev1_extV, extV_tup, evC_loop, env0, List.length_cons, List.length_nil, Nat.reduceAdd, Nat.reduceSub, List.replicate, List.cons_append, List.nil_append, evC_seq, evC_reg, evC_skip, evC_exit, evC_ret, evC_block, evC_condX, condX_true, condX_false, evOps_nil, evOps_one, contR_some, evOps_gd, gdR_tt, gdR_ft, gdR_tf, gdR_ff, gdR_un, bq_true, bq_false, ev1_mv, ev1_pick, ev1_bin, ev1_eqv, ev1_un, un_not, ev1_mki, ev1_slc, ev1_lenV, ev1_ixaV, ev1_appV, ev1_load, ev1_call, ev1_mn, ev1_mx, ev1_conv, ev1_alloc, ev1_storeV, ev1_bslR, bslR_sl, bslR_hs, fill_nil, fill_cons, fill1_u8a, fill1_u8b, fill1_ca, fill1_cb, thenO_some, loadR_rp, opd, Env.put, Env.at, seqR_nrm, seqR_exit, seqR_ret, regR_some, List.set_cons_zero, List.set_cons_succ, List.getD_cons_zero, List.getD_cons_succ, pR_some, wR_some, callR_some, freezeL, freeze_int, freeze_bool, freeze_str, freeze_u16, freeze_u8, freeze_ptr, freeze_nils, boolR_true, boolR_false, blockR_nrm, blockR_exit, blockR_ret, outR_ret, outR_nrm, resVs, resV_tmp, oneOr, Option.map_some, Option.map_none, List.map_cons, List.map_nil, if_true, if_false, Bool.not_true, Bool.not_false, Bool.false_eq_true, reduceIte, decide_true, decide_false, i64_lss, i64_leq, i64_gtr, i64_geq, i64_eql, i64_neq, i64_add, i64_sub, load_ptr, ldV_some, cellAt_cells, List.getElem?_cons_zero, List.getElem?_cons_succ, store_ptr, stO_some, setAt_0, setAt_1, setAt_2, setAt_3, setAt_4, setAt_5, setAt_6, setAt_7, setAt_8, setAt_9, setAt_10, setAt_11, setAt_12, cells_int, cells_bool, cells_str, cells_nils, cells_nilp, cells_ptr, cells_sl, cells_u8, cells_u16, cells_agg, get_upd_is, Option.isSome_some, upd_upd, ev1_nchkV, ev1_faV, nchkV_ptr, faV_ptr, ev1_extV, extV_tup, eqptr_nil, eqptr_ptr, Nat.zero_add, Nat.add_zero]
    rw [c1']
    rotate_left
    · rfl
    dsimp only [X18i]
    simp only [w1, env0, List.length_cons, List.length_nil, Nat.reduceAdd, Nat.reduceSub, List.replicate, List.cons_append, List.nil_append, evC_seq, evC_reg, evC_skip, evC_exit, evC_ret, evC_block, evC_condX, condX_true, condX_false, evOps_nil, evOps_one, contR_some, evOps_gd, gdR_tt, gdR_ft, gdR_tf, gdR_ff, gdR_un, bq_true, bq_false, ev1_mv, ev1_pick, ev1_bin, ev1_eqv, ev1_un, un_not, ev1_mki, ev1_slc, ev1_lenV, ev1_ixaV, ev1_appV, ev1_load, ev1_call, ev1_mn, ev1_mx, ev1_conv, ev1_alloc, ev1_storeV, ev1_bslR, bslR_sl, bslR_hs, fill_nil, fill_cons, fill1_u8a, fill1_u8b, fill1_ca, fill1_cb, thenO_some, loadR_rp, opd, Env.put, Env.at, seqR_nrm, seqR_exit, seqR_ret, regR_some, List.set_cons_zero, List.set_cons_succ, List.getD_cons_zero, List.getD_cons_succ, pR_some, wR_some, callR_some, freezeL, freeze_int, freeze_bool, freeze_str, freeze_u16, freeze_u8, freeze_ptr, freeze_nils, boolR_true, boolR_false, blockR_nrm, blockR_exit, blockR_ret, outR_ret, outR_nrm, resVs, resV_tmp, oneOr, Option.map_some, Option.map_none, List.map_cons, List.map_nil, if_true, if_false, Bool.not_true, Bool.not_false, Bool.false_eq_true, reduceIte, decide_true, decide_false, i64_lss, i64_leq, i64_gtr, i64_geq, i64_eql, i64_neq, i64_add, i64_sub]
    exact ⟨_, rfl, rfl⟩
  · have hc' : (ok && er == 0) = false := by simpa using hc
    suffices hs : ∃ e', evC noGl (evP 999) 999 M1018b1 (E18 y0 p gv (xs.length : Nat) (i : Nat)) S = some (.nrm, e', s1) ∧ maskE M1018b1l e' = E18 y0 p gv (xs.length : Nat) ((i + 1 : Nat) : Int) by
      obtain ⟨e', g1', g2'⟩ := hs
      refine ⟨e', s1, gv, g1', g2', t', ys, e3, g1, ?_, by omega, fun j hj => ⟨(h5 j hj).1, ht5 j hj⟩⟩
      rw [if_neg hc]
      exact h3
    cases ok with
    | false =>
      simp only [M1018b1, E18, q1, w1, i1, i2, e1, loadR_rp, ev1_extV, extV_tup, env0, List.length_cons, List.length_nil, Nat.reduceAdd, Nat.reduceSub, List.replicate, List.cons_append, List.nil_append, evC_seq, evC_reg, evC_skip, evC_exit, evC_ret, evC_block, evC_condX, condX_true, condX_false, evOps_nil, evOps_one, contR_some, evOps_gd, gdR_tt, gdR_ft, gdR_tf, gdR_ff, gdR_un, bq_true, bq_false, ev1_mv, ev1_pick, ev1_bin, ev1_eqv, ev1_un, un_not, ev1_mki, ev1_slc, ev1_lenV, ev1_ixaV, ev1_appV, ev1_load, ev1_call, ev1_mn, ev1_mx, ev1_conv, ev1_alloc, ev1_storeV, ev1_bslR, bslR_sl, bslR_hs, fill_nil, fill_cons, fill1_u8a, fill1_u8b, fill1_ca, fill1_cb, thenO_some, loadR_rp, opd, Env.put, Env.at, seqR_nrm, seqR_exit, seqR_ret, regR_some, List.set_cons_zero, List.set_cons_succ, List.getD_cons_zero, List.getD_cons_succ, pR_some, wR_some, callR_some, freezeL, freeze_int, freeze_bool, freeze_str, freeze_u16, freeze_u8, freeze_ptr, freeze_nils, boolR_true, boolR_false, blockR_nrm, blockR_exit, blockR_ret, outR_ret, outR_nrm, resVs, resV_tmp, oneOr, Option.map_some, Option.map_none, List.map_cons, List.map_nil, if_true, if_false, Bool.not_true, Bool.not_false, Bool.false_eq_true, reduceIte, decide_true, decide_false, i64_lss, i64_leq, i64_gtr, i64_geq, i64_eql, i64_neq, i64_add, i64_sub, load_ptr, ldV_some, cellAt_cells, List.getElem?_cons_zero, List.getElem?_cons_succ, store_ptr, stO_some, setAt_0, setAt_1, setAt_2, setAt_3, setAt_4, setAt_5, setAt_6, setAt_7, setAt_8, setAt_9, setAt_10, setAt_11, setAt_12, cells_int, cells_bool, cells_str, cells_nils, cells_nilp, cells_ptr, cells_sl, cells_u8, cells_u16, cells_agg, get_upd_is, Option.isSome_some, upd_upd, ev1_nchkV, ev1_faV, nchkV_ptr, faV_ptr, ev1_extV, extV_tup, eqptr_nil, eqptr_ptr, Nat.zero_add, Nat.add_zero]
      exact ⟨_, rfl, rfl⟩
    | true =>
      have z1 : (((er : Nat) : Int) == 0) = false := by
        simp only [Bool.true_and, beq_eq_false_iff_ne, ne_eq] at hc'
        exact beq_eq_false_iff_ne.2 (by omega)
      simp only [M1018b1, E18, q1, w1, i1, i2, e1, z1, loadR_rp, ev1_extV, extV_tup, env0, List.length_cons, List.length_nil, Nat.reduceAdd, Nat.reduceSub, List.replicate, List.cons_append, List.nil_append, evC_seq, evC_reg, evC_skip, evC_exit, evC_ret, evC_block, evC_condX, condX_true, condX_false, evOps_nil, evOps_one, contR_some, evOps_gd, gdR_tt, gdR_ft, gdR_tf, gdR_ff, gdR_un, bq_true, bq_false, ev1_mv, ev1_pick, ev1_bin, ev1_eqv, ev1_un, un_not, ev1_mki, ev1_slc, ev1_lenV, ev1_ixaV, ev1_appV, ev1_load, ev1_call, ev1_mn, ev1_mx, ev1_conv, ev1_alloc, ev1_storeV, ev1_bslR, bslR_sl, bslR_hs, fill_nil, fill_cons, fill1_u8a, fill1_u8b, fill1_ca, fill1_cb, thenO_some, loadR_rp, opd, Env.put, Env.at, seqR_nrm, seqR_exit, seqR_ret, regR_some, List.set_cons_zero, List.set_cons_succ, List.getD_cons_zero, List.getD_cons_succ, pR_some, wR_some, callR_some, freezeL, freeze_int, freeze_bool, freeze_str, freeze_u16, freeze_u8, freeze_ptr, freeze_nils, boolR_true, boolR_false, blockR_nrm, blockR_exit, blockR_ret, outR_ret, outR_nrm, resVs, resV_tmp, oneOr, Option.map_some, Option.map_none, List.map_cons, List.map_nil, if_true, if_false, Bool.not_true, Bool.not_false, Bool.false_eq_true, reduceIte, decide_true, decide_false, i64_lss, i64_leq, i64_gtr, i64_geq, i64_eql, i64_neq, i64_add, i64_sub, load_ptr, ldV_some, cellAt_cells, List.getElem?_cons_zero, List.getElem?_cons_succ, store_ptr, stO_some, setAt_0, setAt_1, setAt_2, setAt_3, setAt_4, setAt_5, setAt_6, setAt_7, setAt_8, setAt_9, setAt_10, setAt_11, setAt_12, cells_int, cells_bool, cells_str, cells_nils, cells_nilp, cells_ptr, cells_sl, cells_u8, cells_u16, cells_agg, get_upd_is, Option.isSome_some, upd_upd, ev1_nchkV, ev1_faV, nchkV_ptr, faV_ptr, ev1_extV, extV_tup, eqptr_nil, eqptr_ptr, Nat.zero_add, Nat.add_zero]
      exact ⟨_, rfl, rfl⟩
end Go.Proofs.Ytghfinbdgnggjaa
