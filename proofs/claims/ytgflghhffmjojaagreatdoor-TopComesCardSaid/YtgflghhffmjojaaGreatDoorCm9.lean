/- TopComes: the pieces put together. No conditions. -/
import Derived.Test.YtgflghhffmjojaaGreatDoorCm0
set_option linter.unusedVariables false
set_option linter.unusedSimpArgs false
set_option maxRecDepth 100000
namespace Go.Proofs.YtgflghhffmjojaaGreatDoor.comes
open Go Go.Ab
theorem live2 : M7b2l.length = 89 := by decide
theorem live3 : M7b3l.length = 89 := by decide
theorem no_log {G : List AV → Prop} : ∀ a ∈ ([] : List (List AV)), G a := fun a h => by cases h
abbrev T0 : List AV → Prop := fun _ => True
theorem fv_sim (c : MC) {E : List AV} {N : Nat} {B : List (Nat × Ab.Obj)} {e : Env} {s : St} (h : RE 89 (envK E 0) e) : SimO T0 89 (mkS N B) s (fv7 c E N B) (cv c e s) :=
  code_sim (fQ_sim 599) 599 c _ e _ s h
theorem fr_sim (m : Nat) {E : List AV} {N : Nat} {B : List (Nat × Ab.Obj)} {e : Env} {s : St} (h : RE 89 (envK E 0) e) : SimO T0 89 (mkS N B) s (fr7 m E N B) (evRep (cv M7b2) M7b2l m e s) :=
  rep_sim live2 (fun E' e' S' s' hE => code_sim (fQ_sim 599) 599 M7b2 E' e' S' s' hE) m _ e _ s h
theorem rep_mask {g : Env → St → Out} {live : List Bool} (m : Nat) (e : Env) (s : St) : evRep g live (m + 1) (maskE live e) s = evRep g live (m + 1) e s := by
  show seqR (g (maskE live (maskE live e)) s) _ = seqR (g (maskE live e) s) _
  rw [mask_mask]
theorem iter1 {c : MC} {l : List Bool} {k : Nat} {e e' : Env} {s s' : St} (h : cv c (maskE l e) s = some (.nrm, e', s')) : iter (cv c) l (k + 1) e s = iter (cv c) l k e' s' := by
  show seqR (cv c (maskE l e) s) (iter (cv c) l k) = _
  rw [h]; rfl
theorem iter2 {c : MC} {l : List Bool} {k i : Nat} {e e' : Env} {s s' : St} (h : cv c (maskE l e) s = some (.exit i, e', s')) : iter (cv c) l (k + 1) e s = some (.exit i, e', s') := by
  show seqR (cv c (maskE l e) s) (iter (cv c) l k) = _
  rw [h]; rfl
theorem b3_eq : M7b3 = .seq dA (.seq (.block 3 (.seq d1 (.seq d2 (.seq (.seq d3 (.block 4 (.loop M7b2l M7b2))) M7r2)))) M7r0) := rfl
theorem a1 (a b c : MC) (e : Env) (s : St) : cv (.seq a (.seq b c)) e s = seqR (cv (.seq a b) e s) (cv c) := (seqR_assoc (cv a e s) (cv b) (cv c)).symm
/-- One round. -/
theorem round {Ek Ea Ef Eg Eh Ex Ey Ez : List AV} {Nk Na Nf Ng Nh Nx Ny Nz : Nat} {Bk Ba Bf Bg Bh Bx By Bz : List (Nat × Ab.Obj)}
    (ha : (fv7 dA Ek Nk Bk).seen 89 (Ba.map (·.1)) = some (.nrm, Ea, Na, Ba.map (fun p => some p.2), []))
    (hf : (fv7 (.seq (.seq d1 d2) d3) Ea Na Ba).seenK M7b2l 89 (Bf.map (·.1)) = some (.nrm, Ef, Nf, Bf.map (fun p => some p.2), []))
    (hg : (fr7 45 Ef Nf Bf).seenK M7b2l 89 (Bg.map (·.1)) = some (.nrm, Eg, Ng, Bg.map (fun p => some p.2), []))
    (hh : (fr7 45 Eg Ng Bg).seenK M7b2l 89 (Bh.map (·.1)) = some (.nrm, Eh, Nh, Bh.map (fun p => some p.2), []))
    (hx : (fv7 M7b2 Eh Nh Bh).seen 89 (Bx.map (·.1)) = some (.exit 4, Ex, Nx, Bx.map (fun p => some p.2), []))
    (hy : (fv7 M7r2 Ex Nx Bx).seen 89 (By.map (·.1)) = some (.nrm, Ey, Ny, By.map (fun p => some p.2), []))
    (hz : (fv7 M7r0 Ey Ny By).seenK M7b3l 89 (Bz.map (·.1)) = some (.nrm, Ez, Nz, Bz.map (fun p => some p.2), []))
    {e : Env} {s : St} (hE : RE 89 (envK Ek 0) e) (hS : RS (mkS Nk Bk) s) : ∃ e' s', cv M7b3 e s = some (.nrm, e', s') ∧ RE 89 (envK Ez 0) (maskE M7b3l e') ∧ RS (mkS Nz Bz) s' := by
  obtain ⟨e1, s1, q1, r1, t1⟩ := seen_use (fv_sim dA hE) ha no_log hS
  obtain ⟨e2, s2, q2, r2, t2⟩ := seenK_use (fv_sim (.seq (.seq d1 d2) d3) r1) live2 hf no_log t1
  obtain ⟨e3, s3, q3, r3, t3⟩ := seenK_use (fr_sim 45 r2) live2 hg no_log t2
  obtain ⟨e4, s4, q4, r4, t4⟩ := seenK_use (fr_sim 45 r3) live2 hh no_log t3
  obtain ⟨e5, s5, q5, r5, t5⟩ := seen_use (fv_sim M7b2 r4) hx no_log t4
  obtain ⟨e6, s6, q6, r6, t6⟩ := seen_use (fv_sim M7r2 r5) hy no_log t5
  obtain ⟨e7, s7, q7, r7, t7⟩ := seenK_use (fv_sim M7r0 r6) live3 hz no_log t6
  refine ⟨e7, s7, ?_, r7, t7⟩
  rw [rep_mask 44] at q3 q4
  have hl : iter (cv M7b2) M7b2l 599 e2 s2 = some (.exit 4, e5, s5) := by
    rw [show (599 : Nat) = 45 + 554 from rfl, iter_rep 45 554 e2 e3 s2 s3 q3, show (554 : Nat) = 45 + 509 from rfl, iter_rep 45 509 e3 e4 s3 s4 q4, show (509 : Nat) = 508 + 1 from rfl]
    exact iter2 q5
  rw [b3_eq]
  show seqR (cv dA e s) (fun e s => seqR (blockR 3 (cv (.seq d1 (.seq d2 (.seq (.seq d3 (.block 4 (.loop M7b2l M7b2))) M7r2))) e s)) (cv M7r0)) = _
  rw [q1]
  show seqR (blockR 3 (cv (.seq d1 (.seq d2 (.seq (.seq d3 (.block 4 (.loop M7b2l M7b2))) M7r2))) e1 s1)) (cv M7r0) = _
  have hX : cv (.seq d1 (.seq d2 (.seq (.seq d3 (.block 4 (.loop M7b2l M7b2))) M7r2))) e1 s1 = some (.nrm, e6, s6) := by
    rw [a1]
    show seqR (cv (.seq d1 d2) e1 s1) (fun e s => seqR (seqR (cv d3 e s) (fun e s => blockR 4 (iter (cv M7b2) M7b2l 599 e s))) (cv M7r2)) = _
    have q2 : seqR (cv (.seq d1 d2) e1 s1) (cv d3) = some (.nrm, e2, s2) := q2
    have : (fun e s => seqR (seqR (cv d3 e s) (fun e s => blockR 4 (iter (cv M7b2) M7b2l 599 e s))) (cv M7r2)) = fun e s => seqR (cv d3 e s) (fun e s => seqR (blockR 4 (iter (cv M7b2) M7b2l 599 e s)) (cv M7r2)) := by
      funext e s
      exact seqR_assoc _ _ _
    rw [this, ← seqR_assoc, q2]
    show seqR (blockR 4 (iter (cv M7b2) M7b2l 599 e2 s2)) (cv M7r2) = _
    rw [hl]
    exact q6
  rw [hX]
  exact q7
theorem RE.vals {E : FE} {e : Env} (h : RE 89 E e) {vals : List AV} (hv : (List.range 89).map (FE.at E) = vals) : RE 89 (envK vals 0) e := by
  refine ⟨h.len, h.le, fun i hi => ?_⟩
  have hvl : vals.length = 89 := by rw [← hv]; simp
  rw [envK_at vals 0 i (by omega) hi, if_pos (Nat.zero_le _), Nat.sub_zero, List.getD_eq_getElem?_getD, ← hv, List.getElem?_map]
  by_cases hin : i < 89
  · rw [List.getElem?_range hin]
    exact h.fe i
  · rw [List.getElem?_eq_none (by simp; omega)]
    exact (at_ge (by rw [h.len]; omega)).symm
theorem ev3_no {f : Nat} {m : MFun} (h1 : f ≠ 135) (h2 : f ≠ 38) (h3 : f ≠ 58) (h4 : f ≠ 82) (h5 : f ≠ 91) (h6 : f ≠ 158) (h7 : f ≠ 160) (hm : tableOf Tryz.prog f = some m) (k : Nat) (args : List AV) (s : St) : ev3 (k + 1) f args s = outR m.res (evC tabGl (ev3 k) k m.body (env0 m.ntmps args) s) := by
  have h : ext3 f = none := by
    rw [ext3_eq]
    show (if f = 135 then some pMay else (if f = 38 then some pFine else ext2 f)) = none
    rw [if_neg h1, if_neg h2]
    unfold ext2
    rw [if_neg h3, if_neg h4]
    unfold ext1
    rw [if_neg h5, if_neg h6]
    exact if_neg h7
  show evF tabGl (tableOf Tryz.prog) ext3 (k + 1) f args s = _
  simp only [evF, h, hm]
  rfl
/-- A number from 0 to 2. -/
theorem small_ev (x : Int) : ∃ r : Int, (r = 0 ∨ r = 1 ∨ r = 2) ∧ ∀ s, ev3 599 16 [.int .i64 x, .int .i64 3] s = some (.int .i64 r, s) := by
  have hb := Int.tmod_lt_of_pos x (show (0 : Int) < 3 by decide)
  have hc : -3 < x.tmod 3 := by
    rcases Int.lt_or_le x 0 with h | h
    · have h1 := Int.tmod_lt_of_pos (-x) (show (0 : Int) < 3 by decide)
      rw [Int.neg_tmod] at h1
      omega
    · have := Int.tmod_nonneg 3 h
      omega
  have key : ∀ r : Int, x.tmod 3 = r → binV .rem (.int .i64 x) (.int .i64 3) = some (.int .i64 r) := fun r h => by
    show some (AV.int .i64 (x.tmod 3)) = _
    rw [h]
  have h5 : x.tmod 3 = -2 ∨ x.tmod 3 = -1 ∨ x.tmod 3 = 0 ∨ x.tmod 3 = 1 ∨ x.tmod 3 = 2 := by omega
  rcases h5 with h | h | h | h | h
  · refine ⟨2, by omega, fun s => ?_⟩
    rw [show (599 : Nat) = 598 + 1 from rfl, ev3_no (by decide) (by decide) (by decide) (by decide) (by decide) (by decide) (by decide) tab16]
    have k := key _ h
    have l1 : binV .lss (.int .i64 (-2)) (.int .i64 0) = some (.bool true) := rfl
    have l2 : unV .neg (.int .i64 (-2)) = some (.int .i64 2) := rfl
    simp only [M16, k, l1, l2, ev1_un, env0, List.length_cons, List.length_nil, Nat.reduceAdd, Nat.reduceSub, List.replicate, List.cons_append, List.nil_append, evC_seq, evC_reg, evC_skip, evC_exit, evC_ret, evC_block, evC_condX, condX_true, condX_false, evOps_nil, evOps_one, contR_some, evOps_gd, gdR_tt, gdR_ft, gdR_tf, gdR_ff, gdR_un, bq_true, bq_false, ev1_mv, ev1_pick, ev1_bin, ev1_eqv, ev1_un, un_not, ev1_mki, ev1_slc, ev1_lenV, ev1_ixaV, ev1_appV, ev1_load, ev1_call, ev1_mn, ev1_mx, ev1_conv, ev1_alloc, ev1_storeV, ev1_bslR, bslR_sl, bslR_hs, fill_nil, fill_cons, fill1_u8a, fill1_u8b, fill1_ca, fill1_cb, thenO_some, loadR_rp, opd, Env.put, Env.at, seqR_nrm, seqR_exit, seqR_ret, regR_some, List.set_cons_zero, List.set_cons_succ, List.getD_cons_zero, List.getD_cons_succ, pR_some, wR_some, callR_some, freezeL, freeze_int, freeze_bool, freeze_str, freeze_u16, freeze_u8, freeze_ptr, freeze_nils, boolR_true, boolR_false, blockR_nrm, blockR_exit, blockR_ret, outR_ret, outR_nrm, resVs, resV_tmp, oneOr, Option.map_some, Option.map_none, List.map_cons, List.map_nil, if_true, if_false, Bool.not_true, Bool.not_false, Bool.false_eq_true, reduceIte, decide_true, decide_false, i64_lss, i64_leq, i64_gtr, i64_geq, i64_eql, i64_neq, i64_add, i64_sub]
  · refine ⟨1, by omega, fun s => ?_⟩
    rw [show (599 : Nat) = 598 + 1 from rfl, ev3_no (by decide) (by decide) (by decide) (by decide) (by decide) (by decide) (by decide) tab16]
    have k := key _ h
    have l1 : binV .lss (.int .i64 (-1)) (.int .i64 0) = some (.bool true) := rfl
    have l2 : unV .neg (.int .i64 (-1)) = some (.int .i64 1) := rfl
    simp only [M16, k, l1, l2, ev1_un, env0, List.length_cons, List.length_nil, Nat.reduceAdd, Nat.reduceSub, List.replicate, List.cons_append, List.nil_append, evC_seq, evC_reg, evC_skip, evC_exit, evC_ret, evC_block, evC_condX, condX_true, condX_false, evOps_nil, evOps_one, contR_some, evOps_gd, gdR_tt, gdR_ft, gdR_tf, gdR_ff, gdR_un, bq_true, bq_false, ev1_mv, ev1_pick, ev1_bin, ev1_eqv, ev1_un, un_not, ev1_mki, ev1_slc, ev1_lenV, ev1_ixaV, ev1_appV, ev1_load, ev1_call, ev1_mn, ev1_mx, ev1_conv, ev1_alloc, ev1_storeV, ev1_bslR, bslR_sl, bslR_hs, fill_nil, fill_cons, fill1_u8a, fill1_u8b, fill1_ca, fill1_cb, thenO_some, loadR_rp, opd, Env.put, Env.at, seqR_nrm, seqR_exit, seqR_ret, regR_some, List.set_cons_zero, List.set_cons_succ, List.getD_cons_zero, List.getD_cons_succ, pR_some, wR_some, callR_some, freezeL, freeze_int, freeze_bool, freeze_str, freeze_u16, freeze_u8, freeze_ptr, freeze_nils, boolR_true, boolR_false, blockR_nrm, blockR_exit, blockR_ret, outR_ret, outR_nrm, resVs, resV_tmp, oneOr, Option.map_some, Option.map_none, List.map_cons, List.map_nil, if_true, if_false, Bool.not_true, Bool.not_false, Bool.false_eq_true, reduceIte, decide_true, decide_false, i64_lss, i64_leq, i64_gtr, i64_geq, i64_eql, i64_neq, i64_add, i64_sub]
  · refine ⟨0, by omega, fun s => ?_⟩
    rw [show (599 : Nat) = 598 + 1 from rfl, ev3_no (by decide) (by decide) (by decide) (by decide) (by decide) (by decide) (by decide) tab16]
    have k := key _ h
    have l1 : binV .lss (.int .i64 0) (.int .i64 0) = some (.bool false) := rfl
    simp only [M16, k, l1, env0, List.length_cons, List.length_nil, Nat.reduceAdd, Nat.reduceSub, List.replicate, List.cons_append, List.nil_append, evC_seq, evC_reg, evC_skip, evC_exit, evC_ret, evC_block, evC_condX, condX_true, condX_false, evOps_nil, evOps_one, contR_some, evOps_gd, gdR_tt, gdR_ft, gdR_tf, gdR_ff, gdR_un, bq_true, bq_false, ev1_mv, ev1_pick, ev1_bin, ev1_eqv, ev1_un, un_not, ev1_mki, ev1_slc, ev1_lenV, ev1_ixaV, ev1_appV, ev1_load, ev1_call, ev1_mn, ev1_mx, ev1_conv, ev1_alloc, ev1_storeV, ev1_bslR, bslR_sl, bslR_hs, fill_nil, fill_cons, fill1_u8a, fill1_u8b, fill1_ca, fill1_cb, thenO_some, loadR_rp, opd, Env.put, Env.at, seqR_nrm, seqR_exit, seqR_ret, regR_some, List.set_cons_zero, List.set_cons_succ, List.getD_cons_zero, List.getD_cons_succ, pR_some, wR_some, callR_some, freezeL, freeze_int, freeze_bool, freeze_str, freeze_u16, freeze_u8, freeze_ptr, freeze_nils, boolR_true, boolR_false, blockR_nrm, blockR_exit, blockR_ret, outR_ret, outR_nrm, resVs, resV_tmp, oneOr, Option.map_some, Option.map_none, List.map_cons, List.map_nil, if_true, if_false, Bool.not_true, Bool.not_false, Bool.false_eq_true, reduceIte, decide_true, decide_false, i64_lss, i64_leq, i64_gtr, i64_geq, i64_eql, i64_neq, i64_add, i64_sub]
  · refine ⟨1, by omega, fun s => ?_⟩
    rw [show (599 : Nat) = 598 + 1 from rfl, ev3_no (by decide) (by decide) (by decide) (by decide) (by decide) (by decide) (by decide) tab16]
    have k := key _ h
    have l1 : binV .lss (.int .i64 1) (.int .i64 0) = some (.bool false) := rfl
    simp only [M16, k, l1, env0, List.length_cons, List.length_nil, Nat.reduceAdd, Nat.reduceSub, List.replicate, List.cons_append, List.nil_append, evC_seq, evC_reg, evC_skip, evC_exit, evC_ret, evC_block, evC_condX, condX_true, condX_false, evOps_nil, evOps_one, contR_some, evOps_gd, gdR_tt, gdR_ft, gdR_tf, gdR_ff, gdR_un, bq_true, bq_false, ev1_mv, ev1_pick, ev1_bin, ev1_eqv, ev1_un, un_not, ev1_mki, ev1_slc, ev1_lenV, ev1_ixaV, ev1_appV, ev1_load, ev1_call, ev1_mn, ev1_mx, ev1_conv, ev1_alloc, ev1_storeV, ev1_bslR, bslR_sl, bslR_hs, fill_nil, fill_cons, fill1_u8a, fill1_u8b, fill1_ca, fill1_cb, thenO_some, loadR_rp, opd, Env.put, Env.at, seqR_nrm, seqR_exit, seqR_ret, regR_some, List.set_cons_zero, List.set_cons_succ, List.getD_cons_zero, List.getD_cons_succ, pR_some, wR_some, callR_some, freezeL, freeze_int, freeze_bool, freeze_str, freeze_u16, freeze_u8, freeze_ptr, freeze_nils, boolR_true, boolR_false, blockR_nrm, blockR_exit, blockR_ret, outR_ret, outR_nrm, resVs, resV_tmp, oneOr, Option.map_some, Option.map_none, List.map_cons, List.map_nil, if_true, if_false, Bool.not_true, Bool.not_false, Bool.false_eq_true, reduceIte, decide_true, decide_false, i64_lss, i64_leq, i64_gtr, i64_geq, i64_eql, i64_neq, i64_add, i64_sub]
  · refine ⟨2, by omega, fun s => ?_⟩
    rw [show (599 : Nat) = 598 + 1 from rfl, ev3_no (by decide) (by decide) (by decide) (by decide) (by decide) (by decide) (by decide) tab16]
    have k := key _ h
    have l1 : binV .lss (.int .i64 2) (.int .i64 0) = some (.bool false) := rfl
    simp only [M16, k, l1, env0, List.length_cons, List.length_nil, Nat.reduceAdd, Nat.reduceSub, List.replicate, List.cons_append, List.nil_append, evC_seq, evC_reg, evC_skip, evC_exit, evC_ret, evC_block, evC_condX, condX_true, condX_false, evOps_nil, evOps_one, contR_some, evOps_gd, gdR_tt, gdR_ft, gdR_tf, gdR_ff, gdR_un, bq_true, bq_false, ev1_mv, ev1_pick, ev1_bin, ev1_eqv, ev1_un, un_not, ev1_mki, ev1_slc, ev1_lenV, ev1_ixaV, ev1_appV, ev1_load, ev1_call, ev1_mn, ev1_mx, ev1_conv, ev1_alloc, ev1_storeV, ev1_bslR, bslR_sl, bslR_hs, fill_nil, fill_cons, fill1_u8a, fill1_u8b, fill1_ca, fill1_cb, thenO_some, loadR_rp, opd, Env.put, Env.at, seqR_nrm, seqR_exit, seqR_ret, regR_some, List.set_cons_zero, List.set_cons_succ, List.getD_cons_zero, List.getD_cons_succ, pR_some, wR_some, callR_some, freezeL, freeze_int, freeze_bool, freeze_str, freeze_u16, freeze_u8, freeze_ptr, freeze_nils, boolR_true, boolR_false, blockR_nrm, blockR_exit, blockR_ret, outR_ret, outR_nrm, resVs, resV_tmp, oneOr, Option.map_some, Option.map_none, List.map_cons, List.map_nil, if_true, if_false, Bool.not_true, Bool.not_false, Bool.false_eq_true, reduceIte, decide_true, decide_false, i64_lss, i64_leq, i64_gtr, i64_geq, i64_eql, i64_neq, i64_add, i64_sub]
theorem tail {Eb EB' K0 K1 K2 Ee Ed : List AV} {Nb NB N0 N1 N2 Ne Nd : Nat} {Bb BB' B0 B1 B2 Be Bd : List (Nat × Ab.Obj)} {log : List (List AV)}
    (hb : (fo7 (.seq (.seq c4 c5) cX) Eb Nb Bb).seen 89 (BB'.map (·.1)) = some (.nrm, EB', NB, BB'.map (fun p => some p.2), log)) (hlog : ∀ a ∈ log, GoodA a)
    (hk : (fv7 (.seq c8 c9) EB' NB BB').seenK M7b3l 89 (B0.map (·.1)) = some (.nrm, K0, N0, B0.map (fun p => some p.2), []))
    (R0 : ∀ e s, RE 89 (envK K0 0) e → RS (mkS N0 B0) s → ∃ e' s', cv M7b3 e s = some (.nrm, e', s') ∧ RE 89 (envK K1 0) (maskE M7b3l e') ∧ RS (mkS N1 B1) s')
    (R1 : ∀ e s, RE 89 (envK K1 0) e → RS (mkS N1 B1) s → ∃ e' s', cv M7b3 e s = some (.nrm, e', s') ∧ RE 89 (envK K2 0) (maskE M7b3l e') ∧ RS (mkS N2 B2) s')
    (he : (fv7 M7b3 K2 N2 B2).seen 89 (Be.map (·.1)) = some (.exit 2, Ee, Ne, Be.map (fun p => some p.2), []))
    (hd : (fv7 M7r3 Ee Ne Be).seen 89 (Bd.map (·.1)) = some (.ret, Ed, Nd, Bd.map (fun p => some p.2), []))
    (h4 : (rdN 4).f (envK Ed 0) = .bool true) {e : Env} {s : St} (hE : RE 89 (envK Eb 0) e) (hS : RS (mkS Nb Bb) s) :
    ∃ e' s', seqR (cv (.seq (.seq c4 c5) cX) e s) (fun e s => seqR (cv (.seq c8 c9) e s) (fun e s => seqR (blockR 2 (iter (cv M7b3) M7b3l 599 e s)) (cv M7r3))) = some (.ret, e', s') ∧ e'.at 4 = .bool true := by
  obtain ⟨e1, s1, q1, r1, t1⟩ := seen_use (code_sim (fQo_sim 599) 599 (.seq (.seq c4 c5) cX) _ _ _ _ hE) hb hlog hS
  obtain ⟨e2, s2, q2, r2, t2⟩ := seenK_use (fv_sim (.seq c8 c9) r1) live3 hk no_log t1
  obtain ⟨e3, s3, q3, r3, t3⟩ := R0 _ s2 r2 t2
  obtain ⟨e4, s4, q4, r4, t4⟩ := R1 _ s3 r3 t3
  obtain ⟨e5, s5, q5, r5, t5⟩ := seen_use (fv_sim M7b3 r4) he no_log t4
  obtain ⟨e6, s6, q6, r6, t6⟩ := seen_use (fv_sim M7r3 r5) hd no_log t5
  refine ⟨e6, s6, ?_, by rw [← r6.at_ 4 (by omega)]; exact h4⟩
  have q1 : cv (.seq (.seq c4 c5) cX) e s = _ := q1
  rw [q1]
  show seqR (cv (.seq c8 c9) e1 s1) _ = _
  rw [q2]
  show seqR (blockR 2 (iter (cv M7b3) M7b3l (598 + 1) e2 s2)) (cv M7r3) = _
  rw [iter1 q3, show (598 : Nat) = 597 + 1 from rfl, iter1 q4, show (597 : Nat) = 596 + 1 from rfl, iter2 q5]
  exact q6
theorem c3_eq : c3 = .reg [⟨some 17, .mv (.s 0), none⟩, ⟨some 18, .call 16 [(0, .s 17), (0, .c (.int .i64 3))], none⟩, ⟨some 19, .bin .add (.c (.int .i64 3)) (.s 18), none⟩, ⟨some 0, .mv (.s 19), none⟩] := rfl
theorem c3_ev {E : FE} {e : Env} {s : St} (h : RE 89 E e) {x r : Int} (hx : e.at 0 = .int .i64 x) (hr : ∀ s, ev3 599 16 [.int .i64 x, .int .i64 3] s = some (.int .i64 r, s)) (h3 : r = 0 ∨ r = 1 ∨ r = 2) :
    ∃ e', cv c3 e s = some (.nrm, e', s) ∧ RE 89 ((wrN 0).f (.int .i64 (3 + r)) ((wrN 19).f (.int .i64 (3 + r)) ((wrN 18).f (.int .i64 r) ((wrN 17).f (.int .i64 x) E)))) e' := by
  have h1 := h.put (d := 17) (by omega) (.int .i64 x)
  have h2 := h1.put (d := 18) (by omega) (.int .i64 r)
  have h3' := h2.put (d := 19) (by omega) (.int .i64 (3 + r))
  have h4 := h3'.put (d := 0) (by omega) (.int .i64 (3 + r))
  refine ⟨_, ?_, h4⟩
  have g17 : (e.put (some 17) (.int .i64 x)).at 17 = .int .i64 x := by rw [← h1.at_ 17 (by omega), rd_wr (by omega) (by omega), if_pos rfl]
  have g18 : ((e.put (some 17) (.int .i64 x)).put (some 18) (.int .i64 r)).at 18 = .int .i64 r := by rw [← h2.at_ 18 (by omega), rd_wr (by omega) (by omega), if_pos rfl]
  have g19 : (((e.put (some 17) (.int .i64 x)).put (some 18) (.int .i64 r)).put (some 19) (.int .i64 (3 + r))).at 19 = .int .i64 (3 + r) := by rw [← h3'.at_ 19 (by omega), rd_wr (by omega) (by omega), if_pos rfl]
  have b1 : binV .add (.int .i64 3) (.int .i64 r) = some (.int .i64 (3 + r)) := by
    rcases h3 with rfl | rfl | rfl <;> rfl
  rw [c3_eq]
  simp only [cv, evC, regR, evOps, guardR, opR, ev1, evP, evR, opd, hx, g17, freezeL, Ab.freeze, hr, g18, b1, g19]
theorem nilS : RS FS.nil St.nil := ⟨rfl, (fun b x h => by have h : (hgN b).f .nil = some x := h; rw [at_nilH] at h; cases h), fun j _ => rfl, (fun b x h => by have h : (hgN b).f .nil = some x := h; rw [at_nilH] at h; cases h)⟩
theorem body_eq : M7.body = .seq c0 (.seq c1 (.seq c2 (.seq c3 (.seq c4 (.seq c5 (.seq cX (.seq c8 (.seq (.seq c9 (.block 2 (.loop M7b3l M7b3))) M7r3)))))))) := rfl
/-- All of it, given what is behind the number. -/
theorem all_ev (x ob os ow oz ot r : Int) (hr : ∀ s, ev3 599 16 [.int .i64 x, .int .i64 3] s = some (.int .i64 r, s)) (h3 : r = 0 ∨ r = 1 ∨ r = 2)
    (ht : ∀ e s, RE 89 ((wrN 0).f (.int .i64 (3 + r)) ((wrN 19).f (.int .i64 (3 + r)) ((wrN 18).f (.int .i64 r) ((wrN 17).f (.int .i64 x) (envK (EA x ob os ow oz ot) 0))))) e → RS (mkS 5005 (BA x ob os ow oz ot)) s →
      ∃ e' s', seqR (cv (.seq (.seq c4 c5) cX) e s) (fun e s => seqR (cv (.seq c8 c9) e s) (fun e s => seqR (blockR 2 (iter (cv M7b3) M7b3l 599 e s)) (cv M7r3))) = some (.ret, e', s') ∧ e'.at 4 = .bool true) :
    ∃ s', ev3 600 7 [.int .i64 x, .agg [.int .i64 ob, .int .i64 os, .int .i64 ow, .int .i64 oz, .int .i64 ot]] St.nil = some (.bool true, s') := by
  rw [show (600 : Nat) = 599 + 1 from rfl, ev3_no (by decide) (by decide) (by decide) (by decide) (by decide) (by decide) (by decide) tab7, body_eq]
  have hE0 : RE 89 (envK [.int .i64 x, .agg [.int .i64 ob, .int .i64 os, .int .i64 ow, .int .i64 oz, .int .i64 ot]] 0) (env0 89 [.int .i64 x, .agg [.int .i64 ob, .int .i64 os, .int .i64 ow, .int .i64 oz, .int .i64 ot]]) := env_ok (by simp) (by omega)
  obtain ⟨e1, s1, q1, r1, t1⟩ := seen_use (code_sim (fQ_sim (G := T0) 599) 599 (.seq (.seq c0 c1) c2) _ _ _ _ hE0) (pA x ob os ow oz ot) no_log nilS
  have q1 : cv (.seq (.seq c0 c1) c2) _ _ = _ := q1
  obtain ⟨e2, q2, r2⟩ := c3_ev (s := s1) r1 (x := x) (by rw [← r1.at_ 0 (by omega)]; rfl) hr h3
  obtain ⟨e4, s4, q4, hv⟩ := ht e2 s1 r2 t1
  have e : evC tabGl (ev3 599) 599 (.seq c0 (.seq c1 (.seq c2 (.seq c3 (.seq c4 (.seq c5 (.seq cX (.seq c8 (.seq (.seq c9 (.block 2 (.loop M7b3l M7b3))) M7r3))))))))) (env0 M7.ntmps [.int .i64 x, .agg [.int .i64 ob, .int .i64 os, .int .i64 ow, .int .i64 oz, .int .i64 ot]]) St.nil = some (.ret, e4, s4) := by
    have z : ∀ (W : MC) (e : Env) (s : St), cv (.seq c0 (.seq c1 (.seq c2 W))) e s = seqR (cv (.seq (.seq c0 c1) c2) e s) (cv W) := fun W e s => by
      rw [a1]
      exact a1 (.seq c0 c1) c2 W e s
    show cv _ _ _ = _
    rw [z]
    show seqR (cv (.seq (.seq c0 c1) c2) (env0 89 [.int .i64 x, .agg [.int .i64 ob, .int .i64 os, .int .i64 ow, .int .i64 oz, .int .i64 ot]]) St.nil) _ = _
    rw [q1]
    show seqR (cv c3 e1 s1) (cv (.seq c4 (.seq c5 (.seq cX (.seq c8 (.seq (.seq c9 (.block 2 (.loop M7b3l M7b3))) M7r3)))))) = _
    rw [q2]
    show cv (.seq c4 (.seq c5 (.seq cX (.seq c8 (.seq (.seq c9 (.block 2 (.loop M7b3l M7b3))) M7r3))))) e2 s1 = _
    have z2 : ∀ (V : MC) (e : Env) (s : St), cv (.seq c4 (.seq c5 (.seq cX V))) e s = seqR (cv (.seq (.seq c4 c5) cX) e s) (cv V) := fun V e s => by
      rw [a1]
      exact a1 (.seq c4 c5) cX V e s
    have z3 : ∀ (e : Env) (s : St), cv (.seq c8 (.seq (.seq c9 (.block 2 (.loop M7b3l M7b3))) M7r3)) e s = seqR (cv (.seq c8 c9) e s) (fun e s => seqR (blockR 2 (iter (cv M7b3) M7b3l 599 e s)) (cv M7r3)) := fun e s => by
      show seqR (cv c8 e s) (fun e s => seqR (seqR (cv c9 e s) (fun e s => blockR 2 (iter (cv M7b3) M7b3l 599 e s))) (cv M7r3)) = seqR (seqR (cv c8 e s) (cv c9)) _
      rw [seqR_assoc]
      congr 1
    rw [z2, show cv (.seq c8 (.seq (.seq c9 (.block 2 (.loop M7b3l M7b3))) M7r3)) = fun e s => seqR (cv (.seq c8 c9) e s) (fun e s => seqR (blockR 2 (iter (cv M7b3) M7b3l 599 e s)) (cv M7r3)) from funext fun e => funext fun s => z3 e s]
    exact q4
  rw [e]
  exact ⟨s4, by show (match resVs e4 s4 [.tmp 0 4] with | some (vs, s') => some (oneOr vs, s') | none => none) = _; simp only [resVs, resV, hv, Ab.freeze, oneOr]⟩
theorem good_log {ob os ow oz ot : Int} {l : List (List AV)} (h : ∀ a ∈ l, a = agr ob os ow oz ot) : ∀ a ∈ l, GoodA a := fun a ha => ⟨_, _, _, _, _, h a ha, fine_may ob os ow oz ot⟩
end Go.Proofs.YtgflghhffmjojaaGreatDoor.comes
