/- What stands in place of functions: results handed on as they are; what one may offer. No conditions. -/
import Derived.Test.YtgflghhffmjojaaGreatDoorFa
import Derived.Test.YtgflghhffmjojaaGreatDoorMR
import Derived.Test.YtgflghhffmjojaaGreatDoorBox
set_option linter.unusedSimpArgs false
set_option linter.unusedVariables false
set_option maxRecDepth 100000
namespace Go.Ab
open Go
theorem raw_vs {n : Nat} {E : FE} {e : Env} (hE : RE n E e) : ∀ rs : List MRes, rawL E rs = rawVs e rs := by
  intro rs
  induction rs with
  | nil => rfl
  | cons r rs ih =>
    cases r with
    | tmp size i => simp only [rawL, rawVs, ih, hE.fe]
    | cell i m => rfl
theorem raw_sim {G : List AV → Prop} {gl : Nat → AV} {call : FCall} {call' : Calls'} (hc : CallSim G call call') (m : MFun) (k : Nat) {args : List AV} {S : FS} {v : AV} {S' : FS} {kk : Nat} (h : rawM m gl k call args S = .ok v S' kk) :
    Evo S S' ∧ ∀ s, GoodL G S' → RS S s → ∃ s', rawR m.res (evC gl call' k m.body (env0 m.ntmps args) s) = some (v, s') ∧ RS S' s' := by
  obtain ⟨n, res, body⟩ := m
  have h : (@Bool.rec (fun _ => FR) .bad (rawK ((cB gl n body).c k call (envK args 0) S) res) (Nat.ble (lenK args) n && Nat.ble n 256)) = .ok v S' kk := h
  cases hb : (Nat.ble (lenK args) n && Nat.ble n 256) with
  | false => rw [hb] at h; cases h
  | true =>
    rw [hb] at h
    rw [Bool.and_eq_true, lenK_eq] at hb
    have hE := env_ok (ble_le hb.1) (ble_le hb.2)
    have hs := fun s => code_sim (gl := gl) hc k body (envK args 0) (env0 n args) S s hE
    cases hr : (cB gl n body).c k call (envK args 0) S with
    | bad => rw [hr] at h; cases h
    | exit i E1 S1 => rw [hr] at h; cases h
    | nrm E1 S1 =>
      rw [hr] at h
      have hs' := fun s => by have := hs s; rw [hr] at this; exact this
      have h : (optK (rawL E1 res) fun vs => outE vs S1) = .ok v S' kk := h
      obtain ⟨vs, h1, h2⟩ := optK_ok h
      cases h2
      refine ⟨(hs' ⟨[], 0⟩).1, fun s hG hS => ?_⟩
      obtain ⟨e1, s1, q1, q2, q3⟩ := (hs' s).2.2 hG hS
      rw [raw_vs q2] at h1
      exact ⟨s1, by simp only [q1, rawR, h1, Option.map_some], q3⟩
    | ret E1 S1 =>
      rw [hr] at h
      have hs' := fun s => by have := hs s; rw [hr] at this; exact this
      have h : (optK (rawL E1 res) fun vs => outE vs S1) = .ok v S' kk := h
      obtain ⟨vs, h1, h2⟩ := optK_ok h
      cases h2
      refine ⟨(hs' ⟨[], 0⟩).1, fun s hG hS => ?_⟩
      obtain ⟨e1, s1, q1, q2, q3⟩ := (hs' s).2.2 hG hS
      rw [raw_vs q2] at h1
      exact ⟨s1, by simp only [q1, rawR, h1, Option.map_some], q3⟩
end Go.Ab
namespace Go.Proofs.YtgflghhffmjojaaGreatDoor
open Go Go.Ab
/-! ### Levels -/
noncomputable def ev0 : Nat → Calls' := evF tabGl (tableOf Tryz.prog) ext
noncomputable def rw0 (m : MFun) (args : List AV) (s : St) : Option (AV × St) := rawR m.res (evC tabGl (ev0 600) 600 m.body (env0 m.ntmps args) s)
noncomputable def ext1 (f : Nat) : Option (List AV → St → Option (AV × St)) := if f = 91 then some (rw0 M91) else if f = 158 then some (rw0 M158) else ext f
noncomputable def ev1' : Nat → Calls' := evF tabGl (tableOf Tryz.prog) ext1
noncomputable def rw1 (m : MFun) (args : List AV) (s : St) : Option (AV × St) := rawR m.res (evC tabGl (ev1' 600) 600 m.body (env0 m.ntmps args) s)
noncomputable def ext2 (f : Nat) : Option (List AV → St → Option (AV × St)) := if f = 58 then some (rw1 M58s) else if f = 82 then some (rw1 M82s) else ext1 f
theorem ext0_ok : ∀ w0, ExtOk Tryz.prog tabGl w0 ext := fun w0 => extOk _ w0
theorem good_of {e : Nat → Option (List AV → St → Option (AV × St))} (h : ∀ w0, ExtOk Tryz.prog tabGl w0 e) {f : Nat} {x : List AV → St → Option (AV × St)} (hf : e f = some x) : GoodFn Tryz.prog tabGl f x :=
  ⟨(h default).there f x hf, fun w0 args s v s' G w vals hv hr hS hgl => (h w0).goes f x args s v s' G w vals hf hv hr hS hgl⟩
theorem good91 : GoodFn Tryz.prog tabGl 91 (rw0 M91) := good_raw (tableOf_ok _) ext0_ok mixed Tryz.func91 tab91s (by kernel_rfl) 600
theorem good158 : GoodFn Tryz.prog tabGl 158 (rw0 M158) := good_raw (tableOf_ok _) ext0_ok mixed Tryz.func158 tab158s (by kernel_rfl) 600
theorem ext1_ok : ∀ w0, ExtOk Tryz.prog tabGl w0 ext1 := extOk_of fun f x hf => by
  unfold ext1 at hf
  split at hf
  · rename_i e; subst e; cases hf; exact good91
  · split at hf
    · rename_i e; subst e; cases hf; exact good158
    · exact good_of ext0_ok hf
theorem good58 : GoodFn Tryz.prog tabGl 58 (rw1 M58s) := good_raw (tableOf_ok _) ext1_ok mixed Tryz.func58 tab58s (by kernel_rfl) 600
theorem good82 : GoodFn Tryz.prog tabGl 82 (rw1 M82s) := good_raw (tableOf_ok _) ext1_ok mixed Tryz.func82 tab82s (by kernel_rfl) 600
theorem ext2_ok : ∀ w0, ExtOk Tryz.prog tabGl w0 ext2 := extOk_of fun f x hf => by
  unfold ext2 at hf
  split at hf
  · rename_i e; subst e; cases hf; exact good58
  · split at hf
    · rename_i e; subst e; cases hf; exact good82
    · exact good_of ext1_ok hf
noncomputable def ev2 : Nat → Calls' := evF tabGl (tableOf Tryz.prog) ext2
theorem tab_flat (g : Nat) : Ab.flat (tabGl g) = true := by
  unfold tabGl
  split
  · decide +kernel
  · split
    · decide +kernel
    · split
      · decide +kernel
      · rfl
/-! ### What one may offer -/
def bit1 (b : Int) : Int := IntKind.i64.wrap (BitVec.ofInt 64 b &&& BitVec.ofInt 64 1).toNat
def MayT (b s w z t : Int) : Prop := bit1 b = 1 ∧ bit1 s = 1 ∧ (1 ≤ b ∧ b ≤ 15) ∧ (1 ≤ s ∧ s ≤ 7) ∧ (1 ≤ w ∧ w ≤ 127) ∧ (1 ≤ z ∧ z ≤ 15) ∧ (1 ≤ t ∧ t ≤ 7)
instance (b s w z t : Int) : Decidable (MayT b s w z t) := by unfold MayT; exact inferInstance
theorem ev2_in {k f : Nat} {m : MFun} (hx : ext2 f = none) (hF : tableOf Tryz.prog f = some m) (args : List AV) (s : St) :
    ev2 (k + 1) f args s = outR m.res (evC tabGl (ev2 k) k m.body (env0 m.ntmps args) s) := by
  simp only [ev2, evF, hx, hF]
theorem in_ev (k : Nat) (x n : Int) (h1 : 1 ≤ x) (h2 : x ≤ n) (s : St) : ev2 (k + 1) 169 [.int .i64 x, .int .i64 n] s = some (.bool true, s) := by
  rw [ev2_in rfl tab169]
  have e1 : binV .geq (.int .i64 x) (.int .i64 1) = some (.bool true) := by
    show some (AV.bool (decide (x ≥ 1))) = _
    rw [decide_eq_true h1]
  have e2 : binV .leq (.int .i64 x) (.int .i64 n) = some (.bool true) := by
    show some (AV.bool (decide (x ≤ n))) = _
    rw [decide_eq_true h2]
  simp [M169, evC, seqR, regR, evOps, guardR, opR, ev1, evP, opd, env0, Env.at, Env.put, e1, e2, outR, resVs, resV, Ab.freeze, oneOr]
theorem may_ev (b s w z t : Int) (h : MayT b s w z t) (k : Nat) (q : St) : ∃ q', ev2 (k + 2) 135 [.agg [.int .i64 b, .int .i64 s, .int .i64 w, .int .i64 z, .int .i64 t]] q = some (.bool true, q') := by
  obtain ⟨h1, h2, ⟨b1, b2⟩, ⟨s1, s2⟩, ⟨w1, w2⟩, ⟨z1, z2⟩, ⟨t1, t2⟩⟩ := h
  rw [ev2_in rfl tab135]
  have e1 : binV .and (.int .i64 b) (.int .i64 1) = some (.int .i64 1) := by
    show some (AV.int .i64 (bit1 b)) = _
    rw [h1]
  have e2 : binV .and (.int .i64 s) (.int .i64 1) = some (.int .i64 1) := by
    show some (AV.int .i64 (bit1 s)) = _
    rw [h2]
  have e3 : binV .eql (.int .i64 1) (.int .i64 1) = some (.bool true) := rfl
  have g : (q.new (.cells 0 [.int .i64 b, .int .i64 s, .int .i64 w, .int .i64 z, .int .i64 t])).get q.next = some (.cells 0 [.int .i64 b, .int .i64 s, .int .i64 w, .int .i64 z, .int .i64 t]) := fget_new_eq _ _
  refine ⟨q.new (.cells 0 [.int .i64 b, .int .i64 s, .int .i64 w, .int .i64 z, .int .i64 t]), ?_⟩
  have i1 := in_ev k b 15 b1 b2
  have i2 := in_ev k s 7 s1 s2
  have i3 := in_ev k w 127 w1 w2
  have i4 := in_ev k z 15 z1 z2
  have i5 := in_ev k t 7 t1 t2
  simp only [M135, e1, e2, e3, g, i1, i2, i3, i4, i5, ev1_boxV, boxV_some, freeze_agg, env0, List.length_cons, List.length_nil, Nat.reduceAdd, Nat.reduceSub, List.replicate, List.cons_append, List.nil_append, evC_seq, evC_reg, evC_skip, evC_exit, evC_ret, evC_block, evC_condX, condX_true, condX_false, evOps_nil, evOps_one, contR_some, evOps_gd, gdR_tt, gdR_ft, gdR_tf, gdR_ff, gdR_un, bq_true, bq_false, ev1_mv, ev1_pick, ev1_bin, ev1_eqv, ev1_un, un_not, ev1_mki, ev1_slc, ev1_lenV, ev1_ixaV, ev1_appV, ev1_load, ev1_call, ev1_mn, ev1_mx, ev1_conv, ev1_alloc, ev1_storeV, ev1_bslR, bslR_sl, bslR_hs, fill_nil, fill_cons, fill1_u8a, fill1_u8b, fill1_ca, fill1_cb, thenO_some, loadR_rp, opd, Env.put, Env.at, seqR_nrm, seqR_exit, seqR_ret, regR_some, List.set_cons_zero, List.set_cons_succ, List.getD_cons_zero, List.getD_cons_succ, pR_some, wR_some, callR_some, freezeL, freeze_int, freeze_bool, freeze_str, freeze_u16, freeze_u8, freeze_ptr, freeze_nils, boolR_true, boolR_false, blockR_nrm, blockR_exit, blockR_ret, outR_ret, outR_nrm, resVs, resV_tmp, oneOr, Option.map_some, Option.map_none, List.map_cons, List.map_nil, if_true, if_false, Bool.not_true, Bool.not_false, Bool.false_eq_true, reduceIte, decide_true, decide_false, i64_lss, i64_leq, i64_gtr, i64_geq, i64_eql, i64_neq, i64_add, i64_sub, load_ptr, ldV_some, cellAt_cells, List.getElem?_cons_zero, List.getElem?_cons_succ, store_ptr, stO_some, setAt_0, setAt_1, setAt_2, setAt_3, setAt_4, setAt_5, setAt_6, setAt_7, setAt_8, setAt_9, setAt_10, setAt_11, setAt_12, cells_int, cells_bool, cells_str, cells_nils, cells_nilp, cells_ptr, cells_sl, cells_u8, cells_u16, cells_agg, get_upd_is, Option.isSome_some, upd_upd, ev1_nchkV, ev1_faV, nchkV_ptr, faV_ptr, ev1_extV, extV_tup, eqptr_nil, eqptr_ptr, Nat.zero_add, Nat.add_zero]
end Go.Proofs.YtgflghhffmjojaaGreatDoor
