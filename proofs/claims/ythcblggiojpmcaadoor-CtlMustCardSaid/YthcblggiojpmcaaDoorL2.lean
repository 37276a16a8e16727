/- Layer 4 with its first functions as what they answer. No conditions. -/
import Derived.Test.YthcblggiojpmcaaDoorL1b
import Derived.Test.YthcblggiojpmcaaDoorM4g
set_option linter.unusedSimpArgs false
set_option linter.unusedVariables false
set_option maxRecDepth 100000
namespace Go.Proofs.YthcblggiojpmcaaDoor
open Go Go.Ab
theorem tab_flat (g : Nat) : Ab.flat (tabGl g) = true := by
  unfold tabGl
  split
  · decide +kernel
  · split
    · decide +kernel
    · rfl
def lst1 (f : Nat) : Option (List AV → St → Option AV) :=
  if f = 36 then some hMay else if f = 38 then some hPf else if f = 33 then some hAny1 else if f = 47 then some hFMay else if f = 21 then some hText else if f = 20 then some hTrue
  else if f = 30 then some hKind30 else if f = 31 then some hKind31 else if f = 37 then some hGet else if f = 34 then some hRCtl else if f = 71 then some hSame else none
noncomputable def ext1 := extWith ext lst1
theorem some_of {P : Prop} [Decidable P] {α : Type} {a : α} {x : Option α} {y : α} (h : (if P then some a else x) = some y) : (P ∧ a = y) ∨ x = some y := by
  split at h
  · rename_i hp; cases h; exact .inl ⟨hp, rfl⟩
  · exact .inr h
theorem ext1_ok : ∀ w0, ExtOk Tryd.prog tabGl w0 ext1 := extOk_add (tableOf_ok _) mixed tab_flat (fun w0 => extOk _ w0) lst1 (by
  intro f h hf
  unfold lst1 at hf
  rcases some_of hf with ⟨rfl, rfl⟩ | hf
  · exact ⟨by rw [tab36]; rfl, 1000, may_pure⟩
  rcases some_of hf with ⟨rfl, rfl⟩ | hf
  · exact ⟨by rw [tab38]; rfl, 1000, pf_pure⟩
  rcases some_of hf with ⟨rfl, rfl⟩ | hf
  · exact ⟨by rw [tab33]; rfl, 1000, any1_pure⟩
  rcases some_of hf with ⟨rfl, rfl⟩ | hf
  · exact ⟨by rw [tab47]; rfl, 1000, fmay_pure⟩
  rcases some_of hf with ⟨rfl, rfl⟩ | hf
  · exact ⟨by rw [tab21]; rfl, 1000, text_pure⟩
  rcases some_of hf with ⟨rfl, rfl⟩ | hf
  · exact ⟨by kernel_rfl, 999, begun_pure⟩
  rcases some_of hf with ⟨rfl, rfl⟩ | hf
  · exact ⟨by rw [tab30]; rfl, 1000, kind_pure⟩
  rcases some_of hf with ⟨rfl, rfl⟩ | hf
  · exact ⟨by rw [tab31]; rfl, 1000, rkind_pure⟩
  rcases some_of hf with ⟨rfl, rfl⟩ | hf
  · exact ⟨by rw [tab37]; rfl, 1000, get_pure⟩
  rcases some_of hf with ⟨rfl, rfl⟩ | hf
  · exact ⟨by rw [tab34]; rfl, 1000, rctl_pure⟩
  rcases some_of hf with ⟨rfl, rfl⟩ | hf
  · exact ⟨by rw [tab71]; rfl, 1000, same_pure⟩
  cases hf)
noncomputable def evL1 : Nat → Calls' := evF tabGl (tableOf Tryd.prog) ext1
theorem evL1_in {k f : Nat} {m : MFun} (hx : ext1 f = none) (hF : tableOf Tryd.prog f = some m) (args : List AV) (s : St) :
    evL1 (k + 1) f args s = outR m.res (evC tabGl (evL1 k) k m.body (env0 m.ntmps args) s) := evF_in hx hF args s
/-! Calls. -/
theorem dry_ct (c : Ct) : dry1 c.av = c.av := by cases c <;> rfl
theorem c36 (k : Nat) (c : Ct) (s : St) : evL1 (k + 1) 36 [c.av] s = some (.bool c.may, s) := evF_ext (H := hMay) rfl (by simp only [List.map_cons, List.map_nil, dry_ct, hMay, toCt_av, Option.map_some])
theorem c38 (k : Nat) (c : Ct) (s : St) : evL1 (k + 1) 38 [c.av] s = some (.bool c.pf, s) := evF_ext (H := hPf) rfl (by simp only [List.map_cons, List.map_nil, dry_ct, hPf, toCt_av, Option.map_some])
theorem c47 (k : Nat) (f : Fr) (s : St) : evL1 (k + 1) 47 [.agg f.cells] s = some (.bool f.may, s) := evF_ext (H := hFMay) rfl (by simp only [List.map_cons, List.map_nil, dry1_agg, hFMay, toFr, Fr.cells, toCt_av, Option.map_some])
theorem c34 (k : Nat) (p : Pn) (s : St) : evL1 (k + 1) 34 [.agg p.cells] s = some (if p.okc = true then .tup [.int .u8 p.ctl.num, .bool true] else .tup [.int .u8 0, .bool false], s) := evF_ext (H := hRCtl) rfl rfl
theorem c21 (k : Nat) (l : List UInt8) (n : Nat) (s : St) : evL1 (k + 1) 21 [.str l, .int .i64 (n : Int)] s = some (.str (l.take n), s) := evF_ext (H := hText) rfl (by simp only [List.map_cons, List.map_nil, dry1_str, dry1_int, hText]; rw [if_pos (by omega)]; simp)
theorem c37 (k : Nat) (n : Nat) (h : n < 256) (s : St) : evL1 (k + 1) 37 [.int .u8 (n : Int)] s = some (.tup [(gct n).av, .bool (gct n).is], s) := evF_ext (H := hGet) rfl (by simp only [List.map_cons, List.map_nil, dry1_int, hGet]; rw [if_pos ⟨by omega, by omega⟩]; simp)
theorem c71 (k : Nat) (c d : Ct) (s : St) : evL1 (k + 1) 71 [c.av, d.av] s = some (.bool (decide (c = d) && c.is), s) := evF_ext (H := hSame) rfl (by simp only [List.map_cons, List.map_nil, dry_ct, hSame, toCt_av])
/-! ctl.Put. -/
def hPut : List AV → St → Option AV
  | [v], _ => (toCt v).map fun c => .tup [.int .u8 (if c.may = true then c.num else 0), .bool c.may]
  | _, _ => none
theorem put_val (c : Ct) (s : St) : valR (evL1 1000 35 [c.av] (s.pl [])) = some (.tup [.int .u8 (if c.may = true then c.num else 0), .bool c.may]) := by
  rw [show (1000 : Nat) = 999 + 1 from rfl, evL1_in rfl tab35]
  have fz := fun s => c.freeze 0 s
  have h36 := c36 998 c
  have h38 := c38 998 c
  cases hm : c.may with
  | false =>
    rw [hm] at h36
    simp only [M35, fz, h36, qES0, qES1, qES2, env0, List.length_cons, List.length_nil, Nat.reduceAdd, Nat.reduceSub, List.replicate, List.cons_append, List.nil_append, opd, Env.put, Env.at, List.set_cons_zero, List.set_cons_succ, List.getD_cons_zero, List.getD_cons_succ, freezeL, resVs, oneOr, Option.map_some, Option.map_none, List.map_cons, List.map_nil, if_true, if_false, Bool.not_true, Bool.not_false, Bool.false_eq_true, reduceIte, decide_true, decide_false, Int.reduceLT, Int.reduceLE, Int.reduceGT, Int.reduceGE, Int.reduceEq, Int.reduceBEq, Int.reduceBNe, load_ptr, ldV_some, cellAt_cells, List.getElem?_cons_zero, List.getElem?_cons_succ, store_ptr, stO_some, setAt_0, setAt_1, setAt_2, setAt_3, setAt_4, setAt_5, setAt_6, setAt_7, setAt_8, setAt_9, setAt_10, setAt_11, setAt_12, cells_int, cells_bool, cells_str, cells_nils, cells_nilp, cells_ptr, cells_sl, cells_u8, cells_u16, cells_agg, get_upd_is, Option.isSome_some, upd_upd, ev1_nchkV, ev1_faV, nchkV_ptr, faV_ptr, ev1_extV, extV_tup, eqptr_nil, eqptr_ptr, Nat.zero_add, Nat.add_zero, qPL0, qPL1, qPL2, qPL3, qPL4, qPL5, beq_self_eq_true, reduceCtorEq]
  | true =>
    rw [hm] at h36
    cases c with
    | i nr ns pf =>
      simp only [Ct.may, Bool.and_eq_true] at hm
      obtain ⟨q1, q2⟩ := few_iff hm.1
      obtain ⟨q3, q4⟩ := few_iff hm.2
      have w1 : IntKind.i64.wrap (nr * 32) = nr * 32 := wrapI _ (by omega) (by omega)
      have w2 : IntKind.i64.wrap (ns * 2) = ns * 2 := wrapI _ (by omega) (by omega)
      have w3 : IntKind.i64.wrap (nr * 32 + ns * 2) = nr * 32 + ns * 2 := wrapI _ (by omega) (by omega)
      have w4 : IntKind.i64.wrap (nr * 32 + ns * 2 + 16) = nr * 32 + ns * 2 + 16 := wrapI _ (by omega) (by omega)
      have w5 := u8_wrap (nr * 32 + ns * 2 + 16) (by omega) (by omega)
      have w6 := u8_wrap (nr * 32 + ns * 2) (by omega) (by omega)
      simp only [Ct.av, Ct.pf] at h36 h38 fz
      cases pf <;> simp only [M35, Ct.av, Ct.num, fz, h36, h38, w1, w2, w3, w4, w5, w6, qES0, qES1, qES2, env0, List.length_cons, List.length_nil, Nat.reduceAdd, Nat.reduceSub, List.replicate, List.cons_append, List.nil_append, opd, Env.put, Env.at, List.set_cons_zero, List.set_cons_succ, List.getD_cons_zero, List.getD_cons_succ, freezeL, resVs, oneOr, Option.map_some, Option.map_none, List.map_cons, List.map_nil, if_true, if_false, Bool.not_true, Bool.not_false, Bool.false_eq_true, reduceIte, decide_true, decide_false, Int.reduceLT, Int.reduceLE, Int.reduceGT, Int.reduceGE, Int.reduceEq, Int.reduceBEq, Int.reduceBNe, load_ptr, ldV_some, cellAt_cells, List.getElem?_cons_zero, List.getElem?_cons_succ, store_ptr, stO_some, setAt_0, setAt_1, setAt_2, setAt_3, setAt_4, setAt_5, setAt_6, setAt_7, setAt_8, setAt_9, setAt_10, setAt_11, setAt_12, cells_int, cells_bool, cells_str, cells_nils, cells_nilp, cells_ptr, cells_sl, cells_u8, cells_u16, cells_agg, get_upd_is, Option.isSome_some, upd_upd, ev1_nchkV, ev1_faV, nchkV_ptr, faV_ptr, ev1_extV, extV_tup, eqptr_nil, eqptr_ptr, Nat.zero_add, Nat.add_zero, qPL0, qPL1, qPL2, qPL3, qPL4, qPL5, beq_self_eq_true, Int.add_zero]
    | s kind nr pf =>
      simp only [Ct.may, Bool.and_eq_true] at hm
      obtain ⟨q1, q2⟩ := few_iff hm.1
      obtain ⟨q3, q4⟩ := few_iff hm.2
      have w1 : IntKind.i64.wrap (nr * 32) = nr * 32 := wrapI _ (by omega) (by omega)
      have w2 : IntKind.i64.wrap (kind * 4) = kind * 4 := wrapI _ (by omega) (by omega)
      have w3 : IntKind.i64.wrap (nr * 32 + kind * 4) = nr * 32 + kind * 4 := wrapI _ (by omega) (by omega)
      have w3' : IntKind.i64.wrap (nr * 32 + kind * 4 + 1) = nr * 32 + kind * 4 + 1 := wrapI _ (by omega) (by omega)
      have w4 : IntKind.i64.wrap (nr * 32 + kind * 4 + 1 + 16) = nr * 32 + kind * 4 + 1 + 16 := wrapI _ (by omega) (by omega)
      have w5 := u8_wrap (nr * 32 + kind * 4 + 1 + 16) (by omega) (by omega)
      have w6 := u8_wrap (nr * 32 + kind * 4 + 1) (by omega) (by omega)
      simp only [Ct.av, Ct.pf] at h36 h38 fz
      cases pf <;> simp only [M35, Ct.av, Ct.num, fz, h36, h38, w1, w2, w3, w3', w4, w5, w6, tas_6484, qES0, qES1, qES2, env0, List.length_cons, List.length_nil, Nat.reduceAdd, Nat.reduceSub, List.replicate, List.cons_append, List.nil_append, opd, Env.put, Env.at, List.set_cons_zero, List.set_cons_succ, List.getD_cons_zero, List.getD_cons_succ, freezeL, resVs, oneOr, Option.map_some, Option.map_none, List.map_cons, List.map_nil, if_true, if_false, Bool.not_true, Bool.not_false, Bool.false_eq_true, reduceIte, decide_true, decide_false, Int.reduceLT, Int.reduceLE, Int.reduceGT, Int.reduceGE, Int.reduceEq, Int.reduceBEq, Int.reduceBNe, load_ptr, ldV_some, cellAt_cells, List.getElem?_cons_zero, List.getElem?_cons_succ, store_ptr, stO_some, setAt_0, setAt_1, setAt_2, setAt_3, setAt_4, setAt_5, setAt_6, setAt_7, setAt_8, setAt_9, setAt_10, setAt_11, setAt_12, cells_int, cells_bool, cells_str, cells_nils, cells_nilp, cells_ptr, cells_sl, cells_u8, cells_u16, cells_agg, get_upd_is, Option.isSome_some, upd_upd, ev1_nchkV, ev1_faV, nchkV_ptr, faV_ptr, ev1_extV, extV_tup, eqptr_nil, eqptr_ptr, Nat.zero_add, Nat.add_zero, qPL0, qPL1, qPL2, qPL3, qPL4, qPL5, beq_self_eq_true, Int.add_zero]
    | u kind pf =>
      simp only [Ct.may, Bool.and_eq_true, decide_eq_true_eq] at hm
      obtain ⟨j, hj, hj1, hj2⟩ : ∃ j : Nat, kind = (j : Int) ∧ 1 ≤ j ∧ j ≤ 7 := ⟨kind.toNat, by omega, by omega, by omega⟩
      subst hj
      have hcd : ∀ s, evL1 999 68 [] s = some (.sl [.int .u8 0, .int .u8 47, .int .u8 131, .int .u8 99, .int .u8 15, .int .u8 67, .int .u8 139, .int .u8 143] 8 (some (s.next, 0, 1)), s.new (.tick 1 0)) := fun s => by
        rw [show (999 : Nat) = 998 + 1 from rfl, evL1_in rfl tab68]; rfl
      obtain ⟨rp, hc1, hc2⟩ : ∃ rp, (∀ tk, ixaV 1 (.sl [.int .u8 0, .int .u8 47, .int .u8 131, .int .u8 99, .int .u8 15, .int .u8 67, .int .u8 139, .int .u8 143] 8 tk) (.int .i64 (j : Int)) = some (.rp rp)) ∧ Ab.cut rp 0 none = some (.int .u8 (code j)) := by
        rcases j with _ | _ | _ | _ | _ | _ | _ | _ | j
        all_goals first | omega | exact ⟨_, fun _ => rfl, rfl⟩
      have hcode : 0 ≤ code j ∧ code j ≤ 143 := by
        unfold code
        repeat' split
        all_goals omega
      obtain ⟨cd, hcd1⟩ : ∃ cd, code (j : Int) = cd := ⟨_, rfl⟩
      rw [hcd1] at hc2 hcode
      have w1 : IntKind.i64.wrap cd = cd := wrapI cd (by omega) (by omega)
      have w2 : IntKind.i64.wrap (cd + 16) = cd + 16 := wrapI _ (by omega) (by omega)
      have w5 := u8_wrap cd (by omega) (by omega)
      have w6 := u8_wrap (cd + 16) (by omega) (by omega)
      simp only [Ct.av, Ct.pf] at h36 h38 fz
      cases pf
      · simp only [M35, Ct.av, Ct.num, hcd1, hcd, fz, h36, h38, hc1, hc2, w1, w2, w5, w6, tas_6486, tas_8486, qES0, qES1, qES2, env0, List.length_cons, List.length_nil, Nat.reduceAdd, Nat.reduceSub, List.replicate, List.cons_append, List.nil_append, opd, Env.put, Env.at, List.set_cons_zero, List.set_cons_succ, List.getD_cons_zero, List.getD_cons_succ, freezeL, resVs, oneOr, Option.map_some, Option.map_none, List.map_cons, List.map_nil, if_true, if_false, Bool.not_true, Bool.not_false, Bool.false_eq_true, reduceIte, decide_true, decide_false, Int.reduceLT, Int.reduceLE, Int.reduceGT, Int.reduceGE, Int.reduceEq, Int.reduceBEq, Int.reduceBNe, load_ptr, ldV_some, cellAt_cells, List.getElem?_cons_zero, List.getElem?_cons_succ, store_ptr, stO_some, setAt_0, setAt_1, setAt_2, setAt_3, setAt_4, setAt_5, setAt_6, setAt_7, setAt_8, setAt_9, setAt_10, setAt_11, setAt_12, cells_int, cells_bool, cells_str, cells_nils, cells_nilp, cells_ptr, cells_sl, cells_u8, cells_u16, cells_agg, get_upd_is, Option.isSome_some, upd_upd, ev1_nchkV, ev1_faV, nchkV_ptr, faV_ptr, ev1_extV, extV_tup, eqptr_nil, eqptr_ptr, Nat.zero_add, Nat.add_zero, qPL0, qPL1, qPL2, qPL3, qPL4, qPL5, beq_self_eq_true, qED0, qED1, placeR, Int.add_zero]
        rw [drawR_ok]; case h => simp (config := { decide := true }) [calm, calmPair, calmTwo, List.range, List.range.loop, sameO_refl, plg0, plg1, plg2, plg3, plg4, plg5, plg6, plg7, plg8, plg9, plg10, plg11, plg12, plg13]
        simp only [Ct.av, Ct.num, hcd1, hcd, fz, h36, h38, hc1, hc2, w1, w2, w5, w6, qES0, qES1, qES2, env0, List.length_cons, List.length_nil, Nat.reduceAdd, Nat.reduceSub, List.replicate, List.cons_append, List.nil_append, opd, Env.put, Env.at, List.set_cons_zero, List.set_cons_succ, List.getD_cons_zero, List.getD_cons_succ, freezeL, resVs, oneOr, Option.map_some, Option.map_none, List.map_cons, List.map_nil, if_true, if_false, Bool.not_true, Bool.not_false, Bool.false_eq_true, reduceIte, decide_true, decide_false, Int.reduceLT, Int.reduceLE, Int.reduceGT, Int.reduceGE, Int.reduceEq, Int.reduceBEq, Int.reduceBNe, load_ptr, ldV_some, cellAt_cells, List.getElem?_cons_zero, List.getElem?_cons_succ, store_ptr, stO_some, setAt_0, setAt_1, setAt_2, setAt_3, setAt_4, setAt_5, setAt_6, setAt_7, setAt_8, setAt_9, setAt_10, setAt_11, setAt_12, cells_int, cells_bool, cells_str, cells_nils, cells_nilp, cells_ptr, cells_sl, cells_u8, cells_u16, cells_agg, get_upd_is, Option.isSome_some, upd_upd, ev1_nchkV, ev1_faV, nchkV_ptr, faV_ptr, ev1_extV, extV_tup, eqptr_nil, eqptr_ptr, Nat.zero_add, Nat.add_zero, qPL0, qPL1, qPL2, qPL3, qPL4, qPL5, beq_self_eq_true, qED0, qED1, placeR, Int.add_zero]
      · simp only [M35, Ct.av, Ct.num, hcd1, hcd, fz, h36, h38, hc1, hc2, w1, w2, w5, w6, tas_6486, tas_8486, qES0, qES1, qES2, env0, List.length_cons, List.length_nil, Nat.reduceAdd, Nat.reduceSub, List.replicate, List.cons_append, List.nil_append, opd, Env.put, Env.at, List.set_cons_zero, List.set_cons_succ, List.getD_cons_zero, List.getD_cons_succ, freezeL, resVs, oneOr, Option.map_some, Option.map_none, List.map_cons, List.map_nil, if_true, if_false, Bool.not_true, Bool.not_false, Bool.false_eq_true, reduceIte, decide_true, decide_false, Int.reduceLT, Int.reduceLE, Int.reduceGT, Int.reduceGE, Int.reduceEq, Int.reduceBEq, Int.reduceBNe, load_ptr, ldV_some, cellAt_cells, List.getElem?_cons_zero, List.getElem?_cons_succ, store_ptr, stO_some, setAt_0, setAt_1, setAt_2, setAt_3, setAt_4, setAt_5, setAt_6, setAt_7, setAt_8, setAt_9, setAt_10, setAt_11, setAt_12, cells_int, cells_bool, cells_str, cells_nils, cells_nilp, cells_ptr, cells_sl, cells_u8, cells_u16, cells_agg, get_upd_is, Option.isSome_some, upd_upd, ev1_nchkV, ev1_faV, nchkV_ptr, faV_ptr, ev1_extV, extV_tup, eqptr_nil, eqptr_ptr, Nat.zero_add, Nat.add_zero, qPL0, qPL1, qPL2, qPL3, qPL4, qPL5, beq_self_eq_true, qED0, qED1, placeR, Int.add_zero]
        rw [drawR_ok]; case h => simp (config := { decide := true }) [calm, calmPair, calmTwo, List.range, List.range.loop, sameO_refl, plg0, plg1, plg2, plg3, plg4, plg5, plg6, plg7, plg8, plg9, plg10, plg11, plg12, plg13]
        simp only [Ct.av, Ct.num, hcd1, hcd, fz, h36, h38, hc1, hc2, w1, w2, w5, w6, qES0, qES1, qES2, env0, List.length_cons, List.length_nil, Nat.reduceAdd, Nat.reduceSub, List.replicate, List.cons_append, List.nil_append, opd, Env.put, Env.at, List.set_cons_zero, List.set_cons_succ, List.getD_cons_zero, List.getD_cons_succ, freezeL, resVs, oneOr, Option.map_some, Option.map_none, List.map_cons, List.map_nil, if_true, if_false, Bool.not_true, Bool.not_false, Bool.false_eq_true, reduceIte, decide_true, decide_false, Int.reduceLT, Int.reduceLE, Int.reduceGT, Int.reduceGE, Int.reduceEq, Int.reduceBEq, Int.reduceBNe, load_ptr, ldV_some, cellAt_cells, List.getElem?_cons_zero, List.getElem?_cons_succ, store_ptr, stO_some, setAt_0, setAt_1, setAt_2, setAt_3, setAt_4, setAt_5, setAt_6, setAt_7, setAt_8, setAt_9, setAt_10, setAt_11, setAt_12, cells_int, cells_bool, cells_str, cells_nils, cells_nilp, cells_ptr, cells_sl, cells_u8, cells_u16, cells_agg, get_upd_is, Option.isSome_some, upd_upd, ev1_nchkV, ev1_faV, nchkV_ptr, faV_ptr, ev1_extV, extV_tup, eqptr_nil, eqptr_ptr, Nat.zero_add, Nat.add_zero, qPL0, qPL1, qPL2, qPL3, qPL4, qPL5, beq_self_eq_true, qED0, qED1, placeR, Int.add_zero]
    | n => simp [Ct.may] at hm
theorem put_pure : PureOk (evL1 1000) 35 hPut := pureOk_of (by
  intro args s v h
  unfold hPut at h
  split at h
  · obtain ⟨c, hc, rfl⟩ := one_of h
    rw [toCt_of hc]
    exact ⟨rfl, by simp [flatL, c.flat], put_val c St.nil⟩
  · cases h)
end Go.Proofs.YthcblggiojpmcaaDoor
/- Frames and plain frames, as what the functions answer. No conditions. -/
set_option linter.unusedSimpArgs false
set_option linter.unusedVariables false
set_option maxRecDepth 100000
namespace Go.Proofs.YthcblggiojpmcaaDoor
open Go Go.Ab
def Ct.kind : Ct → Int
  | .i _ _ _ => 1
  | .s _ _ _ => 2
  | .u _ _ => 3
  | .n => 0
def Ct.sort : Ct → Int
  | .s k _ _ => k
  | .u k _ => k
  | _ => 0
def Ct.nr : Ct → Int
  | .i a _ _ => a
  | .s _ a _ => a
  | _ => 0
def Ct.ns : Ct → Int
  | .i _ a _ => a
  | _ => 0
def Pn.zero : Pn := ⟨0, 0, false, 0, 0, 0, 0, false, []⟩
/-- A frame's parts. -/
def Fr.pn (f : Fr) : Pn := if f.may = true then ⟨f.seat, f.count, f.cmd, f.ctl.kind, f.ctl.sort, f.ctl.nr, f.ctl.ns, f.ctl.pf, f.body⟩ else Pn.zero
/-- A plain frame as a frame. -/
def Pn.fr (p : Pn) : Fr := ⟨p.seat, p.count, p.cmd, p.ctl, p.body⟩
def Pn.may (p : Pn) : Bool := p.fr.may && p.exact
/-! law4.Plain -/
def hPlain : List AV → St → Option AV
  | [v], _ => (toPn v).map fun p => .agg ({ p with body := p.body.take 70 } : Pn).cells
  | _, _ => none
theorem plain_val (p : Pn) (s : St) : valR (evL1 1000 32 [.agg p.cells] (s.pl [])) = some (.agg ({ p with body := p.body.take 70 } : Pn).cells) := by
  rw [show (1000 : Nat) = 999 + 1 from rfl, evL1_in rfl tab32]
  obtain ⟨seat, count, cmd, kind, sort, nr, ns, pf, body⟩ := p
  have h21 : ∀ s, evL1 999 21 [.str body, .int .i64 70] s = some (.str (body.take 70), s) := fun s => c21 998 body 70 s
  simp only [M32, Pn.cells, h21, qES0, qES1, qES2, env0, List.length_cons, List.length_nil, Nat.reduceAdd, Nat.reduceSub, List.replicate, List.cons_append, List.nil_append, opd, Env.put, Env.at, List.set_cons_zero, List.set_cons_succ, List.getD_cons_zero, List.getD_cons_succ, freezeL, resVs, oneOr, Option.map_some, Option.map_none, List.map_cons, List.map_nil, if_true, if_false, Bool.not_true, Bool.not_false, Bool.false_eq_true, reduceIte, decide_true, decide_false, Int.reduceLT, Int.reduceLE, Int.reduceGT, Int.reduceGE, Int.reduceEq, Int.reduceBEq, Int.reduceBNe, load_ptr, ldV_some, cellAt_cells, List.getElem?_cons_zero, List.getElem?_cons_succ, store_ptr, stO_some, setAt_0, setAt_1, setAt_2, setAt_3, setAt_4, setAt_5, setAt_6, setAt_7, setAt_8, setAt_9, setAt_10, setAt_11, setAt_12, cells_int, cells_bool, cells_str, cells_nils, cells_nilp, cells_ptr, cells_sl, cells_u8, cells_u16, cells_agg, get_upd_is, Option.isSome_some, upd_upd, ev1_nchkV, ev1_faV, nchkV_ptr, faV_ptr, ev1_extV, extV_tup, eqptr_nil, eqptr_ptr, Nat.zero_add, Nat.add_zero, qPL0, qPL1, qPL2, qPL3, qPL4, qPL5, beq_self_eq_true]
  first | done | rfl
theorem plain_pure : PureOk (evL1 1000) 32 hPlain := pureOk_of (by
  intro args s v h
  unfold hPlain at h
  split at h
  · obtain ⟨p, hp, rfl⟩ := one_of h
    rw [toPn_of hp]
    exact ⟨rfl, by simp [flatL, p.flat], plain_val p St.nil⟩
  · cases h)
/-! glowwormref4.May -/
def hRMay : List AV → St → Option AV
  | [v], _ => (toPn v).map fun p => .bool p.may
  | _, _ => none
theorem str_eqlD (a b : List UInt8) : binV .eql (.str a) (.str b) = some (.bool (decide (a = b))) := by
  show some (AV.bool (a == b)) = _
  rw [Bool.beq_eq_decide_eq]
theorem pn_may (p : Pn) : p.may = (p.okc && (decide (p.seat ≥ 0) && decide (p.seat ≤ 127) && decide (p.count ≥ 0) && decide (p.count ≤ 255) && decide ((p.body.length : Int) ≤ 64) && (decide (p.kind ≠ 2) || decide (p.body = [])))) := by
  obtain ⟨seat, count, cmd, kind, sort, nr, ns, pf, body⟩ := p
  show ((Fr.mk seat count cmd (Pn.ctl ⟨seat, count, cmd, kind, sort, nr, ns, pf, body⟩) body).may && Pn.exact ⟨seat, count, cmd, kind, sort, nr, ns, pf, body⟩) = ((Pn.ctl ⟨seat, count, cmd, kind, sort, nr, ns, pf, body⟩).may && Pn.exact ⟨seat, count, cmd, kind, sort, nr, ns, pf, body⟩ && (decide (seat ≥ 0) && decide (seat ≤ 127) && decide (count ≥ 0) && decide (count ≤ 255) && decide ((body.length : Int) ≤ 64) && (decide (kind ≠ 2) || decide (body = []))))
  unfold Fr.may
  by_cases ha : seat < 0 ∨ seat > 127 ∨ count < 0 ∨ count > 255
  · rw [if_pos ha]
    rw [Bool.false_and]
    symm
    rw [Bool.eq_false_iff]
    intro h
    simp only [Bool.and_eq_true, decide_eq_true_eq] at h
    omega
  · rw [if_neg ha]
    have e1 : decide (seat ≥ 0) = true := by simp; omega
    have e2 : decide (seat ≤ 127) = true := by simp; omega
    have e3 : decide (count ≥ 0) = true := by simp; omega
    have e4 : decide (count ≤ 255) = true := by simp; omega
    rw [e1, e2, e3, e4]
    simp only [Pn.ctl]
    have hS : ∀ q, (!(any1 kind sort nr ns q).isS || body == []) = (decide (kind ≠ 2) || decide (body = [])) := by
      intro q
      rw [Bool.beq_eq_decide_eq]
      congr 1
      unfold any1
      by_cases h1 : kind = 1
      · subst h1; rfl
      · by_cases h2 : kind = 2
        · subst h2; rfl
        · by_cases h3 : kind = 3
          · subst h3; rfl
          · rw [if_neg h1, if_neg h2, if_neg h3]
            simp [Ct.isS, h2]
    rw [hS]
    cases (any1 kind sort nr ns pf).may <;> cases Pn.exact ⟨seat, count, cmd, kind, sort, nr, ns, pf, body⟩ <;> simp
theorem rmay_val (p : Pn) (s : St) : valR (evL1 1000 41 [.agg p.cells] (s.pl [])) = some (.bool p.may) := by
  rw [show (1000 : Nat) = 999 + 1 from rfl, evL1_in rfl tab41]
  have h34 := c34 998 p
  rw [pn_may]
  cases hk : p.okc with
  | false =>
    simp only [hk, if_false, Bool.false_eq_true] at h34
    obtain ⟨seat, count, cmd, kind, sort, nr, ns, pf, body⟩ := p
    simp only [Pn.cells] at h34 ⊢
    simp only [M41, h34, qES0, qES1, qES2, env0, List.length_cons, List.length_nil, Nat.reduceAdd, Nat.reduceSub, List.replicate, List.cons_append, List.nil_append, opd, Env.put, Env.at, List.set_cons_zero, List.set_cons_succ, List.getD_cons_zero, List.getD_cons_succ, freezeL, resVs, oneOr, Option.map_some, Option.map_none, List.map_cons, List.map_nil, if_true, if_false, Bool.not_true, Bool.not_false, Bool.false_eq_true, reduceIte, decide_true, decide_false, Int.reduceLT, Int.reduceLE, Int.reduceGT, Int.reduceGE, Int.reduceEq, Int.reduceBEq, Int.reduceBNe, load_ptr, ldV_some, cellAt_cells, List.getElem?_cons_zero, List.getElem?_cons_succ, store_ptr, stO_some, setAt_0, setAt_1, setAt_2, setAt_3, setAt_4, setAt_5, setAt_6, setAt_7, setAt_8, setAt_9, setAt_10, setAt_11, setAt_12, cells_int, cells_bool, cells_str, cells_nils, cells_nilp, cells_ptr, cells_sl, cells_u8, cells_u16, cells_agg, get_upd_is, Option.isSome_some, upd_upd, ev1_nchkV, ev1_faV, nchkV_ptr, faV_ptr, ev1_extV, extV_tup, eqptr_nil, eqptr_ptr, Nat.zero_add, Nat.add_zero, qPL0, qPL1, qPL2, qPL3, qPL4, qPL5, beq_self_eq_true, Bool.false_and]
  | true =>
    simp only [hk, if_true] at h34
    obtain ⟨seat, count, cmd, kind, sort, nr, ns, pf, body⟩ := p
    simp only [Pn.cells] at h34 ⊢
    simp only [M41, h34, str_eqlD, qES0, qES1, qES2, env0, List.length_cons, List.length_nil, Nat.reduceAdd, Nat.reduceSub, List.replicate, List.cons_append, List.nil_append, opd, Env.put, Env.at, List.set_cons_zero, List.set_cons_succ, List.getD_cons_zero, List.getD_cons_succ, freezeL, resVs, oneOr, Option.map_some, Option.map_none, List.map_cons, List.map_nil, if_true, if_false, Bool.not_true, Bool.not_false, Bool.false_eq_true, reduceIte, decide_true, decide_false, Int.reduceLT, Int.reduceLE, Int.reduceGT, Int.reduceGE, Int.reduceEq, Int.reduceBEq, Int.reduceBNe, load_ptr, ldV_some, cellAt_cells, List.getElem?_cons_zero, List.getElem?_cons_succ, store_ptr, stO_some, setAt_0, setAt_1, setAt_2, setAt_3, setAt_4, setAt_5, setAt_6, setAt_7, setAt_8, setAt_9, setAt_10, setAt_11, setAt_12, cells_int, cells_bool, cells_str, cells_nils, cells_nilp, cells_ptr, cells_sl, cells_u8, cells_u16, cells_agg, get_upd_is, Option.isSome_some, upd_upd, ev1_nchkV, ev1_faV, nchkV_ptr, faV_ptr, ev1_extV, extV_tup, eqptr_nil, eqptr_ptr, Nat.zero_add, Nat.add_zero, qPL0, qPL1, qPL2, qPL3, qPL4, qPL5, beq_self_eq_true, Bool.true_and]
    by_cases a1 : seat ≥ 0 <;> simp only [a1, decide_true, decide_false, if_true, if_false, Bool.true_and, Bool.false_and]
    by_cases a2 : seat ≤ 127 <;> simp only [a2, decide_true, decide_false, if_true, if_false, Bool.true_and, Bool.false_and]
    by_cases a3 : count ≥ 0 <;> simp only [a3, decide_true, decide_false, if_true, if_false, Bool.true_and, Bool.false_and]
    by_cases a4 : count ≤ 255 <;> simp only [a4, decide_true, decide_false, if_true, if_false, Bool.true_and, Bool.false_and]
    by_cases a5 : (body.length : Int) ≤ 64 <;> simp only [a5, decide_true, decide_false, if_true, if_false, Bool.true_and, Bool.false_and]
    by_cases a6 : kind = 2 <;> simp [a6]
theorem rmay_pure : PureOk (evL1 1000) 41 hRMay := pureOk_of (by
  intro args s v h
  unfold hRMay at h
  split at h
  · obtain ⟨p, hp, rfl⟩ := one_of h
    rw [toPn_of hp]
    exact ⟨rfl, by simp [flatL, p.flat], rmay_val p St.nil⟩
  · cases h)
/-! frame.Eq -/
def Fr.eq (f g : Fr) : Bool := decide (f.seat = g.seat ∧ f.count = g.count) && decide (f.cmd = g.cmd) && decide (f.body = g.body) && (decide (f.ctl = g.ctl) && f.ctl.is)
def hEq : List AV → St → Option AV
  | [v, u], _ => match toFr v, toFr u with
    | some f, some g => some (.bool (f.eq g))
    | _, _ => if (isFo v && isFo u && Ab.flat v && Ab.flat u) = true then some (.bool false) else none
  | _, _ => none
theorem eq2 (a b a' b' : Int) : eqAV (.flat (.many [.i, .i])) (.agg [.int .i64 a, .int .i64 b]) (.agg [.int .i64 a', .int .i64 b']) = some (decide (a = a' ∧ b = b')) := by
  show eqScL [SK.i, SK.i] _ _ = _
  rw [eqScL_i, eqScL_i, show eqScL [] [] [] = some true from rfl]
  by_cases h1 : a = a' <;> by_cases h2 : b = b' <;> simp [h1, h2]
theorem eqB (a b : Bool) : eqAV (.flat (.one .b)) (.bool a) (.bool b) = some (decide (a = b)) := by cases a <;> cases b <;> rfl
theorem eq_val (f g : Fr) (s : St) : valR (evL1 1000 45 [.agg f.cells, .agg g.cells] (s.pl [])) = some (.bool (f.eq g)) := by
  rw [show (1000 : Nat) = 999 + 1 from rfl, evL1_in rfl tab45]
  have h71 := c71 998 f.ctl g.ctl
  have fz := fun s => f.ctl.freeze 0 s
  have gz := fun s => g.ctl.freeze 0 s
  obtain ⟨seat, count, cmd, c, body⟩ := f
  obtain ⟨seat', count', cmd', c', body'⟩ := g
  simp only [Fr.cells, Fr.eq] at h71 fz gz ⊢
  simp only [M45, h71, fz, gz, str_eqlD, eq2, eqB, ev1_eqv, qES0, qES1, qES2, env0, List.length_cons, List.length_nil, Nat.reduceAdd, Nat.reduceSub, List.replicate, List.cons_append, List.nil_append, opd, Env.put, Env.at, List.set_cons_zero, List.set_cons_succ, List.getD_cons_zero, List.getD_cons_succ, freezeL, resVs, oneOr, Option.map_some, Option.map_none, List.map_cons, List.map_nil, if_true, if_false, Bool.not_true, Bool.not_false, Bool.false_eq_true, reduceIte, decide_true, decide_false, Int.reduceLT, Int.reduceLE, Int.reduceGT, Int.reduceGE, Int.reduceEq, Int.reduceBEq, Int.reduceBNe, load_ptr, ldV_some, cellAt_cells, List.getElem?_cons_zero, List.getElem?_cons_succ, store_ptr, stO_some, setAt_0, setAt_1, setAt_2, setAt_3, setAt_4, setAt_5, setAt_6, setAt_7, setAt_8, setAt_9, setAt_10, setAt_11, setAt_12, cells_int, cells_bool, cells_str, cells_nils, cells_nilp, cells_ptr, cells_sl, cells_u8, cells_u16, cells_agg, get_upd_is, Option.isSome_some, upd_upd, ev1_nchkV, ev1_faV, nchkV_ptr, faV_ptr, ev1_extV, extV_tup, eqptr_nil, eqptr_ptr, Nat.zero_add, Nat.add_zero, qPL0, qPL1, qPL2, qPL3, qPL4, qPL5, beq_self_eq_true]
  by_cases a1 : seat = seat' ∧ count = count' <;> simp only [a1, and_self, decide_true, decide_false, if_true, if_false, Bool.true_and, Bool.false_and]
  by_cases a2 : cmd = cmd' <;> simp only [a2, decide_true, decide_false, if_true, if_false, Bool.true_and, Bool.false_and]
  by_cases a3 : body = body' <;> simp only [a3, decide_true, decide_false, if_true, if_false, Bool.true_and, Bool.false_and]
theorem c71f (k t : Nat) (w u : AV) (h : foreign (.iface t w) = true) (hw : Ab.flat (.iface t w) = true) (hu : ∃ t w, u = .iface t w ∧ Ab.flat u = true ∧ foreign u = true) (s : St) : evL1 (k + 1) 71 [.iface t w, u] s = some (.bool false, s) := by
  obtain ⟨t', w', rfl, hu1, hu2⟩ := hu
  refine evF_ext (H := hSame) rfl ?_
  have n1 : toCt (.iface t w) = none := by
    cases hc : toCt (.iface t w) with
    | none => rfl
    | some c =>
      have := toCt_of hc
      rw [this] at h
      cases c <;> cases h
  simp only [List.map_cons, List.map_nil, dry1_iface, hSame, n1]
  rw [if_pos (by simp [h, hw, hu1])]
theorem eq_foreign (seat count : Int) (cmd : Bool) (t : Nat) (w : AV) (body : List UInt8) (seat' count' : Int) (cmd' : Bool) (t' : Nat) (w' : AV) (body' : List UInt8) (h : foreign (.iface t w) = true) (h' : foreign (.iface t' w') = true) (g : Ab.flat (.iface t w) = true) (g' : Ab.flat (.iface t' w') = true) (s : St) :
    valR (evL1 1000 45 [.agg [.int .i64 seat, .int .i64 count, .bool cmd, .iface t w, .str body], .agg [.int .i64 seat', .int .i64 count', .bool cmd', .iface t' w', .str body']] (s.pl [])) = some (.bool false) := by
  rw [show (1000 : Nat) = 999 + 1 from rfl, evL1_in rfl tab45]
  have h71 := c71f 998 t w (.iface t' w') h g ⟨_, _, rfl, g', h'⟩
  simp only [M45, h71, str_eqlD, eq2, eqB, ev1_eqv, qES0, qES1, qES2, env0, List.length_cons, List.length_nil, Nat.reduceAdd, Nat.reduceSub, List.replicate, List.cons_append, List.nil_append, opd, Env.put, Env.at, List.set_cons_zero, List.set_cons_succ, List.getD_cons_zero, List.getD_cons_succ, freezeL, resVs, oneOr, Option.map_some, Option.map_none, List.map_cons, List.map_nil, if_true, if_false, Bool.not_true, Bool.not_false, Bool.false_eq_true, reduceIte, decide_true, decide_false, Int.reduceLT, Int.reduceLE, Int.reduceGT, Int.reduceGE, Int.reduceEq, Int.reduceBEq, Int.reduceBNe, load_ptr, ldV_some, cellAt_cells, List.getElem?_cons_zero, List.getElem?_cons_succ, store_ptr, stO_some, setAt_0, setAt_1, setAt_2, setAt_3, setAt_4, setAt_5, setAt_6, setAt_7, setAt_8, setAt_9, setAt_10, setAt_11, setAt_12, cells_int, cells_bool, cells_str, cells_nils, cells_nilp, cells_ptr, cells_sl, cells_u8, cells_u16, cells_agg, get_upd_is, Option.isSome_some, upd_upd, ev1_nchkV, ev1_faV, nchkV_ptr, faV_ptr, ev1_extV, extV_tup, eqptr_nil, eqptr_ptr, Nat.zero_add, Nat.add_zero, qPL0, qPL1, qPL2, qPL3, qPL4, qPL5, beq_self_eq_true]
  repeat' split
  all_goals first | rfl | simp_all
theorem eq_pure : PureOk (evL1 1000) 45 hEq := pureOk_of (by
  intro args s v h
  unfold hEq at h
  split at h
  · split at h
    · rename_i f g hf hg
      cases h
      rw [toFr_of hf, toFr_of hg]
      exact ⟨rfl, by simp [flatL, Fr.flat], eq_val f g St.nil⟩
    · split at h
      · rename_i hf
        cases h
        simp only [Bool.and_eq_true] at hf
        obtain ⟨⟨⟨f1, f2⟩, f3⟩, f4⟩ := hf
        obtain ⟨seat, count, cmd, t, w, body, rfl, hw⟩ := isFo_of f1
        obtain ⟨seat', count', cmd', t', w', body', rfl, hw'⟩ := isFo_of f2
        exact ⟨rfl, by simp [flatL, f3, f4], eq_foreign seat count cmd t w body seat' count' cmd' t' w' body' hw hw' (by simpa [Ab.flat, Ab.flatL] using f3) (by simpa [Ab.flat, Ab.flatL] using f4) St.nil⟩
      · cases h
  · cases h)
end Go.Proofs.YthcblggiojpmcaaDoor
/- frame.Plain, frame.Get, glowwormref4.Put as what they answer. No conditions. -/
set_option linter.unusedSimpArgs false
set_option linter.unusedVariables false
set_option maxRecDepth 100000
namespace Go.Ab
open Go
def bkH : AV → Nat
  | .hs _ b _ _ => b
  | _ => 0
theorem bk_convH (gl : Nat → AV) (e : Env) (c : Cv) (x : Opd) : blockOf gl e (.conv c x) = bkH (opd gl e x) := by
  simp only [blockOf, bkH]
  generalize opd gl e x = v
  cases v <;> rfl
theorem bkH_sl (cs : List AV) (n : Nat) (tk : Option (Nat × Nat × Nat)) : bkH (.sl cs n tk) = 0 := (id rfl)
theorem bkH_nils : bkH .nils = 0 := (id rfl)
theorem bkH_str (l : List UInt8) : bkH (.str l) = 0 := (id rfl)
theorem bkH_int (k : IntKind) (n : Int) : bkH (.int k n) = 0 := (id rfl)
end Go.Ab
namespace Go.Proofs.YthcblggiojpmcaaDoor
open Go Go.Ab
def hFPlain : List AV → St → Option AV
  | [v], _ => match toFr v with
    | some f => some (.agg f.pn.cells)
    | none => if (isFo v && Ab.flat v) = true then some (.agg Pn.zero.cells) else none
  | _, _ => none
theorem toFr_fo {v : AV} (h : isFo v = true) : toFr v = none := by
  cases hc : toFr v with
  | none => rfl
  | some f =>
    have := toFr_of hc
    rw [this] at h
    obtain ⟨seat, count, cmd, c, body⟩ := f
    cases c <;> cases h
theorem c47f (k : Nat) (v : AV) (h : isFo v = true) (s : St) : evL1 (k + 1) 47 [v] s = some (.bool false, s) := by
  refine evF_ext (H := hFMay) rfl ?_
  obtain ⟨seat, count, cmd, t, w, body, rfl, hw⟩ := isFo_of h
  have hn := toFr_fo h
  simp only [List.map_cons, List.map_nil, dry1_agg, hFMay, hn]
  rw [if_pos h]
theorem fplain_foreign (seat count : Int) (cmd : Bool) (t : Nat) (w : AV) (body : List UInt8) (h : foreign (.iface t w) = true) (s : St) : valR (evL1 1000 46 [.agg [.int .i64 seat, .int .i64 count, .bool cmd, .iface t w, .str body]] (s.pl [])) = some (.agg Pn.zero.cells) := by
  rw [show (1000 : Nat) = 999 + 1 from rfl, evL1_in rfl tab46]
  have h47 := c47f 998 (.agg [.int .i64 seat, .int .i64 count, .bool cmd, .iface t w, .str body]) h
  simp only [M46, h47, Pn.zero, Pn.cells, qES0, qES1, qES2, env0, List.length_cons, List.length_nil, Nat.reduceAdd, Nat.reduceSub, List.replicate, List.cons_append, List.nil_append, opd, Env.put, Env.at, List.set_cons_zero, List.set_cons_succ, List.getD_cons_zero, List.getD_cons_succ, freezeL, resVs, oneOr, Option.map_some, Option.map_none, List.map_cons, List.map_nil, if_true, if_false, Bool.not_true, Bool.not_false, Bool.false_eq_true, reduceIte, decide_true, decide_false, Int.reduceLT, Int.reduceLE, Int.reduceGT, Int.reduceGE, Int.reduceEq, Int.reduceBEq, Int.reduceBNe, load_ptr, ldV_some, cellAt_cells, List.getElem?_cons_zero, List.getElem?_cons_succ, store_ptr, stO_some, setAt_0, setAt_1, setAt_2, setAt_3, setAt_4, setAt_5, setAt_6, setAt_7, setAt_8, setAt_9, setAt_10, setAt_11, setAt_12, cells_int, cells_bool, cells_str, cells_nils, cells_nilp, cells_ptr, cells_sl, cells_u8, cells_u16, cells_agg, get_upd_is, Option.isSome_some, upd_upd, ev1_nchkV, ev1_faV, nchkV_ptr, faV_ptr, ev1_extV, extV_tup, eqptr_nil, eqptr_ptr, Nat.zero_add, Nat.add_zero, qPL0, qPL1, qPL2, qPL3, qPL4, qPL5, beq_self_eq_true]
theorem fplain_val (f : Fr) (s : St) : valR (evL1 1000 46 [.agg f.cells] (s.pl [])) = some (.agg f.pn.cells) := by
  rw [show (1000 : Nat) = 999 + 1 from rfl, evL1_in rfl tab46]
  have h47 := c47 998 f
  have h38 := c38 998 f.ctl
  have fz := fun s => f.ctl.freeze 0 s
  cases hm : f.may with
  | false =>
    rw [hm] at h47
    simp only [Fr.pn, hm, Bool.false_eq_true, if_false, Pn.zero, Pn.cells]
    obtain ⟨seat, count, cmd, c, body⟩ := f
    simp only [Fr.cells] at h47 ⊢
    simp only [M46, h47, qES0, qES1, qES2, env0, List.length_cons, List.length_nil, Nat.reduceAdd, Nat.reduceSub, List.replicate, List.cons_append, List.nil_append, opd, Env.put, Env.at, List.set_cons_zero, List.set_cons_succ, List.getD_cons_zero, List.getD_cons_succ, freezeL, resVs, oneOr, Option.map_some, Option.map_none, List.map_cons, List.map_nil, if_true, if_false, Bool.not_true, Bool.not_false, Bool.false_eq_true, reduceIte, decide_true, decide_false, Int.reduceLT, Int.reduceLE, Int.reduceGT, Int.reduceGE, Int.reduceEq, Int.reduceBEq, Int.reduceBNe, load_ptr, ldV_some, cellAt_cells, List.getElem?_cons_zero, List.getElem?_cons_succ, store_ptr, stO_some, setAt_0, setAt_1, setAt_2, setAt_3, setAt_4, setAt_5, setAt_6, setAt_7, setAt_8, setAt_9, setAt_10, setAt_11, setAt_12, cells_int, cells_bool, cells_str, cells_nils, cells_nilp, cells_ptr, cells_sl, cells_u8, cells_u16, cells_agg, get_upd_is, Option.isSome_some, upd_upd, ev1_nchkV, ev1_faV, nchkV_ptr, faV_ptr, ev1_extV, extV_tup, eqptr_nil, eqptr_ptr, Nat.zero_add, Nat.add_zero, qPL0, qPL1, qPL2, qPL3, qPL4, qPL5, beq_self_eq_true]
  | true =>
    rw [hm] at h47
    simp only [Fr.pn, hm, if_true, Pn.cells]
    obtain ⟨seat, count, cmd, c, body⟩ := f
    cases c with
    | n =>
      have hm' : (Fr.mk seat count cmd .n body).may = true := hm
      unfold Fr.may at hm'
      split at hm'
      · cases hm'
      · simp [Ct.may] at hm'
    | i nr ns pf =>
      simp only [Fr.cells, Ct.av, Ct.pf] at h47 h38 fz
      simp only [M46, Fr.cells, Ct.av, h47, h38, fz, tas_6484, tas_6486, tas_8486, qES0, qES1, qES2, env0, List.length_cons, List.length_nil, Nat.reduceAdd, Nat.reduceSub, List.replicate, List.cons_append, List.nil_append, opd, Env.put, Env.at, List.set_cons_zero, List.set_cons_succ, List.getD_cons_zero, List.getD_cons_succ, freezeL, resVs, oneOr, Option.map_some, Option.map_none, List.map_cons, List.map_nil, if_true, if_false, Bool.not_true, Bool.not_false, Bool.false_eq_true, reduceIte, decide_true, decide_false, Int.reduceLT, Int.reduceLE, Int.reduceGT, Int.reduceGE, Int.reduceEq, Int.reduceBEq, Int.reduceBNe, load_ptr, ldV_some, cellAt_cells, List.getElem?_cons_zero, List.getElem?_cons_succ, store_ptr, stO_some, setAt_0, setAt_1, setAt_2, setAt_3, setAt_4, setAt_5, setAt_6, setAt_7, setAt_8, setAt_9, setAt_10, setAt_11, setAt_12, cells_int, cells_bool, cells_str, cells_nils, cells_nilp, cells_ptr, cells_sl, cells_u8, cells_u16, cells_agg, get_upd_is, Option.isSome_some, upd_upd, ev1_nchkV, ev1_faV, nchkV_ptr, faV_ptr, ev1_extV, extV_tup, eqptr_nil, eqptr_ptr, Nat.zero_add, Nat.add_zero, qPL0, qPL1, qPL2, qPL3, qPL4, qPL5, beq_self_eq_true, qED0, qED1, placeR]
      rw [drawR_ok]; case h => simp (config := { decide := true }) [calm, calmPair, calmTwo, List.range, List.range.loop, sameO_refl, plg0, plg1, plg2, plg3, plg4, plg5, plg6, plg7, plg8, plg9, plg10, plg11, plg12, plg13]
      simp only [Ct.av, h38, fz, tas_6484, tas_6486, tas_8486, qES0, qES1, qES2, env0, List.length_cons, List.length_nil, Nat.reduceAdd, Nat.reduceSub, List.replicate, List.cons_append, List.nil_append, opd, Env.put, Env.at, List.set_cons_zero, List.set_cons_succ, List.getD_cons_zero, List.getD_cons_succ, freezeL, resVs, oneOr, Option.map_some, Option.map_none, List.map_cons, List.map_nil, if_true, if_false, Bool.not_true, Bool.not_false, Bool.false_eq_true, reduceIte, decide_true, decide_false, Int.reduceLT, Int.reduceLE, Int.reduceGT, Int.reduceGE, Int.reduceEq, Int.reduceBEq, Int.reduceBNe, load_ptr, ldV_some, cellAt_cells, List.getElem?_cons_zero, List.getElem?_cons_succ, store_ptr, stO_some, setAt_0, setAt_1, setAt_2, setAt_3, setAt_4, setAt_5, setAt_6, setAt_7, setAt_8, setAt_9, setAt_10, setAt_11, setAt_12, cells_int, cells_bool, cells_str, cells_nils, cells_nilp, cells_ptr, cells_sl, cells_u8, cells_u16, cells_agg, get_upd_is, Option.isSome_some, upd_upd, ev1_nchkV, ev1_faV, nchkV_ptr, faV_ptr, ev1_extV, extV_tup, eqptr_nil, eqptr_ptr, Nat.zero_add, Nat.add_zero, qPL0, qPL1, qPL2, qPL3, qPL4, qPL5, beq_self_eq_true, qED0, qED1, placeR]
      rw [drawR_ok]; case h => simp (config := { decide := true }) [calm, calmPair, calmTwo, List.range, List.range.loop, sameO_refl, plg0, plg1, plg2, plg3, plg4, plg5, plg6, plg7, plg8, plg9, plg10, plg11, plg12, plg13]
      simp only [Ct.av, h38, fz, tas_6484, tas_6486, tas_8486, qES0, qES1, qES2, env0, List.length_cons, List.length_nil, Nat.reduceAdd, Nat.reduceSub, List.replicate, List.cons_append, List.nil_append, opd, Env.put, Env.at, List.set_cons_zero, List.set_cons_succ, List.getD_cons_zero, List.getD_cons_succ, freezeL, resVs, oneOr, Option.map_some, Option.map_none, List.map_cons, List.map_nil, if_true, if_false, Bool.not_true, Bool.not_false, Bool.false_eq_true, reduceIte, decide_true, decide_false, Int.reduceLT, Int.reduceLE, Int.reduceGT, Int.reduceGE, Int.reduceEq, Int.reduceBEq, Int.reduceBNe, load_ptr, ldV_some, cellAt_cells, List.getElem?_cons_zero, List.getElem?_cons_succ, store_ptr, stO_some, setAt_0, setAt_1, setAt_2, setAt_3, setAt_4, setAt_5, setAt_6, setAt_7, setAt_8, setAt_9, setAt_10, setAt_11, setAt_12, cells_int, cells_bool, cells_str, cells_nils, cells_nilp, cells_ptr, cells_sl, cells_u8, cells_u16, cells_agg, get_upd_is, Option.isSome_some, upd_upd, ev1_nchkV, ev1_faV, nchkV_ptr, faV_ptr, ev1_extV, extV_tup, eqptr_nil, eqptr_ptr, Nat.zero_add, Nat.add_zero, qPL0, qPL1, qPL2, qPL3, qPL4, qPL5, beq_self_eq_true, qED0, qED1, placeR, Ct.kind, Ct.sort, Ct.nr, Ct.ns, Ct.pf]
    | s kind nr pf =>
      simp only [Fr.cells, Ct.av, Ct.pf] at h47 h38 fz
      simp only [M46, Fr.cells, Ct.av, h47, h38, fz, tas_6484, tas_6486, tas_8486, qES0, qES1, qES2, env0, List.length_cons, List.length_nil, Nat.reduceAdd, Nat.reduceSub, List.replicate, List.cons_append, List.nil_append, opd, Env.put, Env.at, List.set_cons_zero, List.set_cons_succ, List.getD_cons_zero, List.getD_cons_succ, freezeL, resVs, oneOr, Option.map_some, Option.map_none, List.map_cons, List.map_nil, if_true, if_false, Bool.not_true, Bool.not_false, Bool.false_eq_true, reduceIte, decide_true, decide_false, Int.reduceLT, Int.reduceLE, Int.reduceGT, Int.reduceGE, Int.reduceEq, Int.reduceBEq, Int.reduceBNe, load_ptr, ldV_some, cellAt_cells, List.getElem?_cons_zero, List.getElem?_cons_succ, store_ptr, stO_some, setAt_0, setAt_1, setAt_2, setAt_3, setAt_4, setAt_5, setAt_6, setAt_7, setAt_8, setAt_9, setAt_10, setAt_11, setAt_12, cells_int, cells_bool, cells_str, cells_nils, cells_nilp, cells_ptr, cells_sl, cells_u8, cells_u16, cells_agg, get_upd_is, Option.isSome_some, upd_upd, ev1_nchkV, ev1_faV, nchkV_ptr, faV_ptr, ev1_extV, extV_tup, eqptr_nil, eqptr_ptr, Nat.zero_add, Nat.add_zero, qPL0, qPL1, qPL2, qPL3, qPL4, qPL5, beq_self_eq_true, qED0, qED1, placeR]
      rw [drawR_ok]; case h => simp (config := { decide := true }) [calm, calmPair, calmTwo, List.range, List.range.loop, sameO_refl, plg0, plg1, plg2, plg3, plg4, plg5, plg6, plg7, plg8, plg9, plg10, plg11, plg12, plg13]
      simp only [Ct.av, h38, fz, tas_6484, tas_6486, tas_8486, qES0, qES1, qES2, env0, List.length_cons, List.length_nil, Nat.reduceAdd, Nat.reduceSub, List.replicate, List.cons_append, List.nil_append, opd, Env.put, Env.at, List.set_cons_zero, List.set_cons_succ, List.getD_cons_zero, List.getD_cons_succ, freezeL, resVs, oneOr, Option.map_some, Option.map_none, List.map_cons, List.map_nil, if_true, if_false, Bool.not_true, Bool.not_false, Bool.false_eq_true, reduceIte, decide_true, decide_false, Int.reduceLT, Int.reduceLE, Int.reduceGT, Int.reduceGE, Int.reduceEq, Int.reduceBEq, Int.reduceBNe, load_ptr, ldV_some, cellAt_cells, List.getElem?_cons_zero, List.getElem?_cons_succ, store_ptr, stO_some, setAt_0, setAt_1, setAt_2, setAt_3, setAt_4, setAt_5, setAt_6, setAt_7, setAt_8, setAt_9, setAt_10, setAt_11, setAt_12, cells_int, cells_bool, cells_str, cells_nils, cells_nilp, cells_ptr, cells_sl, cells_u8, cells_u16, cells_agg, get_upd_is, Option.isSome_some, upd_upd, ev1_nchkV, ev1_faV, nchkV_ptr, faV_ptr, ev1_extV, extV_tup, eqptr_nil, eqptr_ptr, Nat.zero_add, Nat.add_zero, qPL0, qPL1, qPL2, qPL3, qPL4, qPL5, beq_self_eq_true, qED0, qED1, placeR]
      rw [drawR_ok]; case h => simp (config := { decide := true }) [calm, calmPair, calmTwo, List.range, List.range.loop, sameO_refl, plg0, plg1, plg2, plg3, plg4, plg5, plg6, plg7, plg8, plg9, plg10, plg11, plg12, plg13]
      simp only [Ct.av, h38, fz, tas_6484, tas_6486, tas_8486, qES0, qES1, qES2, env0, List.length_cons, List.length_nil, Nat.reduceAdd, Nat.reduceSub, List.replicate, List.cons_append, List.nil_append, opd, Env.put, Env.at, List.set_cons_zero, List.set_cons_succ, List.getD_cons_zero, List.getD_cons_succ, freezeL, resVs, oneOr, Option.map_some, Option.map_none, List.map_cons, List.map_nil, if_true, if_false, Bool.not_true, Bool.not_false, Bool.false_eq_true, reduceIte, decide_true, decide_false, Int.reduceLT, Int.reduceLE, Int.reduceGT, Int.reduceGE, Int.reduceEq, Int.reduceBEq, Int.reduceBNe, load_ptr, ldV_some, cellAt_cells, List.getElem?_cons_zero, List.getElem?_cons_succ, store_ptr, stO_some, setAt_0, setAt_1, setAt_2, setAt_3, setAt_4, setAt_5, setAt_6, setAt_7, setAt_8, setAt_9, setAt_10, setAt_11, setAt_12, cells_int, cells_bool, cells_str, cells_nils, cells_nilp, cells_ptr, cells_sl, cells_u8, cells_u16, cells_agg, get_upd_is, Option.isSome_some, upd_upd, ev1_nchkV, ev1_faV, nchkV_ptr, faV_ptr, ev1_extV, extV_tup, eqptr_nil, eqptr_ptr, Nat.zero_add, Nat.add_zero, qPL0, qPL1, qPL2, qPL3, qPL4, qPL5, beq_self_eq_true, qED0, qED1, placeR, Ct.kind, Ct.sort, Ct.nr, Ct.ns, Ct.pf]
    | u kind pf =>
      simp only [Fr.cells, Ct.av, Ct.pf] at h47 h38 fz
      simp only [M46, Fr.cells, Ct.av, h47, h38, fz, tas_6484, tas_6486, tas_8486, qES0, qES1, qES2, env0, List.length_cons, List.length_nil, Nat.reduceAdd, Nat.reduceSub, List.replicate, List.cons_append, List.nil_append, opd, Env.put, Env.at, List.set_cons_zero, List.set_cons_succ, List.getD_cons_zero, List.getD_cons_succ, freezeL, resVs, oneOr, Option.map_some, Option.map_none, List.map_cons, List.map_nil, if_true, if_false, Bool.not_true, Bool.not_false, Bool.false_eq_true, reduceIte, decide_true, decide_false, Int.reduceLT, Int.reduceLE, Int.reduceGT, Int.reduceGE, Int.reduceEq, Int.reduceBEq, Int.reduceBNe, load_ptr, ldV_some, cellAt_cells, List.getElem?_cons_zero, List.getElem?_cons_succ, store_ptr, stO_some, setAt_0, setAt_1, setAt_2, setAt_3, setAt_4, setAt_5, setAt_6, setAt_7, setAt_8, setAt_9, setAt_10, setAt_11, setAt_12, cells_int, cells_bool, cells_str, cells_nils, cells_nilp, cells_ptr, cells_sl, cells_u8, cells_u16, cells_agg, get_upd_is, Option.isSome_some, upd_upd, ev1_nchkV, ev1_faV, nchkV_ptr, faV_ptr, ev1_extV, extV_tup, eqptr_nil, eqptr_ptr, Nat.zero_add, Nat.add_zero, qPL0, qPL1, qPL2, qPL3, qPL4, qPL5, beq_self_eq_true, qED0, qED1, placeR]
      rw [drawR_ok]; case h => simp (config := { decide := true }) [calm, calmPair, calmTwo, List.range, List.range.loop, sameO_refl, plg0, plg1, plg2, plg3, plg4, plg5, plg6, plg7, plg8, plg9, plg10, plg11, plg12, plg13]
      simp only [Ct.av, h38, fz, tas_6484, tas_6486, tas_8486, qES0, qES1, qES2, env0, List.length_cons, List.length_nil, Nat.reduceAdd, Nat.reduceSub, List.replicate, List.cons_append, List.nil_append, opd, Env.put, Env.at, List.set_cons_zero, List.set_cons_succ, List.getD_cons_zero, List.getD_cons_succ, freezeL, resVs, oneOr, Option.map_some, Option.map_none, List.map_cons, List.map_nil, if_true, if_false, Bool.not_true, Bool.not_false, Bool.false_eq_true, reduceIte, decide_true, decide_false, Int.reduceLT, Int.reduceLE, Int.reduceGT, Int.reduceGE, Int.reduceEq, Int.reduceBEq, Int.reduceBNe, load_ptr, ldV_some, cellAt_cells, List.getElem?_cons_zero, List.getElem?_cons_succ, store_ptr, stO_some, setAt_0, setAt_1, setAt_2, setAt_3, setAt_4, setAt_5, setAt_6, setAt_7, setAt_8, setAt_9, setAt_10, setAt_11, setAt_12, cells_int, cells_bool, cells_str, cells_nils, cells_nilp, cells_ptr, cells_sl, cells_u8, cells_u16, cells_agg, get_upd_is, Option.isSome_some, upd_upd, ev1_nchkV, ev1_faV, nchkV_ptr, faV_ptr, ev1_extV, extV_tup, eqptr_nil, eqptr_ptr, Nat.zero_add, Nat.add_zero, qPL0, qPL1, qPL2, qPL3, qPL4, qPL5, beq_self_eq_true, qED0, qED1, placeR]
      rw [drawR_ok]; case h => simp (config := { decide := true }) [calm, calmPair, calmTwo, List.range, List.range.loop, sameO_refl, plg0, plg1, plg2, plg3, plg4, plg5, plg6, plg7, plg8, plg9, plg10, plg11, plg12, plg13]
      simp only [Ct.av, h38, fz, tas_6484, tas_6486, tas_8486, qES0, qES1, qES2, env0, List.length_cons, List.length_nil, Nat.reduceAdd, Nat.reduceSub, List.replicate, List.cons_append, List.nil_append, opd, Env.put, Env.at, List.set_cons_zero, List.set_cons_succ, List.getD_cons_zero, List.getD_cons_succ, freezeL, resVs, oneOr, Option.map_some, Option.map_none, List.map_cons, List.map_nil, if_true, if_false, Bool.not_true, Bool.not_false, Bool.false_eq_true, reduceIte, decide_true, decide_false, Int.reduceLT, Int.reduceLE, Int.reduceGT, Int.reduceGE, Int.reduceEq, Int.reduceBEq, Int.reduceBNe, load_ptr, ldV_some, cellAt_cells, List.getElem?_cons_zero, List.getElem?_cons_succ, store_ptr, stO_some, setAt_0, setAt_1, setAt_2, setAt_3, setAt_4, setAt_5, setAt_6, setAt_7, setAt_8, setAt_9, setAt_10, setAt_11, setAt_12, cells_int, cells_bool, cells_str, cells_nils, cells_nilp, cells_ptr, cells_sl, cells_u8, cells_u16, cells_agg, get_upd_is, Option.isSome_some, upd_upd, ev1_nchkV, ev1_faV, nchkV_ptr, faV_ptr, ev1_extV, extV_tup, eqptr_nil, eqptr_ptr, Nat.zero_add, Nat.add_zero, qPL0, qPL1, qPL2, qPL3, qPL4, qPL5, beq_self_eq_true, qED0, qED1, placeR, Ct.kind, Ct.sort, Ct.nr, Ct.ns, Ct.pf]
theorem fplain_pure : PureOk (evL1 1000) 46 hFPlain := pureOk_of (by
  intro args s v h
  unfold hFPlain at h
  split at h
  · split at h
    · rename_i f hf
      cases h
      rw [toFr_of hf]
      exact ⟨rfl, by simp [flatL, f.flat], fplain_val f St.nil⟩
    · split at h
      · rename_i hf
        cases h
        simp only [Bool.and_eq_true] at hf
        obtain ⟨seat, count, cmd, t, w, body, rfl, hw⟩ := isFo_of hf.1
        exact ⟨rfl, by simp [flatL, hf.2], fplain_foreign seat count cmd t w body hw St.nil⟩
      · cases h
  · cases h)
/-! Bytes. -/
def unBytes : List AV → Option (List UInt8)
  | [] => some []
  | .int .u8 n :: xs => if 0 ≤ n ∧ n < 256 then (unBytes xs).map (UInt8.ofNat n.toNat :: ·) else none
  | _ => none
theorem unBytes_of : ∀ {cs : List AV} {bs : List UInt8}, unBytes cs = some bs → cs = bytesAV bs := by
  intro cs
  induction cs with
  | nil => intro bs h; cases h; rfl
  | cons x xs ih =>
    intro bs h
    unfold unBytes at h
    split at h
    · cases ‹_ :: _ = []›
    · rename_i n ys hx
      cases hx
      split at h
      · rename_i hn
        obtain ⟨l, h1, rfl⟩ := Option.map_eq_some_iff.1 h
        rw [ih h1]
        have : ((UInt8.ofNat n.toNat).toNat : Int) = n := by
          rw [UInt8.toNat_ofNat_of_lt' (by rw [UInt8.size]; omega)]; omega
        simp only [bytesAV, List.map_cons, this]
      · cases h
    · cases h
theorem unBytes_mk (bs : List UInt8) : unBytes (bytesAV bs) = some bs := by
  induction bs with
  | nil => rfl
  | cons b bs ih =>
    have hb : (b.toNat : Int) < 256 := by have := b.toNat_lt; omega
    simp only [bytesAV, List.map_cons, unBytes]
    rw [if_pos ⟨by omega, hb⟩]
    simp only [bytesAV] at ih
    rw [ih]
    simp
theorem bytes_flat (bs : List UInt8) : flatL (bytesAV bs) = true := by
  induction bs with
  | nil => rfl
  | cons b bs ih => simp only [bytesAV, List.map_cons, flatL, Ab.flat] at ih ⊢; simp [ih]
/-- A slice of bytes. -/
def toBs : AV → Option (List UInt8)
  | .nils => some []
  | .sl cs n none => match unBytes cs with
    | some bs => if bs.length = n then some bs else none
    | none => none
  | _ => none
theorem toBs_of {v : AV} {bs : List UInt8} (h : toBs v = some bs) : (v = .nils ∧ bs = []) ∨ v = .sl (bytesAV bs) bs.length none := by
  unfold toBs at h
  split at h
  · cases h; exact .inl ⟨rfl, rfl⟩
  · split at h
    · rename_i h1
      split at h
      · rename_i h2; cases h; rw [unBytes_of h1, h2]; exact .inr rfl
      · cases h
    · cases h
  · cases h
theorem toBs_mk (bs : List UInt8) : toBs (.sl (bytesAV bs) bs.length none) = some bs := by
  simp [toBs, unBytes_mk]
end Go.Proofs.YthcblggiojpmcaaDoor
/- frame.Get, glowwormref4.Put as what they answer. No conditions. -/
set_option linter.unusedSimpArgs false
set_option linter.unusedVariables false
set_option maxRecDepth 100000
namespace Go.Ab
open Go
theorem u8_quo (a b : Int) (h : b ≠ 0) : binV .quo (.int .u8 a) (.int .u8 b) = some (.int .u8 (IntKind.u8.wrap (a.tdiv b))) := by
  simp only [binV, binI, if_true, h, if_false]
theorem u8_rem (a b : Int) (h : b ≠ 0) : binV .rem (.int .u8 a) (.int .u8 b) = some (.int .u8 (a.tmod b)) := by
  simp only [binV, binI, if_true, h, if_false]
theorem u8_eq (a b : Int) : binV .eql (.int .u8 a) (.int .u8 b) = some (.bool (a == b)) := (id rfl)
def appT (size bytes : Nat) (s : St) (cs news : List AV) (n m t v : Nat) : Option Ab.Obj → Option (AV × St)
  | some (.tick z v') => if z = size ∧ v = v' ∧ cs.length = n * size ∧ fits (n + m) bytes = true then some (.sl (cs ++ news) (n + m) (some (t, v + 1, size)), s.upd t (.tick size (v + 1))) else none
  | _ => none
theorem appV_str (h : Bool) (s : St) (cs : List AV) (n t v z : Nat) (b : List UInt8) : appV h 1 1 s (.sl cs n (some (t, v, z))) (.str b) = appT 1 1 s cs (bytesAV b) n b.length t v (s.get t) := by
  have : (h && notSl (.sl cs n (some (t, v, z)))) = false := by cases h <;> rfl
  simp only [appV, newsOf, if_true, this, Bool.false_eq_true, if_false, appS, appT]
  generalize s.get t = q
  cases q with
  | none => rfl
  | some x => cases x <;> rfl
theorem appT_3 (s : St) (x y z : AV) (b : List UInt8) (t v : Nat) (hb : b.length ≤ 1000) : appT 1 1 s [x, y, z] (bytesAV b) 3 b.length t v (some (.tick 1 v)) = some (.sl (x :: y :: z :: bytesAV b) (3 + b.length) (some (t, v + 1, 1)), s.upd t (.tick 1 (v + 1))) := by
  simp only [appT]
  simp [fits_small (show 3 + b.length ≤ 1000000000 by omega)]
theorem fill3d (a b c : AV) (k : IntKind) (n : Int) : fill1 [a, b, c] 2 1 (.int k n) = some [a, b, .int k n] := fill1_c _ _ _ rfl (by simp)
end Go.Ab
namespace Go.Proofs.YthcblggiojpmcaaDoor
open Go Go.Ab
theorem av_n : Ct.av .n = .nili := (id rfl)
theorem ct_cells (c : Ct) : cellsOf c.av = some [c.av] := by cases c <;> rfl
theorem fill_5_3c (a0 a1 a2 a3 a4 : AV) (c : Ct) : fill1 [a0, a1, a2, a3, a4] 3 1 c.av = some [a0, a1, a2, c.av, a4] := fill1_c _ _ _ (ct_cells c) (by simp)
/-- The frame that bytes are. -/
def gfr : List UInt8 → Option Fr
  | a :: b :: c :: rest => if (Fr.mk (a.toNat / 2 : Nat) b.toNat (decide (a.toNat % 2 = 1)) (gct c.toNat) rest).may = true then some ⟨(a.toNat / 2 : Nat), b.toNat, decide (a.toNat % 2 = 1), gct c.toNat, rest⟩ else none
  | _ => none
def Fr.zero : Fr := ⟨0, 0, false, .n, []⟩
def hFGet : List AV → St → Option AV
  | [v], _ => (toBs v).map fun bs => match gfr bs with
    | some f => .tup [.agg f.cells, .bool true]
    | none => .tup [.agg Fr.zero.cells, .bool false]
  | _, _ => none
theorem short_get (v : AV) (n : Nat) (hl : lenV v = some (.int .i64 n)) (hf : ∀ s, Ab.freeze 1 s v = some (v, s)) (hn : (n : Int) < 3) (s : St) : valR (evL1 1000 43 [v] (s.pl [])) = some (.tup [.agg Fr.zero.cells, .bool false]) := by
  rw [show (1000 : Nat) = 999 + 1 from rfl, evL1_in rfl tab43]
  have hn' : ((n : Int) < 3) = True := eq_true hn
  simp only [M43, hl, hn', Fr.zero, Fr.cells, Ct.av, qES0, qES1, qES2, env0, List.length_cons, List.length_nil, Nat.reduceAdd, Nat.reduceSub, List.replicate, List.cons_append, List.nil_append, opd, Env.put, Env.at, List.set_cons_zero, List.set_cons_succ, List.getD_cons_zero, List.getD_cons_succ, freezeL, resVs, oneOr, Option.map_some, Option.map_none, List.map_cons, List.map_nil, if_true, if_false, Bool.not_true, Bool.not_false, Bool.false_eq_true, reduceIte, decide_true, decide_false, Int.reduceLT, Int.reduceLE, Int.reduceGT, Int.reduceGE, Int.reduceEq, Int.reduceBEq, Int.reduceBNe, load_ptr, ldV_some, cellAt_cells, List.getElem?_cons_zero, List.getElem?_cons_succ, store_ptr, stO_some, setAt_0, setAt_1, setAt_2, setAt_3, setAt_4, setAt_5, setAt_6, setAt_7, setAt_8, setAt_9, setAt_10, setAt_11, setAt_12, cells_int, cells_bool, cells_str, cells_nils, cells_nilp, cells_ptr, cells_sl, cells_u8, cells_u16, cells_agg, get_upd_is, Option.isSome_some, upd_upd, ev1_nchkV, ev1_faV, nchkV_ptr, faV_ptr, ev1_extV, extV_tup, eqptr_nil, eqptr_ptr, Nat.zero_add, Nat.add_zero, qPL0, qPL1, qPL2, qPL3, qPL4, qPL5, beq_self_eq_true]
theorem not_is {c : Ct} (h : c.is = false) : c.may = false := by cases c <;> first | rfl | cases h
theorem fr_may_ctl {f : Fr} (h : f.may = true) : f.ctl.may = true := by
  obtain ⟨seat, count, cmd, c, body⟩ := f
  unfold Fr.may at h
  split at h
  · cases h
  · simp only [Bool.and_eq_true] at h; exact h.1.1
theorem long_get (a b c : UInt8) (rest : List UInt8) (s : St) : valR (evL1 1000 43 [.sl (bytesAV (a :: b :: c :: rest)) (rest.length + 3) none] (s.pl [])) = some (match gfr (a :: b :: c :: rest) with
    | some f => .tup [.agg f.cells, .bool true]
    | none => .tup [.agg Fr.zero.cells, .bool false]) := by
  rw [show (1000 : Nat) = 999 + 1 from rfl, evL1_in rfl tab43]
  have ha := a.toNat_lt
  have hb := b.toNat_lt
  have hc := c.toNat_lt
  have h37 := c37 998 c.toNat (by omega)
  have fz := fun s => (gct c.toNat).freeze 0 s
  have h47 := c47 998 (Fr.mk (a.toNat / 2 : Nat) b.toNat (decide (a.toNat % 2 = 1)) (gct c.toNat) rest)
  have e0 : bytesAV (a :: b :: c :: rest) = .int .u8 a.toNat :: .int .u8 b.toNat :: .int .u8 c.toNat :: bytesAV rest := rfl
  have i0 : ixaV 1 (.sl (.int .u8 a.toNat :: .int .u8 b.toNat :: .int .u8 c.toNat :: bytesAV rest) (rest.length + 3) none) (.int .i64 0) = some (.rp (.int .u8 a.toNat :: .int .u8 b.toNat :: .int .u8 c.toNat :: bytesAV rest)) := by
    simp only [ixaV, idx]; rw [if_pos ⟨by omega, by omega⟩]; rfl
  have i1 : ixaV 1 (.sl (.int .u8 a.toNat :: .int .u8 b.toNat :: .int .u8 c.toNat :: bytesAV rest) (rest.length + 3) none) (.int .i64 1) = some (.rp (.int .u8 b.toNat :: .int .u8 c.toNat :: bytesAV rest)) := by
    simp only [ixaV, idx]; rw [if_pos ⟨by omega, by omega⟩]; rfl
  have i2 : ixaV 1 (.sl (.int .u8 a.toNat :: .int .u8 b.toNat :: .int .u8 c.toNat :: bytesAV rest) (rest.length + 3) none) (.int .i64 2) = some (.rp (.int .u8 c.toNat :: bytesAV rest)) := by
    simp only [ixaV, idx]; rw [if_pos ⟨by omega, by omega⟩]; rfl
  have cu : ∀ x l, Ab.cut (x :: l) 0 none = some x := fun _ _ => rfl
  have hs : slcV 1 (.sl (.int .u8 a.toNat :: .int .u8 b.toNat :: .int .u8 c.toNat :: bytesAV rest) (rest.length + 3) none) (some (.int .i64 3)) none = some (.sl (bytesAV rest) rest.length none) := by
    simp only [slcV, bndO, bnd]
    rw [if_pos ⟨by omega, by omega⟩]
    have hl : (bytesAV rest).length = rest.length := bytesAV_length rest
    simp [tkCut, ← hl]
  have hb2 : convP .b2s (.sl (bytesAV rest) rest.length none) = some (.str rest) := by
    simp [convP, bytesAV_length, toBytes_bytesAV]
  have hw : IntKind.u8.wrap ((a.toNat : Int).tdiv 2) = ((a.toNat / 2 : Nat) : Int) := by
    have : (a.toNat : Int).tdiv 2 = ((a.toNat / 2 : Nat) : Int) := rfl
    rw [this, u8_wrap _ (by omega) (by omega)]
  have hm : (a.toNat : Int).tmod 2 = ((a.toNat % 2 : Nat) : Int) := rfl
  have hq : (((a.toNat % 2 : Nat) : Int) == 1) = decide (a.toNat % 2 = 1) := by
    rw [Bool.eq_iff_iff, beq_iff_eq, decide_eq_true_iff]; omega
  have hw1 : IntKind.i64.wrap ((a.toNat / 2 : Nat) : Int) = ((a.toNat / 2 : Nat) : Int) := wrapI _ (by omega) (by omega)
  have hw2 : IntKind.i64.wrap (b.toNat : Int) = (b.toNat : Int) := wrapI _ (by omega) (by omega)
  have hlt : (((rest.length + 3 : Nat) : Int) < 3) = False := eq_false (by omega)
  have uq := u8_quo a.toNat 2 (by omega)
  have ur := u8_rem a.toNat 2 (by omega)
  have gl : lenV (.sl (.int .u8 a.toNat :: .int .u8 b.toNat :: .int .u8 c.toNat :: bytesAV rest) (rest.length + 3) none) = some (.int .i64 (rest.length + 3 : Nat)) := rfl
  simp only [gfr]
  rw [e0]
  have cell : ∀ x, cellsOf (Ct.av x) = some [Ct.av x] := fun x => by cases x <;> rfl
  cases his : (gct c.toNat).is with
  | false =>
    have hmm : (Fr.mk (a.toNat / 2 : Nat) b.toNat (decide (a.toNat % 2 = 1)) (gct c.toNat) rest).may = false := by
      rw [Bool.eq_false_iff]
      intro h
      have := fr_may_ctl h
      rw [not_is his] at this
      cases this
    rw [hmm]
    rw [his] at h37
    simp only [M43, gl, hlt, i0, i1, i2, cu, h37, uq, ur, hw, hm, hq, hw1, hw2, hs, hb2, u8_eq, fz, cell, fill_5_3c, bk_convH, bkH_sl, bkH_int, ev1_slc, qES0, qES1, qES2, env0, List.length_cons, List.length_nil, Nat.reduceAdd, Nat.reduceSub, List.replicate, List.cons_append, List.nil_append, opd, Env.put, Env.at, List.set_cons_zero, List.set_cons_succ, List.getD_cons_zero, List.getD_cons_succ, freezeL, resVs, oneOr, Option.map_some, Option.map_none, List.map_cons, List.map_nil, if_true, if_false, Bool.not_true, Bool.not_false, Bool.false_eq_true, reduceIte, decide_true, decide_false, Int.reduceLT, Int.reduceLE, Int.reduceGT, Int.reduceGE, Int.reduceEq, Int.reduceBEq, Int.reduceBNe, load_ptr, ldV_some, cellAt_cells, List.getElem?_cons_zero, List.getElem?_cons_succ, store_ptr, stO_some, setAt_0, setAt_1, setAt_2, setAt_3, setAt_4, setAt_5, setAt_6, setAt_7, setAt_8, setAt_9, setAt_10, setAt_11, setAt_12, cells_int, cells_bool, cells_str, cells_nils, cells_nilp, cells_ptr, cells_sl, cells_u8, cells_u16, cells_agg, get_upd_is, Option.isSome_some, upd_upd, ev1_nchkV, ev1_faV, nchkV_ptr, faV_ptr, ev1_extV, extV_tup, eqptr_nil, eqptr_ptr, Nat.zero_add, Nat.add_zero, qPL0, qPL1, qPL2, qPL3, qPL4, qPL5, beq_self_eq_true, qED0, qED1, placeR]
    rw [drawR_ok]; case h => simp (config := { decide := true }) [calm, calmPair, calmTwo, List.range, List.range.loop, sameO_refl, plg0, plg1, plg2, plg3, plg4, plg5, plg6, plg7, plg8, plg9, plg10, plg11, plg12, plg13]
    simp only [fz, cell, Fr.zero, Fr.cells, av_n, qES0, qES1, qES2, env0, List.length_cons, List.length_nil, Nat.reduceAdd, Nat.reduceSub, List.replicate, List.cons_append, List.nil_append, opd, Env.put, Env.at, List.set_cons_zero, List.set_cons_succ, List.getD_cons_zero, List.getD_cons_succ, freezeL, resVs, oneOr, Option.map_some, Option.map_none, List.map_cons, List.map_nil, if_true, if_false, Bool.not_true, Bool.not_false, Bool.false_eq_true, reduceIte, decide_true, decide_false, Int.reduceLT, Int.reduceLE, Int.reduceGT, Int.reduceGE, Int.reduceEq, Int.reduceBEq, Int.reduceBNe, load_ptr, ldV_some, cellAt_cells, List.getElem?_cons_zero, List.getElem?_cons_succ, store_ptr, stO_some, setAt_0, setAt_1, setAt_2, setAt_3, setAt_4, setAt_5, setAt_6, setAt_7, setAt_8, setAt_9, setAt_10, setAt_11, setAt_12, cells_int, cells_bool, cells_str, cells_nils, cells_nilp, cells_ptr, cells_sl, cells_u8, cells_u16, cells_agg, get_upd_is, Option.isSome_some, upd_upd, ev1_nchkV, ev1_faV, nchkV_ptr, faV_ptr, ev1_extV, extV_tup, eqptr_nil, eqptr_ptr, Nat.zero_add, Nat.add_zero, qPL0, qPL1, qPL2, qPL3, qPL4, qPL5, beq_self_eq_true, qED0, qED1, placeR]
  | true =>
    rw [his] at h37
    simp only [Fr.cells] at h47
    cases hmm : (Fr.mk (a.toNat / 2 : Nat) b.toNat (decide (a.toNat % 2 = 1)) (gct c.toNat) rest).may with
    | false =>
      rw [hmm] at h47
      simp only [M43, gl, hlt, i0, i1, i2, cu, h37, uq, ur, hw, hm, hq, hw1, hw2, hs, hb2, u8_eq, fz, cell, fill_5_3c, bk_convH, bkH_sl, bkH_int, ev1_slc, qES0, qES1, qES2, env0, List.length_cons, List.length_nil, Nat.reduceAdd, Nat.reduceSub, List.replicate, List.cons_append, List.nil_append, opd, Env.put, Env.at, List.set_cons_zero, List.set_cons_succ, List.getD_cons_zero, List.getD_cons_succ, freezeL, resVs, oneOr, Option.map_some, Option.map_none, List.map_cons, List.map_nil, if_true, if_false, Bool.not_true, Bool.not_false, Bool.false_eq_true, reduceIte, decide_true, decide_false, Int.reduceLT, Int.reduceLE, Int.reduceGT, Int.reduceGE, Int.reduceEq, Int.reduceBEq, Int.reduceBNe, load_ptr, ldV_some, cellAt_cells, List.getElem?_cons_zero, List.getElem?_cons_succ, store_ptr, stO_some, setAt_0, setAt_1, setAt_2, setAt_3, setAt_4, setAt_5, setAt_6, setAt_7, setAt_8, setAt_9, setAt_10, setAt_11, setAt_12, cells_int, cells_bool, cells_str, cells_nils, cells_nilp, cells_ptr, cells_sl, cells_u8, cells_u16, cells_agg, get_upd_is, Option.isSome_some, upd_upd, ev1_nchkV, ev1_faV, nchkV_ptr, faV_ptr, ev1_extV, extV_tup, eqptr_nil, eqptr_ptr, Nat.zero_add, Nat.add_zero, qPL0, qPL1, qPL2, qPL3, qPL4, qPL5, beq_self_eq_true, qED0, qED1, placeR]
      rw [drawR_ok]; case h => simp (config := { decide := true }) [calm, calmPair, calmTwo, List.range, List.range.loop, sameO_refl, plg0, plg1, plg2, plg3, plg4, plg5, plg6, plg7, plg8, plg9, plg10, plg11, plg12, plg13]
      simp only [h47, fz, cell, Fr.zero, Fr.cells, av_n, qES0, qES1, qES2, env0, List.length_cons, List.length_nil, Nat.reduceAdd, Nat.reduceSub, List.replicate, List.cons_append, List.nil_append, opd, Env.put, Env.at, List.set_cons_zero, List.set_cons_succ, List.getD_cons_zero, List.getD_cons_succ, freezeL, resVs, oneOr, Option.map_some, Option.map_none, List.map_cons, List.map_nil, if_true, if_false, Bool.not_true, Bool.not_false, Bool.false_eq_true, reduceIte, decide_true, decide_false, Int.reduceLT, Int.reduceLE, Int.reduceGT, Int.reduceGE, Int.reduceEq, Int.reduceBEq, Int.reduceBNe, load_ptr, ldV_some, cellAt_cells, List.getElem?_cons_zero, List.getElem?_cons_succ, store_ptr, stO_some, setAt_0, setAt_1, setAt_2, setAt_3, setAt_4, setAt_5, setAt_6, setAt_7, setAt_8, setAt_9, setAt_10, setAt_11, setAt_12, cells_int, cells_bool, cells_str, cells_nils, cells_nilp, cells_ptr, cells_sl, cells_u8, cells_u16, cells_agg, get_upd_is, Option.isSome_some, upd_upd, ev1_nchkV, ev1_faV, nchkV_ptr, faV_ptr, ev1_extV, extV_tup, eqptr_nil, eqptr_ptr, Nat.zero_add, Nat.add_zero, qPL0, qPL1, qPL2, qPL3, qPL4, qPL5, beq_self_eq_true, qED0, qED1, placeR]
    | true =>
      rw [hmm] at h47
      simp only [M43, gl, hlt, i0, i1, i2, cu, h37, uq, ur, hw, hm, hq, hw1, hw2, hs, hb2, u8_eq, fz, cell, fill_5_3c, bk_convH, bkH_sl, bkH_int, ev1_slc, qES0, qES1, qES2, env0, List.length_cons, List.length_nil, Nat.reduceAdd, Nat.reduceSub, List.replicate, List.cons_append, List.nil_append, opd, Env.put, Env.at, List.set_cons_zero, List.set_cons_succ, List.getD_cons_zero, List.getD_cons_succ, freezeL, resVs, oneOr, Option.map_some, Option.map_none, List.map_cons, List.map_nil, if_true, if_false, Bool.not_true, Bool.not_false, Bool.false_eq_true, reduceIte, decide_true, decide_false, Int.reduceLT, Int.reduceLE, Int.reduceGT, Int.reduceGE, Int.reduceEq, Int.reduceBEq, Int.reduceBNe, load_ptr, ldV_some, cellAt_cells, List.getElem?_cons_zero, List.getElem?_cons_succ, store_ptr, stO_some, setAt_0, setAt_1, setAt_2, setAt_3, setAt_4, setAt_5, setAt_6, setAt_7, setAt_8, setAt_9, setAt_10, setAt_11, setAt_12, cells_int, cells_bool, cells_str, cells_nils, cells_nilp, cells_ptr, cells_sl, cells_u8, cells_u16, cells_agg, get_upd_is, Option.isSome_some, upd_upd, ev1_nchkV, ev1_faV, nchkV_ptr, faV_ptr, ev1_extV, extV_tup, eqptr_nil, eqptr_ptr, Nat.zero_add, Nat.add_zero, qPL0, qPL1, qPL2, qPL3, qPL4, qPL5, beq_self_eq_true, qED0, qED1, placeR]
      rw [drawR_ok]; case h => simp (config := { decide := true }) [calm, calmPair, calmTwo, List.range, List.range.loop, sameO_refl, plg0, plg1, plg2, plg3, plg4, plg5, plg6, plg7, plg8, plg9, plg10, plg11, plg12, plg13]
      simp only [h47, fz, cell, Fr.zero, Fr.cells, av_n, qES0, qES1, qES2, env0, List.length_cons, List.length_nil, Nat.reduceAdd, Nat.reduceSub, List.replicate, List.cons_append, List.nil_append, opd, Env.put, Env.at, List.set_cons_zero, List.set_cons_succ, List.getD_cons_zero, List.getD_cons_succ, freezeL, resVs, oneOr, Option.map_some, Option.map_none, List.map_cons, List.map_nil, if_true, if_false, Bool.not_true, Bool.not_false, Bool.false_eq_true, reduceIte, decide_true, decide_false, Int.reduceLT, Int.reduceLE, Int.reduceGT, Int.reduceGE, Int.reduceEq, Int.reduceBEq, Int.reduceBNe, load_ptr, ldV_some, cellAt_cells, List.getElem?_cons_zero, List.getElem?_cons_succ, store_ptr, stO_some, setAt_0, setAt_1, setAt_2, setAt_3, setAt_4, setAt_5, setAt_6, setAt_7, setAt_8, setAt_9, setAt_10, setAt_11, setAt_12, cells_int, cells_bool, cells_str, cells_nils, cells_nilp, cells_ptr, cells_sl, cells_u8, cells_u16, cells_agg, get_upd_is, Option.isSome_some, upd_upd, ev1_nchkV, ev1_faV, nchkV_ptr, faV_ptr, ev1_extV, extV_tup, eqptr_nil, eqptr_ptr, Nat.zero_add, Nat.add_zero, qPL0, qPL1, qPL2, qPL3, qPL4, qPL5, beq_self_eq_true, qED0, qED1, placeR]
theorem fget_pure : PureOk (evL1 1000) 43 hFGet := pureOk_of (by
  intro args s v h
  unfold hFGet at h
  split at h
  · obtain ⟨bs, hb, rfl⟩ := one_of h
    refine ⟨?_, ?_, ?_⟩
    · split
      · simp [Ab.flat, Ab.flatL, Fr.cells, Ct.flat]
      · rfl
    · rcases toBs_of hb with ⟨rfl, rfl⟩ | rfl
      · rfl
      · simp [Ab.flat, Ab.flatL, bytes_flat]
    · rcases toBs_of hb with ⟨rfl, rfl⟩ | rfl
      · exact short_get .nils 0 rfl (fun _ => rfl) (by decide) St.nil
      · match bs with
        | [] => exact short_get _ 0 rfl (fun _ => rfl) (by decide) St.nil
        | [a] => exact short_get _ 1 rfl (fun _ => rfl) (by decide) St.nil
        | [a, b] => exact short_get _ 2 rfl (fun _ => rfl) (by decide) St.nil
        | a :: b :: c :: rest => exact long_get a b c rest St.nil
  · cases h)
/-! glowwormref4.Put of what may be. -/
def Pn.bytes (p : Pn) : List AV := .int .u8 (p.seat * 2 + (if p.cmd = true then 1 else 0)) :: .int .u8 p.count :: .int .u8 p.ctl.num :: bytesAV p.body
def hRPut : List AV → St → Option AV
  | [v], _ => (toPn v).bind fun p => if p.may = true then some (.sl p.bytes (3 + p.body.length) none) else none
  | _, _ => none
theorem rput_val (p : Pn) (hm : p.may = true) (s : St) : valR (evL1 1000 44 [.agg p.cells] (s.pl [])) = some (.sl p.bytes (3 + p.body.length) none) := by
  rw [show (1000 : Nat) = 999 + 1 from rfl, evL1_in rfl tab44]
  have h34 := c34 998 p
  rw [pn_may] at hm
  simp only [Bool.and_eq_true, decide_eq_true_eq] at hm
  obtain ⟨hk, ⟨⟨⟨⟨a1, a2⟩, a3⟩, a4⟩, a5⟩, _⟩ := hm
  simp only [hk, if_true] at h34
  obtain ⟨seat, count, cmd, kind, sort, nr, ns, pf, body⟩ := p
  simp only [Pn.cells] at h34 a1 a2 a3 a4 a5 ⊢
  have w1 : IntKind.i64.wrap (seat * 2) = seat * 2 := wrapI _ (by omega) (by omega)
  have w2 : IntKind.i64.wrap (seat * 2 + 1) = seat * 2 + 1 := wrapI _ (by omega) (by omega)
  have w3 := u8_wrap (seat * 2) (by omega) (by omega)
  have w4 := u8_wrap (seat * 2 + 1) (by omega) (by omega)
  have w5 := u8_wrap count (by omega) (by omega)
  have hap := fun (s : St) (x y z : AV) (t v : Nat) => appT_3 s x y z body t v (by omega)
  cases cmd <;> simp only [M44, h34, w1, w2, w3, w4, w5, hap, appV_str, fill3a, fill3b, fill3d, qES0, qES1, qES2, env0, List.length_cons, List.length_nil, Nat.reduceAdd, Nat.reduceSub, List.replicate, List.cons_append, List.nil_append, opd, Env.put, Env.at, List.set_cons_zero, List.set_cons_succ, List.getD_cons_zero, List.getD_cons_succ, freezeL, resVs, oneOr, Option.map_some, Option.map_none, List.map_cons, List.map_nil, if_true, if_false, Bool.not_true, Bool.not_false, Bool.false_eq_true, reduceIte, decide_true, decide_false, Int.reduceLT, Int.reduceLE, Int.reduceGT, Int.reduceGE, Int.reduceEq, Int.reduceBEq, Int.reduceBNe, load_ptr, ldV_some, cellAt_cells, List.getElem?_cons_zero, List.getElem?_cons_succ, store_ptr, stO_some, setAt_0, setAt_1, setAt_2, setAt_3, setAt_4, setAt_5, setAt_6, setAt_7, setAt_8, setAt_9, setAt_10, setAt_11, setAt_12, cells_int, cells_bool, cells_str, cells_nils, cells_nilp, cells_ptr, cells_sl, cells_u8, cells_u16, cells_agg, get_upd_is, Option.isSome_some, upd_upd, ev1_nchkV, ev1_faV, nchkV_ptr, faV_ptr, ev1_extV, extV_tup, eqptr_nil, eqptr_ptr, Nat.zero_add, Nat.add_zero, qPL0, qPL1, qPL2, qPL3, qPL4, qPL5, beq_self_eq_true, Pn.bytes, Int.add_zero]
theorem rput_pure : PureOk (evL1 1000) 44 hRPut := pureOk_of (by
  intro args s v h
  unfold hRPut at h
  split at h
  · obtain ⟨p, hp, h2⟩ := Option.bind_eq_some_iff.1 h
    rw [toPn_of hp]
    split at h2
    · rename_i hm
      cases h2
      exact ⟨by simp [Ab.flat, Ab.flatL, Pn.bytes, bytes_flat], by simp [flatL, p.flat], rput_val p hm St.nil⟩
    · cases h2
  · cases h)
end Go.Proofs.YthcblggiojpmcaaDoor
