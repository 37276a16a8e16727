/- ctl.Nr, MustI, MustS, MustU as what they answer. No conditions. -/
import Derived.Test.YthcblggiojpmcaaDoorFal
import Derived.Test.YthcblggiojpmcaaDoorM4m
set_option linter.unusedSimpArgs false
set_option linter.unusedVariables false
set_option maxRecDepth 100000
namespace Go.Proofs.YthcblggiojpmcaaDoor
open Go Go.Ab
noncomputable def evM : Nat → Calls' := evF tabGl (tableOf Tryd.prog) extM
theorem evM_in {k f : Nat} {m : MFun} (hx : extM f = none) (hF : tableOf Tryd.prog f = some m) (args : List AV) (s : St) :
    evM (k + 1) f args s = outR m.res (evC tabGl (evM k) k m.body (env0 m.ntmps args) s) := evF_in hx hF args s
def tasF (t : Nat) : AV → Option AV
  | .iface u v => if u = t then some v else none
  | _ => none
theorem ev1_tasF (gl : Nat → AV) (call : Calls') (e : Env) (s : St) (t : Nat) (z : AV) (x : Opd) : ev1 gl call e s (.tas t z false x) = pR s (tasF t (opd gl e x)) := by
  rw [ev1_tas]
  simp only [evP, tasF]
  generalize opd gl e x = v
  cases v <;> simp only [if_false, Bool.false_eq_true]
theorem tasF_same (t : Nat) (v : AV) : tasF t (.iface t v) = some v := by simp [tasF]
def Ct.nrA : Ct → AV
  | .i a _ _ => .tup [.int .i64 a, .bool true]
  | .s _ b _ => .tup [.int .i64 b, .bool true]
  | _ => .tup [.int .i64 0, .bool false]
def hNr : List AV → St → Option AV
  | [v], _ => (toCt v).map Ct.nrA
  | _, _ => none
def Ct.mi : Ct → Option AV
  | .i a b p => some (.agg [.int .i64 a, .int .i64 b, .bool p])
  | _ => none
def Ct.ms : Ct → Option AV
  | .s a b p => some (.agg [.int .i64 a, .int .i64 b, .bool p])
  | _ => none
def Ct.mu : Ct → Option AV
  | .u a p => some (.agg [.int .i64 a, .bool p])
  | _ => none
def hMI : List AV → St → Option AV
  | [v], _ => (toCt v).bind Ct.mi
  | _, _ => none
def hMS : List AV → St → Option AV
  | [v], _ => (toCt v).bind Ct.ms
  | _, _ => none
def hMU : List AV → St → Option AV
  | [v], _ => (toCt v).bind Ct.mu
  | _, _ => none
theorem nr_val (c : Ct) : valR (evM 1000 59 [c.av] (St.nil.pl [])) = some c.nrA := by
  rw [show (1000 : Nat) = 999 + 1 from rfl, evM_in rfl tab59]
  cases c <;> simp only [M59, Ct.av, Ct.nrA, ev1_tasV, tas_same, tas_6484, tas_6486, tas_8464, tas_8486, tas_8664, tas_8684, tas_nil, qES0, qES1, qES2, env0, List.length_cons, List.length_nil, Nat.reduceAdd, Nat.reduceSub, List.replicate, List.cons_append, List.nil_append, opd, Env.put, Env.at, List.set_cons_zero, List.set_cons_succ, List.getD_cons_zero, List.getD_cons_succ, freezeL, resVs, oneOr, Option.map_some, Option.map_none, List.map_cons, List.map_nil, if_true, if_false, Bool.not_true, Bool.not_false, Bool.false_eq_true, reduceIte, decide_true, decide_false, Int.reduceLT, Int.reduceLE, Int.reduceGT, Int.reduceGE, Int.reduceEq, Int.reduceBEq, Int.reduceBNe, load_ptr, ldV_some, cellAt_cells, List.getElem?_cons_zero, List.getElem?_cons_succ, store_ptr, stO_some, setAt_0, setAt_1, setAt_2, setAt_3, setAt_4, setAt_5, setAt_6, setAt_7, setAt_8, setAt_9, setAt_10, setAt_11, setAt_12, cells_int, cells_bool, cells_str, cells_nils, cells_nilp, cells_ptr, cells_sl, cells_u8, cells_u16, cells_agg, get_upd_is, Option.isSome_some, upd_upd, ev1_nchkV, ev1_faV, nchkV_ptr, faV_ptr, ev1_extV, extV_tup, eqptr_nil, eqptr_ptr, Nat.zero_add, Nat.add_zero, qPL0, qPL1, qPL2, qPL3, qPL4, qPL5, beq_self_eq_true, qED0, qED1, placeR]
theorem mi_val (a b : Int) (p : Bool) : valR (evM 1000 60 [.iface 64 (.agg [.int .i64 a, .int .i64 b, .bool p])] (St.nil.pl [])) = some (.agg [.int .i64 a, .int .i64 b, .bool p]) := by
  rw [show (1000 : Nat) = 999 + 1 from rfl, evM_in rfl tab60]
  simp only [M60, ev1_tasF, tasF_same, qES0, qES1, qES2, env0, List.length_cons, List.length_nil, Nat.reduceAdd, Nat.reduceSub, List.replicate, List.cons_append, List.nil_append, opd, Env.put, Env.at, List.set_cons_zero, List.set_cons_succ, List.getD_cons_zero, List.getD_cons_succ, freezeL, resVs, oneOr, Option.map_some, Option.map_none, List.map_cons, List.map_nil, if_true, if_false, Bool.not_true, Bool.not_false, Bool.false_eq_true, reduceIte, decide_true, decide_false, Int.reduceLT, Int.reduceLE, Int.reduceGT, Int.reduceGE, Int.reduceEq, Int.reduceBEq, Int.reduceBNe, load_ptr, ldV_some, cellAt_cells, List.getElem?_cons_zero, List.getElem?_cons_succ, store_ptr, stO_some, setAt_0, setAt_1, setAt_2, setAt_3, setAt_4, setAt_5, setAt_6, setAt_7, setAt_8, setAt_9, setAt_10, setAt_11, setAt_12, cells_int, cells_bool, cells_str, cells_nils, cells_nilp, cells_ptr, cells_sl, cells_u8, cells_u16, cells_agg, get_upd_is, Option.isSome_some, upd_upd, ev1_nchkV, ev1_faV, nchkV_ptr, faV_ptr, ev1_extV, extV_tup, eqptr_nil, eqptr_ptr, Nat.zero_add, Nat.add_zero, qPL0, qPL1, qPL2, qPL3, qPL4, qPL5, beq_self_eq_true, qED0, qED1, placeR]
theorem ms_val (a b : Int) (p : Bool) : valR (evM 1000 61 [.iface 84 (.agg [.int .i64 a, .int .i64 b, .bool p])] (St.nil.pl [])) = some (.agg [.int .i64 a, .int .i64 b, .bool p]) := by
  rw [show (1000 : Nat) = 999 + 1 from rfl, evM_in rfl tab61]
  simp only [M61, ev1_tasF, tasF_same, qES0, qES1, qES2, env0, List.length_cons, List.length_nil, Nat.reduceAdd, Nat.reduceSub, List.replicate, List.cons_append, List.nil_append, opd, Env.put, Env.at, List.set_cons_zero, List.set_cons_succ, List.getD_cons_zero, List.getD_cons_succ, freezeL, resVs, oneOr, Option.map_some, Option.map_none, List.map_cons, List.map_nil, if_true, if_false, Bool.not_true, Bool.not_false, Bool.false_eq_true, reduceIte, decide_true, decide_false, Int.reduceLT, Int.reduceLE, Int.reduceGT, Int.reduceGE, Int.reduceEq, Int.reduceBEq, Int.reduceBNe, load_ptr, ldV_some, cellAt_cells, List.getElem?_cons_zero, List.getElem?_cons_succ, store_ptr, stO_some, setAt_0, setAt_1, setAt_2, setAt_3, setAt_4, setAt_5, setAt_6, setAt_7, setAt_8, setAt_9, setAt_10, setAt_11, setAt_12, cells_int, cells_bool, cells_str, cells_nils, cells_nilp, cells_ptr, cells_sl, cells_u8, cells_u16, cells_agg, get_upd_is, Option.isSome_some, upd_upd, ev1_nchkV, ev1_faV, nchkV_ptr, faV_ptr, ev1_extV, extV_tup, eqptr_nil, eqptr_ptr, Nat.zero_add, Nat.add_zero, qPL0, qPL1, qPL2, qPL3, qPL4, qPL5, beq_self_eq_true, qED0, qED1, placeR]
theorem mu_val (a : Int) (p : Bool) : valR (evM 1000 62 [.iface 86 (.agg [.int .i64 a, .bool p])] (St.nil.pl [])) = some (.agg [.int .i64 a, .bool p]) := by
  rw [show (1000 : Nat) = 999 + 1 from rfl, evM_in rfl tab62]
  simp only [M62, ev1_tasF, tasF_same, qES0, qES1, qES2, env0, List.length_cons, List.length_nil, Nat.reduceAdd, Nat.reduceSub, List.replicate, List.cons_append, List.nil_append, opd, Env.put, Env.at, List.set_cons_zero, List.set_cons_succ, List.getD_cons_zero, List.getD_cons_succ, freezeL, resVs, oneOr, Option.map_some, Option.map_none, List.map_cons, List.map_nil, if_true, if_false, Bool.not_true, Bool.not_false, Bool.false_eq_true, reduceIte, decide_true, decide_false, Int.reduceLT, Int.reduceLE, Int.reduceGT, Int.reduceGE, Int.reduceEq, Int.reduceBEq, Int.reduceBNe, load_ptr, ldV_some, cellAt_cells, List.getElem?_cons_zero, List.getElem?_cons_succ, store_ptr, stO_some, setAt_0, setAt_1, setAt_2, setAt_3, setAt_4, setAt_5, setAt_6, setAt_7, setAt_8, setAt_9, setAt_10, setAt_11, setAt_12, cells_int, cells_bool, cells_str, cells_nils, cells_nilp, cells_ptr, cells_sl, cells_u8, cells_u16, cells_agg, get_upd_is, Option.isSome_some, upd_upd, ev1_nchkV, ev1_faV, nchkV_ptr, faV_ptr, ev1_extV, extV_tup, eqptr_nil, eqptr_ptr, Nat.zero_add, Nat.add_zero, qPL0, qPL1, qPL2, qPL3, qPL4, qPL5, beq_self_eq_true, qED0, qED1, placeR]
theorem nr_pure : PureOk (evM 1000) 59 hNr := pureOk_of (by
  intro args s v h
  unfold hNr at h
  split at h
  · obtain ⟨c, hc, rfl⟩ := one_of h
    rw [toCt_of hc]
    exact ⟨by cases c <;> rfl, by simp [flatL, c.flat], nr_val c⟩
  · cases h)
theorem mi_pure : PureOk (evM 1000) 60 hMI := pureOk_of (by
  intro args s v h
  unfold hMI at h
  split at h
  · obtain ⟨c, hc, h2⟩ := Option.bind_eq_some_iff.1 h
    rw [toCt_of hc]
    cases c with
    | i a b p => cases h2; exact ⟨rfl, rfl, mi_val a b p⟩
    | _ => cases h2
  · cases h)
theorem ms_pure : PureOk (evM 1000) 61 hMS := pureOk_of (by
  intro args s v h
  unfold hMS at h
  split at h
  · obtain ⟨c, hc, h2⟩ := Option.bind_eq_some_iff.1 h
    rw [toCt_of hc]
    cases c with
    | s a b p => cases h2; exact ⟨rfl, rfl, ms_val a b p⟩
    | _ => cases h2
  · cases h)
theorem mu_pure : PureOk (evM 1000) 62 hMU := pureOk_of (by
  intro args s v h
  unfold hMU at h
  split at h
  · obtain ⟨c, hc, h2⟩ := Option.bind_eq_some_iff.1 h
    rw [toCt_of hc]
    cases c with
    | u a p => cases h2; exact ⟨rfl, rfl, mu_val a p⟩
    | _ => cases h2
  · cases h)
def lstV (f : Nat) : Option (List AV → St → Option AV) :=
  if f = 59 then some hNr else if f = 60 then some hMI else if f = 61 then some hMS else if f = 62 then some hMU else none
noncomputable def extV := extWith extM lstV
theorem extV_ok : ∀ w0, ExtOk Tryd.prog tabGl w0 extV := extOk_add (tableOf_ok _) mixed tab_flat extM_ok lstV (by
  intro f h hf
  unfold lstV at hf
  rcases some_of hf with ⟨rfl, rfl⟩ | hf
  · exact ⟨by rw [tab59]; rfl, 1000, nr_pure⟩
  rcases some_of hf with ⟨rfl, rfl⟩ | hf
  · exact ⟨by rw [tab60]; rfl, 1000, mi_pure⟩
  rcases some_of hf with ⟨rfl, rfl⟩ | hf
  · exact ⟨by rw [tab61]; rfl, 1000, ms_pure⟩
  rcases some_of hf with ⟨rfl, rfl⟩ | hf
  · exact ⟨by rw [tab62]; rfl, 1000, mu_pure⟩
  cases hf)
noncomputable def evV : Nat → Calls' := evF tabGl (tableOf Tryd.prog) extV
theorem evV_ok (w0 : World) (k : Nat) : CallOk Tryd.prog tabGl w0 (evV k) := evF_sound (tableOf_ok _) (extV_ok w0) mixed k
theorem evV_in {k f : Nat} {m : MFun} (hx : extV f = none) (hF : tableOf Tryd.prog f = some m) (args : List AV) (s : St) :
    evV (k + 1) f args s = outR m.res (evC tabGl (evV k) k m.body (env0 m.ntmps args) s) := evF_in hx hF args s
theorem v20 (k : Nat) (s : St) : evV (k + 1) 20 [] s = some (.bool true, s) := evF_ext (H := hTrue) rfl rfl
theorem v33 (k : Nat) (p : Pn) (s : St) : evV (k + 1) 33 [.agg p.cells] s = some (p.ctl.av, s) := evF_ext (H := hAny1) rfl rfl
theorem v36 (k : Nat) (c : Ct) (s : St) : evV (k + 1) 36 [c.av] s = some (.bool c.may, s) := evF_ext (H := hMay) rfl (by simp only [List.map_cons, List.map_nil, dry_ct, hMay, toCt_av, Option.map_some])
theorem v38 (k : Nat) (c : Ct) (s : St) : evV (k + 1) 38 [c.av] s = some (.bool c.pf, s) := evF_ext (H := hPf) rfl (by simp only [List.map_cons, List.map_nil, dry_ct, hPf, toCt_av, Option.map_some])
theorem v58 (k : Nat) (c : Ct) (j : Int) (h : j = 1 ∨ j = 2 ∨ j = 3) (s : St) : evV (k + 1) 58 [c.av, .int .i64 j] s = some (.bool (decide (c.tag ≠ j)), s) := evF_ext (H := hFalls) rfl (by
  simp only [List.map_cons, List.map_nil, dry_ct, dry1_int, hFalls, toCt_av, Option.map_some]
  rw [if_pos h])
theorem v59 (k : Nat) (c : Ct) (s : St) : evV (k + 1) 59 [c.av] s = some (c.nrA, s) := evF_ext (H := hNr) rfl (by simp only [List.map_cons, List.map_nil, dry_ct, hNr, toCt_av, Option.map_some])
theorem v60 (k : Nat) (a b : Int) (p : Bool) (s : St) : evV (k + 1) 60 [.iface 64 (.agg [.int .i64 a, .int .i64 b, .bool p])] s = some (.agg [.int .i64 a, .int .i64 b, .bool p], s) := evF_ext (H := hMI) rfl rfl
theorem v61 (k : Nat) (a b : Int) (p : Bool) (s : St) : evV (k + 1) 61 [.iface 84 (.agg [.int .i64 a, .int .i64 b, .bool p])] s = some (.agg [.int .i64 a, .int .i64 b, .bool p], s) := evF_ext (H := hMS) rfl rfl
theorem v62 (k : Nat) (a : Int) (p : Bool) (s : St) : evV (k + 1) 62 [.iface 86 (.agg [.int .i64 a, .bool p])] s = some (.agg [.int .i64 a, .bool p], s) := evF_ext (H := hMU) rfl rfl
end Go.Proofs.YthcblggiojpmcaaDoor
