/- What the evaluator says of the law CtlCount: true. No conditions. -/
import Derived.Test.YthcblggiojpmcaaDoorL5
import Derived.Test.YthcblggiojpmcaaDoorM4_CtlCount
set_option linter.unusedVariables false
set_option linter.unusedSimpArgs false
set_option maxRecDepth 100000
namespace Go.Ab
open Go
def ixpV (len size : Nat) (x i : AV) : Option AV :=
  match x with
    | .ptr b o => match idx len i with
      | some j => some (.ptr b (o + j * size))
      | none => none
    | .rp cs => match idx len i with
      | some j => if j * size ≤ cs.length then some (.rp (cs.drop (j * size))) else none
      | none => none
    | _ => none
theorem evP_ixp (gl : Nat → AV) (e : Env) (n m : Nat) (x i : Opd) : evP gl e (.ixp n m x i) = ixpV n m (opd gl e x) (opd gl e i) := by
  simp only [evP, ixpV]
  generalize opd gl e x = v
  cases v <;> rfl
theorem ixp4_0 (b : Nat) : ixpV 4 1 (.ptr b 0) (.int .i64 0) = some (.ptr b 0) := (id rfl)
theorem ixp4_1 (b : Nat) : ixpV 4 1 (.ptr b 0) (.int .i64 1) = some (.ptr b 1) := (id rfl)
theorem ixp4_2 (b : Nat) : ixpV 4 1 (.ptr b 0) (.int .i64 2) = some (.ptr b 2) := (id rfl)
theorem ixp4_3 (b : Nat) : ixpV 4 1 (.ptr b 0) (.int .i64 3) = some (.ptr b 3) := (id rfl)
end Go.Ab
namespace Go.Proofs.YthcblggiojpmcaaDoor.ctlCount
open Go Go.Ab
def cls : Ct → Nat
  | .n => 0
  | .i _ _ _ => 1
  | .s _ _ _ => 2
  | .u _ _ => 3
def cnt (k i : Nat) : Nat := ((List.range i).filter (fun b => cls (gct b) == k)).length
theorem cnt_succ (k i : Nat) : cnt k (i + 1) = cnt k i + (if cls (gct i) = k then 1 else 0) := by
  simp only [cnt, List.range_succ, List.filter_append, List.length_append, List.filter_cons, List.filter_nil]
  by_cases h : cls (gct i) = k <;> simp [h]
theorem cnt_le (k i : Nat) : cnt k i ≤ i := by
  induction i with
  | zero => exact Nat.le_refl _
  | succ i ih => rw [cnt_succ]; split <;> omega
theorem num_gct : ∀ n, n < 256 → (gct n).is = true → (gct n).may = true ∧ (gct n).num = (n : Nat) := by decide +kernel
def E14 (R : Nat) (b : Int) : Env := [.undef, .ptr R 0, .int .i64 b, .undef, .undef, .undef, .undef, .undef, .undef, .undef, .undef, .undef, .undef, .undef, .undef, .undef, .undef, .undef, .undef, .undef, .undef, .undef, .undef, .undef, .undef, .undef, .undef, .undef, .undef, .undef, .undef, .undef, .undef, .undef, .undef, .undef, .undef, .undef, .undef, .undef, .undef, .undef, .undef, .undef, .undef, .undef, .undef, .undef, .undef, .undef, .undef, .undef, .undef, .undef, .undef, .undef, .undef, .undef, .undef, .undef, .undef, .undef, .undef, .undef, .undef, .undef, .undef, .undef, .undef, .undef, .undef, .undef, .undef, .undef, .undef, .undef, .undef, .undef, .undef]
def E14X (R : Nat) : Env := [.undef, .ptr R 0, .int .i64 256, .undef, .undef, .undef, .undef, .int .i64 256, .bool false, .undef, .undef, .undef, .undef, .undef, .undef, .undef, .undef, .undef, .undef, .undef, .undef, .undef, .undef, .undef, .undef, .undef, .undef, .undef, .undef, .undef, .undef, .undef, .undef, .undef, .undef, .undef, .undef, .undef, .undef, .undef, .undef, .undef, .undef, .undef, .undef, .undef, .undef, .undef, .undef, .undef, .undef, .undef, .undef, .undef, .undef, .undef, .undef, .undef, .undef, .undef, .undef, .undef, .undef, .undef, .undef, .undef, .undef, .undef, .undef, .undef, .undef, .undef, .undef, .undef, .undef, .undef, .undef, .undef, .undef]
def St14 (s : St) (i : Nat) : St := s.pl [.cells 0 [.int .i64 (cnt 0 i : Nat), .int .i64 (cnt 1 i : Nat), .int .i64 (cnt 2 i : Nat), .int .i64 (cnt 3 i : Nat)]]
theorem round (s : St) (i : Nat) (hi : i < 256) : ∃ e', evC tabGl (evL4 999) 999 M14b0 (E14 s.next i) (St14 s i) = some (.nrm, e', St14 s (i + 1)) ∧ maskE M14b0l e' = E14 s.next ((i + 1 : Nat) : Int) := by
  have h37 := f37 998 i hi
  have h35 := f35 998 (gct i)
  have fz := fun s => (gct i).freeze 0 s
  have hlt : ((i : Int) < 256) = True := eq_true (by omega)
  have w0 := u8_wrap (i : Int) (by omega) (by omega)
  have w1 : IntKind.i64.wrap ((i : Int) + 1) = ((i + 1 : Nat) : Int) := (wrapI _ (by omega) (by omega)).trans (by omega)
  have hc := fun k => cnt_le k i
  have wc : ∀ k, IntKind.i64.wrap ((cnt k i : Int) + 1) = ((cnt k i + 1 : Nat) : Int) := fun k => (wrapI _ (by omega) (by have := hc k; omega)).trans (by omega)
  have nn : binV .neq (.int .u8 (i : Int)) (.int .u8 (i : Int)) = some (.bool false) := by
    show some (AV.bool ((i : Int) != i)) = _
    simp
  have c0 := cnt_succ 0 i
  have c1 := cnt_succ 1 i
  have c2 := cnt_succ 2 i
  have c3 := cnt_succ 3 i
  have hg := num_gct i hi
  simp only [St14, c0, c1, c2, c3]
  generalize gct i = T at h37 h35 fz hg
  cases T with
  | n =>
    simp only [av_n, Ct.is] at h37
    simp only [M14b0, E14, cls, h37, hlt, w0, w1, wc, evP_ixp, ixp4_0, ixp4_1, ixp4_2, ixp4_3, ev1_ixp, qES0, qES1, qES2, env0, List.length_cons, List.length_nil, Nat.reduceAdd, Nat.reduceSub, List.replicate, List.cons_append, List.nil_append, opd, Env.put, Env.at, List.set_cons_zero, List.set_cons_succ, List.getD_cons_zero, List.getD_cons_succ, freezeL, resVs, oneOr, Option.map_some, Option.map_none, List.map_cons, List.map_nil, if_true, if_false, Bool.not_true, Bool.not_false, Bool.false_eq_true, reduceIte, decide_true, decide_false, Int.reduceLT, Int.reduceLE, Int.reduceGT, Int.reduceGE, Int.reduceEq, Int.reduceBEq, Int.reduceBNe, load_ptr, ldV_some, cellAt_cells, List.getElem?_cons_zero, List.getElem?_cons_succ, store_ptr, stO_some, setAt_0, setAt_1, setAt_2, setAt_3, setAt_4, setAt_5, setAt_6, setAt_7, setAt_8, setAt_9, setAt_10, setAt_11, setAt_12, cells_int, cells_bool, cells_str, cells_nils, cells_nilp, cells_ptr, cells_sl, cells_u8, cells_u16, cells_agg, get_upd_is, Option.isSome_some, upd_upd, ev1_nchkV, ev1_faV, nchkV_ptr, faV_ptr, ev1_extV, extV_tup, eqptr_nil, eqptr_ptr, Nat.zero_add, Nat.add_zero, qPL0, qPL1, qPL2, qPL3, qPL4, qPL5, beq_self_eq_true, Nat.reduceEqDiff, reduceCtorEq, Nat.add_zero]
    exact ⟨_, rfl, rfl⟩
  | i a b pf =>
    obtain ⟨g1, g2⟩ := hg rfl
    simp only [g1, g2, if_true] at h35
    simp only [Ct.av, Ct.is] at h37 h35 fz
    simp only [M14b0, E14, cls, h37, h35, fz, hlt, w0, w1, wc, nn, evP_ixp, ixp4_0, ixp4_1, ixp4_2, ixp4_3, ev1_ixp, qES0, qES1, qES2, env0, List.length_cons, List.length_nil, Nat.reduceAdd, Nat.reduceSub, List.replicate, List.cons_append, List.nil_append, opd, Env.put, Env.at, List.set_cons_zero, List.set_cons_succ, List.getD_cons_zero, List.getD_cons_succ, freezeL, resVs, oneOr, Option.map_some, Option.map_none, List.map_cons, List.map_nil, if_true, if_false, Bool.not_true, Bool.not_false, Bool.false_eq_true, reduceIte, decide_true, decide_false, Int.reduceLT, Int.reduceLE, Int.reduceGT, Int.reduceGE, Int.reduceEq, Int.reduceBEq, Int.reduceBNe, load_ptr, ldV_some, cellAt_cells, List.getElem?_cons_zero, List.getElem?_cons_succ, store_ptr, stO_some, setAt_0, setAt_1, setAt_2, setAt_3, setAt_4, setAt_5, setAt_6, setAt_7, setAt_8, setAt_9, setAt_10, setAt_11, setAt_12, cells_int, cells_bool, cells_str, cells_nils, cells_nilp, cells_ptr, cells_sl, cells_u8, cells_u16, cells_agg, get_upd_is, Option.isSome_some, upd_upd, ev1_nchkV, ev1_faV, nchkV_ptr, faV_ptr, ev1_extV, extV_tup, eqptr_nil, eqptr_ptr, Nat.zero_add, Nat.add_zero, qPL0, qPL1, qPL2, qPL3, qPL4, qPL5, beq_self_eq_true, Nat.reduceEqDiff, reduceCtorEq, Nat.add_zero]
    exact ⟨_, rfl, rfl⟩
  | s a b pf =>
    obtain ⟨g1, g2⟩ := hg rfl
    simp only [g1, g2, if_true] at h35
    simp only [Ct.av, Ct.is] at h37 h35 fz
    simp only [M14b0, E14, cls, h37, h35, fz, hlt, w0, w1, wc, nn, tas_6484, evP_ixp, ixp4_0, ixp4_1, ixp4_2, ixp4_3, ev1_ixp, qES0, qES1, qES2, env0, List.length_cons, List.length_nil, Nat.reduceAdd, Nat.reduceSub, List.replicate, List.cons_append, List.nil_append, opd, Env.put, Env.at, List.set_cons_zero, List.set_cons_succ, List.getD_cons_zero, List.getD_cons_succ, freezeL, resVs, oneOr, Option.map_some, Option.map_none, List.map_cons, List.map_nil, if_true, if_false, Bool.not_true, Bool.not_false, Bool.false_eq_true, reduceIte, decide_true, decide_false, Int.reduceLT, Int.reduceLE, Int.reduceGT, Int.reduceGE, Int.reduceEq, Int.reduceBEq, Int.reduceBNe, load_ptr, ldV_some, cellAt_cells, List.getElem?_cons_zero, List.getElem?_cons_succ, store_ptr, stO_some, setAt_0, setAt_1, setAt_2, setAt_3, setAt_4, setAt_5, setAt_6, setAt_7, setAt_8, setAt_9, setAt_10, setAt_11, setAt_12, cells_int, cells_bool, cells_str, cells_nils, cells_nilp, cells_ptr, cells_sl, cells_u8, cells_u16, cells_agg, get_upd_is, Option.isSome_some, upd_upd, ev1_nchkV, ev1_faV, nchkV_ptr, faV_ptr, ev1_extV, extV_tup, eqptr_nil, eqptr_ptr, Nat.zero_add, Nat.add_zero, qPL0, qPL1, qPL2, qPL3, qPL4, qPL5, beq_self_eq_true, Nat.reduceEqDiff, reduceCtorEq, Nat.add_zero]
    exact ⟨_, rfl, rfl⟩
  | u a pf =>
    obtain ⟨g1, g2⟩ := hg rfl
    simp only [g1, g2, if_true] at h35
    simp only [Ct.av, Ct.is] at h37 h35 fz
    simp only [M14b0, E14, cls, h37, h35, fz, hlt, w0, w1, wc, nn, tas_6486, tas_8486, evP_ixp, ixp4_0, ixp4_1, ixp4_2, ixp4_3, ev1_ixp, qES0, qES1, qES2, env0, List.length_cons, List.length_nil, Nat.reduceAdd, Nat.reduceSub, List.replicate, List.cons_append, List.nil_append, opd, Env.put, Env.at, List.set_cons_zero, List.set_cons_succ, List.getD_cons_zero, List.getD_cons_succ, freezeL, resVs, oneOr, Option.map_some, Option.map_none, List.map_cons, List.map_nil, if_true, if_false, Bool.not_true, Bool.not_false, Bool.false_eq_true, reduceIte, decide_true, decide_false, Int.reduceLT, Int.reduceLE, Int.reduceGT, Int.reduceGE, Int.reduceEq, Int.reduceBEq, Int.reduceBNe, load_ptr, ldV_some, cellAt_cells, List.getElem?_cons_zero, List.getElem?_cons_succ, store_ptr, stO_some, setAt_0, setAt_1, setAt_2, setAt_3, setAt_4, setAt_5, setAt_6, setAt_7, setAt_8, setAt_9, setAt_10, setAt_11, setAt_12, cells_int, cells_bool, cells_str, cells_nils, cells_nilp, cells_ptr, cells_sl, cells_u8, cells_u16, cells_agg, get_upd_is, Option.isSome_some, upd_upd, ev1_nchkV, ev1_faV, nchkV_ptr, faV_ptr, ev1_extV, extV_tup, eqptr_nil, eqptr_ptr, Nat.zero_add, Nat.add_zero, qPL0, qPL1, qPL2, qPL3, qPL4, qPL5, beq_self_eq_true, Nat.reduceEqDiff, reduceCtorEq, Nat.add_zero]
    exact ⟨_, rfl, rfl⟩
theorem counts : cnt 0 256 = 66 ∧ cnt 1 256 = 128 ∧ cnt 2 256 = 48 ∧ cnt 3 256 = 14 := by decide +kernel
theorem says : Ab.saysTrue (evL4 1000 14 [] Ab.St.nil) = true := by
  rw [show (1000 : Nat) = 999 + 1 from rfl, evL4_in rfl tab14]
  suffices hv : valR (outR M14.res (evC tabGl (evL4 999) 999 M14.body (env0 M14.ntmps []) (St.nil.pl []))) = some (.bool true) by
    obtain ⟨v0, s', h1, h2⟩ := valR_of hv
    have : v0 = .bool true := by
      cases v0 with
      | bool b => exact h2
      | tup l => cases h2
      | _ => cases h2
    rw [this] at h1
    exact (congrArg Ab.saysTrue h1)
  generalize St.nil = s
  obtain ⟨k0, k1, k2, k3⟩ := counts
  have hl : iter (evC tabGl (evL4 999) 999 M14b0) M14b0l 999 ((E14 s.next 0).set 0 (.bool false)) (St14 s 0) = some (.exit 0, (E14X s.next), St14 s 256) := by
    refine iter_rounds (evC tabGl (evL4 999) 999 M14b0) M14b0l (fun i e st => maskE M14b0l e = E14 s.next (i : Nat) ∧ st = St14 s i) _ 256 ?_ ?_ 256 0 _ _ 999 rfl ⟨rfl, rfl⟩ (by omega)
    · rintro i e st hi ⟨h1, rfl⟩
      rw [h1]
      obtain ⟨e', g1, g2⟩ := round s i hi
      exact ⟨e', _, g1, g2, rfl⟩
    · rintro e st ⟨h1, rfl⟩
      rw [h1]
      refine ⟨?_, fun e' s' h => by cases h⟩
      show evC tabGl (evL4 999) 999 M14b0 (E14 s.next 256) (St14 s 256) = _
      simp only [M14b0, E14, E14X, qES0, qES1, qES2, env0, List.length_cons, List.length_nil, Nat.reduceAdd, Nat.reduceSub, List.replicate, List.cons_append, List.nil_append, opd, Env.put, Env.at, List.set_cons_zero, List.set_cons_succ, List.getD_cons_zero, List.getD_cons_succ, freezeL, resVs, oneOr, Option.map_some, Option.map_none, List.map_cons, List.map_nil, if_true, if_false, Bool.not_true, Bool.not_false, Bool.false_eq_true, reduceIte, decide_true, decide_false, Int.reduceLT, Int.reduceLE, Int.reduceGT, Int.reduceGE, Int.reduceEq, Int.reduceBEq, Int.reduceBNe]
  have h20 := f20 998
  have z0 : St14 s 0 = s.pl [.cells 0 [.int .i64 0, .int .i64 0, .int .i64 0, .int .i64 0]] := rfl
  have z1 : St14 s 256 = s.pl [.cells 0 [.int .i64 66, .int .i64 128, .int .i64 48, .int .i64 14]] := by simp only [St14, k0, k1, k2, k3]; rfl
  rw [z0, z1] at hl
  simp only [E14, E14X, qES0, qES1, qES2, env0, List.length_cons, List.length_nil, Nat.reduceAdd, Nat.reduceSub, List.replicate, List.cons_append, List.nil_append, opd, Env.put, Env.at, List.set_cons_zero, List.set_cons_succ, List.getD_cons_zero, List.getD_cons_succ, freezeL, resVs, oneOr, Option.map_some, Option.map_none, List.map_cons, List.map_nil, if_true, if_false, Bool.not_true, Bool.not_false, Bool.false_eq_true, reduceIte, decide_true, decide_false, Int.reduceLT, Int.reduceLE, Int.reduceGT, Int.reduceGE, Int.reduceEq, Int.reduceBEq, Int.reduceBNe] at hl
  simp only [M14, h20, hl, evC_loop, evP_ixp, ixp4_0, ixp4_1, ixp4_2, ixp4_3, ev1_ixp, qES0, qES1, qES2, env0, List.length_cons, List.length_nil, Nat.reduceAdd, Nat.reduceSub, List.replicate, List.cons_append, List.nil_append, opd, Env.put, Env.at, List.set_cons_zero, List.set_cons_succ, List.getD_cons_zero, List.getD_cons_succ, freezeL, resVs, oneOr, Option.map_some, Option.map_none, List.map_cons, List.map_nil, if_true, if_false, Bool.not_true, Bool.not_false, Bool.false_eq_true, reduceIte, decide_true, decide_false, Int.reduceLT, Int.reduceLE, Int.reduceGT, Int.reduceGE, Int.reduceEq, Int.reduceBEq, Int.reduceBNe, load_ptr, ldV_some, cellAt_cells, List.getElem?_cons_zero, List.getElem?_cons_succ, store_ptr, stO_some, setAt_0, setAt_1, setAt_2, setAt_3, setAt_4, setAt_5, setAt_6, setAt_7, setAt_8, setAt_9, setAt_10, setAt_11, setAt_12, cells_int, cells_bool, cells_str, cells_nils, cells_nilp, cells_ptr, cells_sl, cells_u8, cells_u16, cells_agg, get_upd_is, Option.isSome_some, upd_upd, ev1_nchkV, ev1_faV, nchkV_ptr, faV_ptr, ev1_extV, extV_tup, eqptr_nil, eqptr_ptr, Nat.zero_add, Nat.add_zero, qPL0, qPL1, qPL2, qPL3, qPL4, qPL5, beq_self_eq_true]
end Go.Proofs.YthcblggiojpmcaaDoor.ctlCount
