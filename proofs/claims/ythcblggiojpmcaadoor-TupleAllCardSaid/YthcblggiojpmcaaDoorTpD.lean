/- The first of a number: the loop of the law TupleAll. No conditions. -/
import Derived.Test.YthcblggiojpmcaaDoorTpC
set_option linter.unusedSimpArgs false
set_option linter.unusedVariables false
set_option maxRecDepth 100000
set_option maxHeartbeats 4000000
namespace Go.Proofs.YthcblggiojpmcaaDoor
open Go Go.Ab
def E8f (va : AV) (t : List UInt8) (id : Int) (v : List UInt8) (o : Bool) (z : Nat) (i : Int) : Env := [va, .str t, .int .i64 id, .undef, .undef, .undef, .undef, .undef, .undef, .undef, .undef, .undef, .undef, .undef, .str v, .bool o, .undef, .undef, .undef, .undef, .undef, .undef, .undef, .undef, .undef, .undef, .undef, .undef, .undef, .undef, .undef, .undef, .undef, .undef, .undef, .undef, .undef, .undef, .undef, .undef, .undef, .undef, .undef, .undef, .undef, .undef, .undef, .undef, .undef, .undef, .undef, .undef, .undef, .undef, .undef, .undef, .undef, .undef, .undef, .undef, .undef, .undef, .undef, .int .i64 (z : Nat), .int .i64 i, .undef, .undef, .undef, .undef, .undef, .undef, .undef, .undef, .undef, .undef, .undef, .undef, .undef, .undef, .undef, .undef, .undef, .undef, .undef, .undef, .undef, .undef, .undef, .undef, .undef, .undef, .undef, .undef, .undef, .undef, .undef]
def M8z : MC := (MC.reg
 [⟨some 94, MOp.mv (Opd.s 1), none⟩,
 ⟨some 95, MOp.call 56 [(0, Opd.s 94)], none⟩,
 ⟨some 6, MOp.mv (Opd.s 95), none⟩]).seq
 MC.ret
theorem find_loop {va : AV} {A : List Tp} (h : IsTp va A) (hA : A.length ≤ 8) (t : List UInt8) (id : Int) (v : List UInt8) (o : Bool) (hv : findV (findT id A) = .tup [.str v, .bool o]) (st : St) :
    ∀ e, maskE M8b0l e = E8f va t id v o A.length 0 → valR (outR M8.res (seqR (seqR (blockR 0 (iter (evC tabGl (evB 999) 999 M8b0) M8b0l 999 e st)) (evC tabGl (evB 999) 999 M8r0)) (evC tabGl (evB 999) 999 M8z))) = some (.bool true) := by
  intro e he
  have h56 := b56 998 t
  refine iter_leave (evC tabGl (evB 999) 999 M8b0) M8b0l (fun i e s => maskE M8b0l e = E8f va t id v o A.length (i : Int) ∧ findT id A = findT id (A.drop i))
    (fun out => valR (outR M8.res (seqR (seqR (blockR 0 out) (evC tabGl (evB 999) 999 M8r0)) (evC tabGl (evB 999) 999 M8z))) = some (.bool true)) A.length ?_ ?_ A.length 0 _ _ 999 (by omega) ⟨he, by rw [List.drop_zero]⟩ (by omega)
  · rintro i e s hi ⟨h1, h3⟩
    rw [h1]
    obtain ⟨r, hr⟩ := h.ixa i hi
    rw [List.drop_eq_getElem_cons hi] at h3
    obtain ⟨⟨id', val⟩, hx'⟩ : ∃ t, A[i] = t := ⟨_, rfl⟩
    rw [hx'] at hr h3
    have d0 : decide ((i : Int) < (A.length : Nat)) = true := decide_eq_true (by omega)
    have w1 : IntKind.i64.wrap ((i : Int) + 1) = ((i + 1 : Nat) : Int) := (wrapI _ (by omega) (by omega)).trans (by omega)
    have c0 : Ab.cut (.int .i64 id' :: .str val :: r) 0 none = some (.int .i64 id') := by simp [Ab.cut]
    have c1 : Ab.cut (.str val :: r) 0 none = some (.str val) := by simp [Ab.cut]
    have f0 : faV 0 (.rp (.int .i64 id' :: .str val :: r)) = some (.rp (.int .i64 id' :: .str val :: r)) := faV_rp _ _ (by simp)
    have f1 : faV 1 (.rp (.int .i64 id' :: .str val :: r)) = some (.rp (.str val :: r)) := faV_rp _ _ (by simp)
    have e0 : findT id ((id', val) :: A.drop (i + 1)) = if id' = id then some val else findT id (A.drop (i + 1)) := rfl
    rw [e0] at h3
    rw [show s = s.pl [] from rfl]
    by_cases g : id' = id
    · right
      have q : (id' == id) = true := by simp [g]
      rw [if_pos g] at h3
      rw [h3] at hv
      have hv' : AV.tup [.str val, .bool true] = .tup [.str v, .bool o] := hv
      simp only [AV.tup.injEq, List.cons.injEq, AV.str.injEq, AV.bool.injEq, and_true] at hv'
      obtain ⟨rfl, rfl⟩ := hv'
      have qs : binV .eql (.str val) (.str val) = some (.bool true) := by
        show some (AV.bool (val == val)) = _
        rw [beq_self_eq_true]
      refine ⟨?_, fun e' s' hh => ?_⟩
      · simp only [M8, M8b0, E8f, hr, c0, c1, f0, f1, d0, q, qs, h56, loadR_rp, qES0, qES1, qES2, env0, List.length_cons, List.length_nil, Nat.reduceAdd, Nat.reduceSub, List.replicate, List.cons_append, List.nil_append, opd, Env.put, Env.at, List.set_cons_zero, List.set_cons_succ, List.getD_cons_zero, List.getD_cons_succ, freezeL, resVs, oneOr, Option.map_some, Option.map_none, List.map_cons, List.map_nil, if_true, if_false, Bool.not_true, Bool.not_false, Bool.false_eq_true, reduceIte, decide_true, decide_false, Int.reduceLT, Int.reduceLE, Int.reduceGT, Int.reduceGE, Int.reduceEq, Int.reduceBEq, Int.reduceBNe, load_ptr, ldV_some, cellAt_cells, List.getElem?_cons_zero, List.getElem?_cons_succ, store_ptr, stO_some, setAt_0, setAt_1, setAt_2, setAt_3, setAt_4, setAt_5, setAt_6, setAt_7, setAt_8, setAt_9, setAt_10, setAt_11, setAt_12, cells_int, cells_bool, cells_str, cells_nils, cells_nilp, cells_ptr, cells_sl, cells_u8, cells_u16, cells_agg, get_upd_is, Option.isSome_some, upd_upd, ev1_nchkV, ev1_faV, nchkV_ptr, faV_ptr, ev1_extV, extV_tup, eqptr_nil, eqptr_ptr, Nat.zero_add, Nat.add_zero, qPL0, qPL1, qPL2, qPL3, qPL4, qPL5, beq_self_eq_true]
      · simp only [M8b0, E8f, hr, c0, c1, f0, f1, d0, q, qs, h56, loadR_rp, qES0, qES1, qES2, env0, List.length_cons, List.length_nil, Nat.reduceAdd, Nat.reduceSub, List.replicate, List.cons_append, List.nil_append, opd, Env.put, Env.at, List.set_cons_zero, List.set_cons_succ, List.getD_cons_zero, List.getD_cons_succ, freezeL, resVs, oneOr, Option.map_some, Option.map_none, List.map_cons, List.map_nil, if_true, if_false, Bool.not_true, Bool.not_false, Bool.false_eq_true, reduceIte, decide_true, decide_false, Int.reduceLT, Int.reduceLE, Int.reduceGT, Int.reduceGE, Int.reduceEq, Int.reduceBEq, Int.reduceBNe, load_ptr, ldV_some, cellAt_cells, List.getElem?_cons_zero, List.getElem?_cons_succ, store_ptr, stO_some, setAt_0, setAt_1, setAt_2, setAt_3, setAt_4, setAt_5, setAt_6, setAt_7, setAt_8, setAt_9, setAt_10, setAt_11, setAt_12, cells_int, cells_bool, cells_str, cells_nils, cells_nilp, cells_ptr, cells_sl, cells_u8, cells_u16, cells_agg, get_upd_is, Option.isSome_some, upd_upd, ev1_nchkV, ev1_faV, nchkV_ptr, faV_ptr, ev1_extV, extV_tup, eqptr_nil, eqptr_ptr, Nat.zero_add, Nat.add_zero, qPL0, qPL1, qPL2, qPL3, qPL4, qPL5, beq_self_eq_true] at hh
        cases hh
    · left
      have q : (id' == id) = false := by simp [g]
      rw [if_neg g] at h3
      simp only [M8b0, E8f, hr, c0, f0, d0, q, w1, loadR_rp, qES0, qES1, qES2, env0, List.length_cons, List.length_nil, Nat.reduceAdd, Nat.reduceSub, List.replicate, List.cons_append, List.nil_append, opd, Env.put, Env.at, List.set_cons_zero, List.set_cons_succ, List.getD_cons_zero, List.getD_cons_succ, freezeL, resVs, oneOr, Option.map_some, Option.map_none, List.map_cons, List.map_nil, if_true, if_false, Bool.not_true, Bool.not_false, Bool.false_eq_true, reduceIte, decide_true, decide_false, Int.reduceLT, Int.reduceLE, Int.reduceGT, Int.reduceGE, Int.reduceEq, Int.reduceBEq, Int.reduceBNe, load_ptr, ldV_some, cellAt_cells, List.getElem?_cons_zero, List.getElem?_cons_succ, store_ptr, stO_some, setAt_0, setAt_1, setAt_2, setAt_3, setAt_4, setAt_5, setAt_6, setAt_7, setAt_8, setAt_9, setAt_10, setAt_11, setAt_12, cells_int, cells_bool, cells_str, cells_nils, cells_nilp, cells_ptr, cells_sl, cells_u8, cells_u16, cells_agg, get_upd_is, Option.isSome_some, upd_upd, ev1_nchkV, ev1_faV, nchkV_ptr, faV_ptr, ev1_extV, extV_tup, eqptr_nil, eqptr_ptr, Nat.zero_add, Nat.add_zero, qPL0, qPL1, qPL2, qPL3, qPL4, qPL5, beq_self_eq_true]
      exact ⟨_, _, rfl, rfl, h3⟩
  · rintro e s ⟨h1, h3⟩
    rw [h1]
    rw [List.drop_length] at h3
    have d0 : decide (((A.length : Nat) : Int) < (A.length : Nat)) = false := decide_eq_false (by omega)
    rw [h3] at hv
    have hv' : AV.tup [.str [], .bool false] = .tup [.str v, .bool o] := hv
    simp only [AV.tup.injEq, List.cons.injEq, AV.str.injEq, AV.bool.injEq, and_true] at hv'
    obtain ⟨rfl, rfl⟩ := hv'
    have ne : binV .neq (.str []) (.str []) = some (.bool false) := rfl
    rw [show s = s.pl [] from rfl]
    refine ⟨?_, fun e' s' hh => ?_⟩
    · simp only [M8, M8r0, M8z, M8b0, E8f, d0, ne, h56, qES0, qES1, qES2, env0, List.length_cons, List.length_nil, Nat.reduceAdd, Nat.reduceSub, List.replicate, List.cons_append, List.nil_append, opd, Env.put, Env.at, List.set_cons_zero, List.set_cons_succ, List.getD_cons_zero, List.getD_cons_succ, freezeL, resVs, oneOr, Option.map_some, Option.map_none, List.map_cons, List.map_nil, if_true, if_false, Bool.not_true, Bool.not_false, Bool.false_eq_true, reduceIte, decide_true, decide_false, Int.reduceLT, Int.reduceLE, Int.reduceGT, Int.reduceGE, Int.reduceEq, Int.reduceBEq, Int.reduceBNe, load_ptr, ldV_some, cellAt_cells, List.getElem?_cons_zero, List.getElem?_cons_succ, store_ptr, stO_some, setAt_0, setAt_1, setAt_2, setAt_3, setAt_4, setAt_5, setAt_6, setAt_7, setAt_8, setAt_9, setAt_10, setAt_11, setAt_12, cells_int, cells_bool, cells_str, cells_nils, cells_nilp, cells_ptr, cells_sl, cells_u8, cells_u16, cells_agg, get_upd_is, Option.isSome_some, upd_upd, ev1_nchkV, ev1_faV, nchkV_ptr, faV_ptr, ev1_extV, extV_tup, eqptr_nil, eqptr_ptr, Nat.zero_add, Nat.add_zero, qPL0, qPL1, qPL2, qPL3, qPL4, qPL5, beq_self_eq_true]
    · simp only [M8b0, E8f, d0, qES0, qES1, qES2, env0, List.length_cons, List.length_nil, Nat.reduceAdd, Nat.reduceSub, List.replicate, List.cons_append, List.nil_append, opd, Env.put, Env.at, List.set_cons_zero, List.set_cons_succ, List.getD_cons_zero, List.getD_cons_succ, freezeL, resVs, oneOr, Option.map_some, Option.map_none, List.map_cons, List.map_nil, if_true, if_false, Bool.not_true, Bool.not_false, Bool.false_eq_true, reduceIte, decide_true, decide_false, Int.reduceLT, Int.reduceLE, Int.reduceGT, Int.reduceGE, Int.reduceEq, Int.reduceBEq, Int.reduceBNe, load_ptr, ldV_some, cellAt_cells, List.getElem?_cons_zero, List.getElem?_cons_succ, store_ptr, stO_some, setAt_0, setAt_1, setAt_2, setAt_3, setAt_4, setAt_5, setAt_6, setAt_7, setAt_8, setAt_9, setAt_10, setAt_11, setAt_12, cells_int, cells_bool, cells_str, cells_nils, cells_nilp, cells_ptr, cells_sl, cells_u8, cells_u16, cells_agg, get_upd_is, Option.isSome_some, upd_upd, ev1_nchkV, ev1_faV, nchkV_ptr, faV_ptr, ev1_extV, extV_tup, eqptr_nil, eqptr_ptr, Nat.zero_add, Nat.add_zero, qPL0, qPL1, qPL2, qPL3, qPL4, qPL5, beq_self_eq_true] at hh
      cases hh
end Go.Proofs.YthcblggiojpmcaaDoor
