/- Who is there, as bytes, and back; any bytes: the loop of the law XidAll. No conditions. -/
import Derived.Test.YtbeimfhodgmjhaaDoorXiR
import Derived.Test.YtbeimfhodgmjhaaDoorM8_7
set_option linter.unusedSimpArgs false
set_option linter.unusedVariables false
set_option maxRecDepth 100000
set_option maxHeartbeats 4000000
namespace Go.Proofs.YtbeimfhodgmjhaaDoor
open Go Go.Ab
theorem eq6' (f t sl n : Int) (an : Bool) (nk : List UInt8) : eqAV (.flat (.many [SK.i, SK.i, SK.i, SK.i, SK.b, SK.s])) (.agg [.int .u32 f, .int .u32 t, .int .i64 sl, .int .i64 n, .bool an, .str nk]) (.agg [.int .u32 f, .int .u32 t, .int .i64 sl, .int .i64 n, .bool an, .str nk]) = some true := by
  simp [eqAV, eqFl, eqScL, eqSc]
theorem getXV_form (r : Option Xi) : ∃ (x : Xi) (q : Bool), getXV r = .tup [.agg x.cells, .bool q] := by
  cases r with
  | none => exact ⟨⟨0, 0, 0, 0, false, []⟩, false, rfl⟩
  | some x => exact ⟨x, true, rfl⟩
def E7x (A : List UInt8) (ok : Bool) (v w lv : AV) (i : Int) : Env := [.undef, .undef, v, w, .ptr St.nil.next 0, .undef, .undef, .undef, .undef, .undef, .str A, .bool ok, .undef, .undef, .undef, .undef, .undef, .undef, .undef, .undef, .undef, .undef, .undef, .undef, .undef, .undef, .undef, .undef, .undef, .undef, .undef, .undef, .undef, .undef, .undef, .undef, .undef, .undef, .undef, .undef, .undef, .undef, .undef, .undef, .undef, .undef, .undef, .undef, .undef, .undef, .undef, .undef, .undef, .undef, .undef, .undef, .undef, .undef, .undef, .undef, .undef, .undef, .undef, .undef, .undef, .undef, .undef, .undef, .undef, .undef, .undef, .undef, .undef, .undef, .undef, .undef, lv, .int .i64 3, .int .i64 i, .undef, .undef, .undef, .undef, .undef, .undef, .undef, .undef, .undef, .undef, .undef, .undef, .undef, .undef, .undef, .undef, .undef, .undef, .undef, .undef, .undef, .undef, .undef, .undef, .undef, .undef, .undef, .undef, .undef, .undef, .undef, .undef, .undef, .undef, .undef, .undef, .undef, .undef, .undef, .undef, .undef, .undef, .undef, .undef, .undef, .undef, .undef, .undef, .undef, .undef, .undef, .undef, .undef, .undef, .undef, .undef, .undef, .undef, .undef, .undef, .undef]
theorem xid_loop (x : Xi) (A : List UInt8) (ok : Bool) (hA : (ok = true ∧ getX A = some x) ∨ (ok = false ∧ getX A = none)) (hAl : A.length ≤ 100) {v w : AV} {ds no : List Int} (hv : IsNums .u32 v ds) (hw : IsNums .u32 w no) (hd : ds.length ≤ 100) (hn : no.length ≤ 100)
    (ts : List (List UInt8)) (hts : ts.length = 3) (hl : ∀ t ∈ ts, t.length ≤ 800) (tk) (st : St) (hg : st.get St.nil.next = some (.cells 0 x.cells)) (hlt : St.nil.next < st.next) :
    ∀ e, maskE M7b0l e = E7x A ok v w (.sl (ts.map .str) 3 tk) 0 → valR (outR M7.res (seqR (blockR 0 (iter (evC tabGl (evU3 999) 999 M7b0) M7b0l 999 e st)) (evC tabGl (evU3 999) 999 M7r0))) = some (.bool true) := by
  intro e he
  refine iter_leave (evC tabGl (evU3 999) 999 M7b0) M7b0l (fun i e s => maskE M7b0l e = E7x A ok v w (.sl (ts.map .str) 3 tk) (i : Int) ∧ s.get St.nil.next = some (.cells 0 x.cells) ∧ St.nil.next < s.next)
    (fun out => valR (outR M7.res (seqR (blockR 0 out) (evC tabGl (evU3 999) 999 M7r0))) = some (.bool true)) 3 ?_ ?_ 3 0 _ _ 999 (by omega) ⟨he, hg, hlt⟩ (by omega)
  · rintro i e s hi ⟨h1, h3, h4⟩
    rw [h1]
    left
    have hr : ixaV 1 (.sl (ts.map .str) 3 tk) (.int .i64 (i : Int)) = some (.rp (.str (ts[i]'(by omega)) :: (ts.drop (i + 1)).map .str)) := by
      have h1 : idx 3 (.int .i64 (i : Int)) = some i := by simp [idx]; omega
      simp only [ixaV, h1, Nat.mul_one]
      rw [← List.map_drop, List.drop_eq_getElem_cons (by omega)]
      rfl
    obtain ⟨t, ht⟩ : ∃ t, ts[i]'(by omega) = t := ⟨_, rfl⟩
    have htl : t.length ≤ 800 := hl t (ht ▸ List.getElem_mem _)
    rw [ht] at hr
    have d0 : decide ((i : Int) < 3) = true := decide_eq_true (by omega)
    have w1 : IntKind.i64.wrap ((i : Int) + 1) = ((i + 1 : Nat) : Int) := (wrapI _ (by omega) (by omega)).trans (by omega)
    generalize (ts.drop (i + 1)).map AV.str = r at hr
    have c0 : Ab.cut (.str t :: r) 0 none = some (.str t) := by simp [Ab.cut]
    have h50 := w50 998 t htl
    have h51 := w51 998 t htl
    obtain ⟨y, q, hy⟩ := getXV_form (getX t)
    rw [hy] at h50 h51
    obtain ⟨f, g, sl, n, an, nk⟩ := y
    simp only [Xi.cells, xiC] at h50 h51
    have q6 := eq6' f g sl n an nk
    have qb := eqB q
    have gq : ∀ l, (s.pl l).get St.nil.next = some (.cells 0 x.cells) := fun l => ((pl_ext s l).get _ h4).trans h3
    rw [show s = s.pl [] from rfl]
    simp only [M7b0, E7x, hr, c0, d0, h50, h51, q6, qb, w1, x_cut6, x_st6, loadR_rp, ev1_eqv, ev1_extV, qES0, qES1, qES2, env0, List.length_cons, List.length_nil, Nat.reduceAdd, Nat.reduceSub, List.replicate, List.cons_append, List.nil_append, opd, Env.put, Env.at, List.set_cons_zero, List.set_cons_succ, List.getD_cons_zero, List.getD_cons_succ, freezeL, resVs, oneOr, Option.map_some, Option.map_none, List.map_cons, List.map_nil, if_true, if_false, Bool.not_true, Bool.not_false, Bool.false_eq_true, reduceIte, decide_true, decide_false, Int.reduceLT, Int.reduceLE, Int.reduceGT, Int.reduceGE, Int.reduceEq, Int.reduceBEq, Int.reduceBNe, load_ptr, ldV_some, cellAt_cells, List.getElem?_cons_zero, List.getElem?_cons_succ, store_ptr, stO_some, setAt_0, setAt_1, setAt_2, setAt_3, setAt_4, setAt_5, setAt_6, setAt_7, setAt_8, setAt_9, setAt_10, setAt_11, setAt_12, cells_int, cells_bool, cells_str, cells_nils, cells_nilp, cells_ptr, cells_sl, cells_u8, cells_u16, cells_agg, get_upd_is, Option.isSome_some, upd_upd, ev1_nchkV, ev1_faV, nchkV_ptr, faV_ptr, ev1_extV, extV_tup, eqptr_nil, eqptr_ptr, Nat.zero_add, Nat.add_zero, qPL0, qPL1, qPL2, qPL3, qPL4, qPL5, beq_self_eq_true]
    exact ⟨_, _, rfl, rfl, gq _, by rw [pl_next]; omega⟩
  · rintro e s ⟨h1, h3, h4⟩
    rw [h1]
    have d0 : decide (((3 : Nat) : Int) < 3) = false := rfl
    have d0' : decide ((3 : Int) < 3) = false := rfl
    have h50 := w50 998 A (by omega)
    have h52 := w52 998 hv hw hd hn
    have h53 := w53 998 hv hw hd hn
    have fv := nums_freeze hv
    have fw := nums_freeze hw
    refine ⟨?_, fun e' s' hh => ?_⟩
    · obtain ⟨f, g, sl, n, an, nk⟩ := x
      have gq : ∀ l, (s.pl l).get St.nil.next = _ := fun l => ((pl_ext s l).get _ h4).trans h3
      simp only [Xi.cells, xiC] at gq
      have q6 := eq6' f g sl n an nk
      rw [show s = s.pl [] from rfl]
      generalize (freshZ ds no).1 = n1 at h52 h53
      generalize (((freshZ ds no).2 : Nat) : Int) = n2 at h52 h53
      have e1 : (n1 == n1) = true := beq_self_eq_true _
      have e2 : (n2 == n2) = true := beq_self_eq_true _
      rcases hA with ⟨rfl, hA⟩ | ⟨rfl, hA⟩
      · rw [hA] at h50
        have qb := eqB true
        simp only [getXV, Xi.cells, xiC] at h50
        simp only [M7, M7r0, M7b0, E7x, d0, d0', h50, h52, h53, fv, fw, e1, e2, gq, q6, qb, x_cut6, x_st6, u32_eql, ev1_eqv, ev1_extV, qES0, qES1, qES2, env0, List.length_cons, List.length_nil, Nat.reduceAdd, Nat.reduceSub, List.replicate, List.cons_append, List.nil_append, opd, Env.put, Env.at, List.set_cons_zero, List.set_cons_succ, List.getD_cons_zero, List.getD_cons_succ, freezeL, resVs, oneOr, Option.map_some, Option.map_none, List.map_cons, List.map_nil, if_true, if_false, Bool.not_true, Bool.not_false, Bool.false_eq_true, reduceIte, decide_true, decide_false, Int.reduceLT, Int.reduceLE, Int.reduceGT, Int.reduceGE, Int.reduceEq, Int.reduceBEq, Int.reduceBNe, load_ptr, ldV_some, cellAt_cells, List.getElem?_cons_zero, List.getElem?_cons_succ, store_ptr, stO_some, setAt_0, setAt_1, setAt_2, setAt_3, setAt_4, setAt_5, setAt_6, setAt_7, setAt_8, setAt_9, setAt_10, setAt_11, setAt_12, cells_int, cells_bool, cells_str, cells_nils, cells_nilp, cells_ptr, cells_sl, cells_u8, cells_u16, cells_agg, get_upd_is, Option.isSome_some, upd_upd, ev1_nchkV, ev1_faV, nchkV_ptr, faV_ptr, ev1_extV, extV_tup, eqptr_nil, eqptr_ptr, Nat.zero_add, Nat.add_zero, qPL0, qPL1, qPL2, qPL3, qPL4, qPL5, beq_self_eq_true]
      · rw [hA] at h50
        have qb := eqB false
        simp only [getXV, zeroX, xiC] at h50
        simp only [M7, M7r0, M7b0, E7x, d0, d0', h50, h52, h53, fv, fw, e1, e2, gq, q6, qb, x_cut6, x_st6, u32_eql, ev1_eqv, ev1_extV, qES0, qES1, qES2, env0, List.length_cons, List.length_nil, Nat.reduceAdd, Nat.reduceSub, List.replicate, List.cons_append, List.nil_append, opd, Env.put, Env.at, List.set_cons_zero, List.set_cons_succ, List.getD_cons_zero, List.getD_cons_succ, freezeL, resVs, oneOr, Option.map_some, Option.map_none, List.map_cons, List.map_nil, if_true, if_false, Bool.not_true, Bool.not_false, Bool.false_eq_true, reduceIte, decide_true, decide_false, Int.reduceLT, Int.reduceLE, Int.reduceGT, Int.reduceGE, Int.reduceEq, Int.reduceBEq, Int.reduceBNe, load_ptr, ldV_some, cellAt_cells, List.getElem?_cons_zero, List.getElem?_cons_succ, store_ptr, stO_some, setAt_0, setAt_1, setAt_2, setAt_3, setAt_4, setAt_5, setAt_6, setAt_7, setAt_8, setAt_9, setAt_10, setAt_11, setAt_12, cells_int, cells_bool, cells_str, cells_nils, cells_nilp, cells_ptr, cells_sl, cells_u8, cells_u16, cells_agg, get_upd_is, Option.isSome_some, upd_upd, ev1_nchkV, ev1_faV, nchkV_ptr, faV_ptr, ev1_extV, extV_tup, eqptr_nil, eqptr_ptr, Nat.zero_add, Nat.add_zero, qPL0, qPL1, qPL2, qPL3, qPL4, qPL5, beq_self_eq_true]
    · simp only [M7b0, E7x, d0, d0', qES0, qES1, qES2, env0, List.length_cons, List.length_nil, Nat.reduceAdd, Nat.reduceSub, List.replicate, List.cons_append, List.nil_append, opd, Env.put, Env.at, List.set_cons_zero, List.set_cons_succ, List.getD_cons_zero, List.getD_cons_succ, freezeL, resVs, oneOr, Option.map_some, Option.map_none, List.map_cons, List.map_nil, if_true, if_false, Bool.not_true, Bool.not_false, Bool.false_eq_true, reduceIte, decide_true, decide_false, Int.reduceLT, Int.reduceLE, Int.reduceGT, Int.reduceGE, Int.reduceEq, Int.reduceBEq, Int.reduceBNe, load_ptr, ldV_some, cellAt_cells, List.getElem?_cons_zero, List.getElem?_cons_succ, store_ptr, stO_some, setAt_0, setAt_1, setAt_2, setAt_3, setAt_4, setAt_5, setAt_6, setAt_7, setAt_8, setAt_9, setAt_10, setAt_11, setAt_12, cells_int, cells_bool, cells_str, cells_nils, cells_nilp, cells_ptr, cells_sl, cells_u8, cells_u16, cells_agg, get_upd_is, Option.isSome_some, upd_upd, ev1_nchkV, ev1_faV, nchkV_ptr, faV_ptr, ev1_extV, extV_tup, eqptr_nil, eqptr_ptr, Nat.zero_add, Nat.add_zero, qPL0, qPL1, qPL2, qPL3, qPL4, qPL5, beq_self_eq_true] at hh
      cases hh
end Go.Proofs.YtbeimfhodgmjhaaDoor
