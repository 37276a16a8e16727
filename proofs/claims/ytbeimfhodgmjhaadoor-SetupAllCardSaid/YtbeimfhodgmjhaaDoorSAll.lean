/- Beginnings as bytes, and back; any bytes: the loop of the law SetupAll. No conditions. -/
import Derived.Test.YtbeimfhodgmjhaaDoorS6
import Derived.Test.YtbeimfhodgmjhaaDoorS7
import Derived.Test.YtbeimfhodgmjhaaDoorS2h
import Derived.Test.YtbeimfhodgmjhaaDoorXTn
import Derived.Test.YtbeimfhodgmjhaaDoorM8_8
set_option linter.unusedSimpArgs false
set_option linter.unusedVariables false
set_option maxRecDepth 100000
set_option maxHeartbeats 4000000
namespace Go.Proofs.YtbeimfhodgmjhaaDoor
open Go Go.Ab
theorem puZ55 : PureOk (evK 1000) 55 (hSPut) := (pureSPut rsput_val)
theorem puZ57 : PureOk (evK 1000) 57 (hSGet) := (pureSGet rsget_val)
def lstZ (f : Nat) : Option (List AV → St → Option AV) := if f = 54 then some (hSPut) else if f = 55 then some (hSPut) else if f = 56 then some (hSGet) else if f = 57 then some (hSGet) else none
noncomputable def extZ := extWith extK lstZ
theorem extZ_ok : ∀ w0, ExtOk Tryd.prog tabGl w0 extZ := extOk_add (tableOf_ok _) mixed tab_flat (extK_ok) lstZ (by
  intro f h hf
  unfold lstZ at hf
  rcases some_of hf with ⟨rfl, rfl⟩ | hf
  · exact ⟨by rw [tab54]; rfl, 1000, puS54⟩
  rcases some_of hf with ⟨rfl, rfl⟩ | hf
  · exact ⟨by rw [tab55]; rfl, 1000, puZ55⟩
  rcases some_of hf with ⟨rfl, rfl⟩ | hf
  · exact ⟨by rw [tab56]; rfl, 1000, puS56⟩
  rcases some_of hf with ⟨rfl, rfl⟩ | hf
  · exact ⟨by rw [tab57]; rfl, 1000, puZ57⟩
  cases hf)
noncomputable def evZ : Nat → Calls' := evF tabGl (tableOf Tryd.prog) extZ
theorem evZ_ok (w0 : World) (k : Nat) : CallOk Tryd.prog tabGl w0 (evZ k) := evF_sound (tableOf_ok _) (extZ_ok w0) mixed k
theorem evZ_in {k f : Nat} {m : MFun} (hx : extZ f = none) (hF : tableOf Tryd.prog f = some m) (args : List AV) (s : St) :
    evZ (k + 1) f args s = outR m.res (evC tabGl (evZ k) k m.body (env0 m.ntmps args) s) := evF_in hx hF args s
theorem z21 (k : Nat) (s : St) : evZ (k + 1) 21 [] s = some (.bool true, s) := evF_ext (H := hTrue) rfl rfl
theorem z22 (k : Nat) (l : List UInt8) (n : Nat) (s : St) : evZ (k + 1) 22 [.str l, .int .i64 (n : Int)] s = some (.str (l.take n), s) := evF_ext (H := hText) rfl (by
  show (if (0 : Int) ≤ (n : Int) then some (AV.str (l.take ((n : Int)).toNat)) else none) = _
  rw [if_pos (by omega), Int.toNat_natCast])
theorem z54 (k : Nat) (x : Su) (h : x.ok) (s : St) : evZ (k + 1) 54 [.agg x.cells] s = some (.tup [.str (if x.may then setB x else []), .bool (decide x.may)], s) := evF_ext (H := hSPut) rfl (by
  show (toSu (.agg x.cells)).map _ = _
  rw [toSu_cells x h]; rfl)
theorem z55 (k : Nat) (x : Su) (h : x.ok) (s : St) : evZ (k + 1) 55 [.agg x.cells] s = some (.tup [.str (if x.may then setB x else []), .bool (decide x.may)], s) := evF_ext (H := hSPut) rfl (by
  show (toSu (.agg x.cells)).map _ = _
  rw [toSu_cells x h]; rfl)
theorem z56 (k : Nat) (t : List UInt8) (s : St) : evZ (k + 1) 56 [.str t] s = some (getSV (getS t), s) := evF_ext (H := hSGet) rfl rfl
theorem z57 (k : Nat) (t : List UInt8) (s : St) : evZ (k + 1) 57 [.str t] s = some (getSV (getS t), s) := evF_ext (H := hSGet) rfl rfl
theorem eq9' (f t a c b s w z ti : Int) : eqAV (.flat (.many [SK.i, SK.i, SK.i, SK.i, SK.i, SK.i, SK.i, SK.i, SK.i])) (.agg [.int .u32 f, .int .u32 t, .int .i64 a, .int .i64 c, .int .i64 b, .int .i64 s, .int .i64 w, .int .i64 z, .int .i64 ti]) (.agg [.int .u32 f, .int .u32 t, .int .i64 a, .int .i64 c, .int .i64 b, .int .i64 s, .int .i64 w, .int .i64 z, .int .i64 ti]) = some true := by
  simp [eqAV, eqFl, eqScL, eqSc]
theorem getSV_form (r : Option Su) : ∃ (x : Su) (q : Bool), getSV r = .tup [.agg x.cells, .bool q] := by
  cases r with
  | none => exact ⟨⟨0, 0, 0, 0, ⟨0, 0, 0, 0, 0⟩⟩, false, rfl⟩
  | some x => exact ⟨x, true, rfl⟩
def E8 (A : List UInt8) (ok : Bool) (v : AV) (i : Int) : Env := [.undef, .undef, .undef, .undef, .ptr St.nil.next 0, .undef, .undef, .undef, .undef, .undef, .str A, .bool ok, .undef, .undef, .undef, .undef, .undef, .undef, .undef, .undef, .undef, .undef, .undef, .undef, .undef, .undef, .undef, .undef, .undef, .undef, .undef, .undef, .undef, .undef, .undef, .undef, .undef, .undef, .undef, .undef, .undef, .undef, .undef, .undef, .undef, .undef, .undef, .undef, .undef, .undef, .undef, .undef, .undef, .undef, .undef, .undef, .undef, .undef, .undef, .undef, .undef, .undef, .undef, .undef, .undef, .undef, .undef, .undef, .undef, .undef, .undef, .undef, .undef, .undef, .undef, .undef, .undef, v, .int .i64 5, .int .i64 i, .undef, .undef, .undef, .undef, .undef, .undef, .undef, .undef, .undef, .undef, .undef, .undef, .undef, .undef, .undef, .undef, .undef, .undef, .undef, .undef, .undef, .undef, .undef, .undef, .undef, .undef, .undef, .undef, .undef, .undef, .undef, .undef, .undef, .undef, .undef, .undef, .undef, .undef, .undef]
theorem setup_loop (x : Su) (A : List UInt8) (ok : Bool) (hA : (ok = true ∧ getS A = some x) ∨ (ok = false ∧ getS A = none)) (ts : List (List UInt8)) (hts : ts.length = 5) (tk) (st : St) (hg : st.get St.nil.next = some (.cells 0 x.cells)) (hlt : St.nil.next < st.next) :
    ∀ e, maskE M8b0l e = E8 A ok (.sl (ts.map .str) 5 tk) 0 → valR (outR M8.res (seqR (blockR 0 (iter (evC tabGl (evZ 999) 999 M8b0) M8b0l 999 e st)) (evC tabGl (evZ 999) 999 M8r0))) = some (.bool true) := by
  intro e he
  refine iter_leave (evC tabGl (evZ 999) 999 M8b0) M8b0l (fun i e s => maskE M8b0l e = E8 A ok (.sl (ts.map .str) 5 tk) (i : Int) ∧ s.get St.nil.next = some (.cells 0 x.cells) ∧ St.nil.next < s.next)
    (fun out => valR (outR M8.res (seqR (blockR 0 out) (evC tabGl (evZ 999) 999 M8r0))) = some (.bool true)) 5 ?_ ?_ 5 0 _ _ 999 (by omega) ⟨he, hg, hlt⟩ (by omega)
  · rintro i e s hi ⟨h1, h3, h4⟩
    rw [h1]
    left
    have hr : ixaV 1 (.sl (ts.map .str) 5 tk) (.int .i64 (i : Int)) = some (.rp (.str (ts[i]'(by omega)) :: (ts.drop (i + 1)).map .str)) := by
      have h1 : idx 5 (.int .i64 (i : Int)) = some i := by simp [idx]; omega
      simp only [ixaV, h1, Nat.mul_one]
      rw [← List.map_drop, List.drop_eq_getElem_cons (by omega)]
      rfl
    obtain ⟨t, ht⟩ : ∃ t, ts[i]'(by omega) = t := ⟨_, rfl⟩
    rw [ht] at hr
    have d0 : decide ((i : Int) < 5) = true := decide_eq_true (by omega)
    have w1 : IntKind.i64.wrap ((i : Int) + 1) = ((i + 1 : Nat) : Int) := (wrapI _ (by omega) (by omega)).trans (by omega)
    generalize (ts.drop (i + 1)).map AV.str = r at hr
    have c0 : Ab.cut (.str t :: r) 0 none = some (.str t) := by simp [Ab.cut]
    have h56 := z56 998 t
    have h57 := z57 998 t
    obtain ⟨y, q, hy⟩ := getSV_form (getS t)
    rw [hy] at h56 h57
    obtain ⟨f, g, a, c, b, s0, w, z, ti⟩ := y
    simp only [Su.cells, suC] at h56 h57
    have q9 := eq9' f g a c b s0 w z ti
    have qb := eqB q
    have gq : ∀ l, (s.pl l).get St.nil.next = some (.cells 0 x.cells) := fun l => ((pl_ext s l).get _ h4).trans h3
    rw [show s = s.pl [] from rfl]
    simp only [M8b0, E8, hr, c0, d0, h56, h57, q9, qb, w1, loadR_rp, ev1_eqv, ev1_extV, qES0, qES1, qES2, env0, List.length_cons, List.length_nil, Nat.reduceAdd, Nat.reduceSub, List.replicate, List.cons_append, List.nil_append, opd, Env.put, Env.at, List.set_cons_zero, List.set_cons_succ, List.getD_cons_zero, List.getD_cons_succ, freezeL, resVs, oneOr, Option.map_some, Option.map_none, List.map_cons, List.map_nil, if_true, if_false, Bool.not_true, Bool.not_false, Bool.false_eq_true, reduceIte, decide_true, decide_false, Int.reduceLT, Int.reduceLE, Int.reduceGT, Int.reduceGE, Int.reduceEq, Int.reduceBEq, Int.reduceBNe, load_ptr, ldV_some, cellAt_cells, List.getElem?_cons_zero, List.getElem?_cons_succ, store_ptr, stO_some, setAt_0, setAt_1, setAt_2, setAt_3, setAt_4, setAt_5, setAt_6, setAt_7, setAt_8, setAt_9, setAt_10, setAt_11, setAt_12, cells_int, cells_bool, cells_str, cells_nils, cells_nilp, cells_ptr, cells_sl, cells_u8, cells_u16, cells_agg, get_upd_is, Option.isSome_some, upd_upd, ev1_nchkV, ev1_faV, nchkV_ptr, faV_ptr, ev1_extV, extV_tup, eqptr_nil, eqptr_ptr, Nat.zero_add, Nat.add_zero, qPL0, qPL1, qPL2, qPL3, qPL4, qPL5, beq_self_eq_true]
    exact ⟨_, _, rfl, rfl, gq _, by rw [pl_next]; omega⟩
  · rintro e s ⟨h1, h3, h4⟩
    rw [h1]
    have d0 : decide (((5 : Nat) : Int) < 5) = false := rfl
    have d0' : decide ((5 : Int) < 5) = false := rfl
    have h56 := z56 998 A
    refine ⟨?_, fun e' s' hh => ?_⟩
    · obtain ⟨f, g, a, c, b, s0, w, z, ti⟩ := x
      have gq : ∀ l, (s.pl l).get St.nil.next = _ := fun l => ((pl_ext s l).get _ h4).trans h3
      simp only [Su.cells, suC] at gq
      have q9 := eq9' f g a c b s0 w z ti
      rw [show s = s.pl [] from rfl]
      rcases hA with ⟨rfl, hA⟩ | ⟨rfl, hA⟩
      · rw [hA] at h56
        have qb := eqB true
        simp only [getSV, Su.cells, suC] at h56
        simp only [M8, M8r0, M8b0, E8, d0, d0', h56, gq, q9, qb, ev1_eqv, ev1_extV, qES0, qES1, qES2, env0, List.length_cons, List.length_nil, Nat.reduceAdd, Nat.reduceSub, List.replicate, List.cons_append, List.nil_append, opd, Env.put, Env.at, List.set_cons_zero, List.set_cons_succ, List.getD_cons_zero, List.getD_cons_succ, freezeL, resVs, oneOr, Option.map_some, Option.map_none, List.map_cons, List.map_nil, if_true, if_false, Bool.not_true, Bool.not_false, Bool.false_eq_true, reduceIte, decide_true, decide_false, Int.reduceLT, Int.reduceLE, Int.reduceGT, Int.reduceGE, Int.reduceEq, Int.reduceBEq, Int.reduceBNe, load_ptr, ldV_some, cellAt_cells, List.getElem?_cons_zero, List.getElem?_cons_succ, store_ptr, stO_some, setAt_0, setAt_1, setAt_2, setAt_3, setAt_4, setAt_5, setAt_6, setAt_7, setAt_8, setAt_9, setAt_10, setAt_11, setAt_12, cells_int, cells_bool, cells_str, cells_nils, cells_nilp, cells_ptr, cells_sl, cells_u8, cells_u16, cells_agg, get_upd_is, Option.isSome_some, upd_upd, ev1_nchkV, ev1_faV, nchkV_ptr, faV_ptr, ev1_extV, extV_tup, eqptr_nil, eqptr_ptr, Nat.zero_add, Nat.add_zero, qPL0, qPL1, qPL2, qPL3, qPL4, qPL5, beq_self_eq_true]
      · rw [hA] at h56
        have qb := eqB false
        simp only [getSV, zeroS, suC] at h56
        simp only [M8, M8r0, M8b0, E8, d0, d0', h56, gq, q9, qb, ev1_eqv, ev1_extV, qES0, qES1, qES2, env0, List.length_cons, List.length_nil, Nat.reduceAdd, Nat.reduceSub, List.replicate, List.cons_append, List.nil_append, opd, Env.put, Env.at, List.set_cons_zero, List.set_cons_succ, List.getD_cons_zero, List.getD_cons_succ, freezeL, resVs, oneOr, Option.map_some, Option.map_none, List.map_cons, List.map_nil, if_true, if_false, Bool.not_true, Bool.not_false, Bool.false_eq_true, reduceIte, decide_true, decide_false, Int.reduceLT, Int.reduceLE, Int.reduceGT, Int.reduceGE, Int.reduceEq, Int.reduceBEq, Int.reduceBNe, load_ptr, ldV_some, cellAt_cells, List.getElem?_cons_zero, List.getElem?_cons_succ, store_ptr, stO_some, setAt_0, setAt_1, setAt_2, setAt_3, setAt_4, setAt_5, setAt_6, setAt_7, setAt_8, setAt_9, setAt_10, setAt_11, setAt_12, cells_int, cells_bool, cells_str, cells_nils, cells_nilp, cells_ptr, cells_sl, cells_u8, cells_u16, cells_agg, get_upd_is, Option.isSome_some, upd_upd, ev1_nchkV, ev1_faV, nchkV_ptr, faV_ptr, ev1_extV, extV_tup, eqptr_nil, eqptr_ptr, Nat.zero_add, Nat.add_zero, qPL0, qPL1, qPL2, qPL3, qPL4, qPL5, beq_self_eq_true]
    · simp only [M8b0, E8, d0, d0', qES0, qES1, qES2, env0, List.length_cons, List.length_nil, Nat.reduceAdd, Nat.reduceSub, List.replicate, List.cons_append, List.nil_append, opd, Env.put, Env.at, List.set_cons_zero, List.set_cons_succ, List.getD_cons_zero, List.getD_cons_succ, freezeL, resVs, oneOr, Option.map_some, Option.map_none, List.map_cons, List.map_nil, if_true, if_false, Bool.not_true, Bool.not_false, Bool.false_eq_true, reduceIte, decide_true, decide_false, Int.reduceLT, Int.reduceLE, Int.reduceGT, Int.reduceGE, Int.reduceEq, Int.reduceBEq, Int.reduceBNe, load_ptr, ldV_some, cellAt_cells, List.getElem?_cons_zero, List.getElem?_cons_succ, store_ptr, stO_some, setAt_0, setAt_1, setAt_2, setAt_3, setAt_4, setAt_5, setAt_6, setAt_7, setAt_8, setAt_9, setAt_10, setAt_11, setAt_12, cells_int, cells_bool, cells_str, cells_nils, cells_nilp, cells_ptr, cells_sl, cells_u8, cells_u16, cells_agg, get_upd_is, Option.isSome_some, upd_upd, ev1_nchkV, ev1_faV, nchkV_ptr, faV_ptr, ev1_extV, extV_tup, eqptr_nil, eqptr_ptr, Nat.zero_add, Nat.add_zero, qPL0, qPL1, qPL2, qPL3, qPL4, qPL5, beq_self_eq_true] at hh
      cases hh
end Go.Proofs.YtbeimfhodgmjhaaDoor
