/- What the evaluator says of the law ModAll: true. No conditions. -/
import Derived.Test.YtochnineebgbgaaDoorMod
import Derived.Test.YtochnineebgbgaaDoorArgS
namespace Go.Proofs.YtochnineebgbgaaDoor.modAll
open Go Go.Ab
set_option linter.unusedVariables false
set_option linter.unusedSimpArgs false
set_option maxRecDepth 100000 in
set_option maxHeartbeats 8000000 in
theorem says (n0 : Int) (hn0 : IntKind.has .i64 n0) (n1 : Int) (hn1 : IntKind.has .i64 n1) (n2 : Int) (hn2 : IntKind.has .i64 n2) : Ab.saysTrue (evT 1000 3 [.int .i64 n0, .int .i64 n1, .int .i64 n2] Ab.St.nil) = true := by
  obtain ⟨s1, hb⟩ := begunT_ev
  have m1 := i64_rem n0 1099511627776 (by omega)
  have m2 := i64_rem n1 1099511627776 (by omega)
  have hA : -1099511627776 < n0.tmod 1099511627776 ∧ n0.tmod 1099511627776 < 1099511627776 := tmR n0 _ (by omega)
  have hB : -1099511627776 < n1.tmod 1099511627776 ∧ n1.tmod 1099511627776 < 1099511627776 := tmR n1 _ (by omega)
  generalize n0.tmod 1099511627776 = A at m1 hA
  generalize n1.tmod 1099511627776 = B at m2 hB
  have w1 : IntKind.i64.wrap (A + B) = A + B := wrapB _ (by omega) (by omega)
  have w2 : IntKind.i64.wrap (A - B) = A - B := wrapB _ (by omega) (by omega)
  have h1 := add_ev 998 A B
  have h2 := rmod_ev 998 (A + B)
  have h3 := diff_ev 997 A B
  have h4 := rmod_ev 998 (A - B)
  have h5 := add_ev 998 ((A - B) % 8) B
  rw [show ((A - B) % 8 + B) % 8 = A % 8 by omega] at h5
  have h6 := rmod_ev 998 A
  have h7 := in_ev 996 A B n2
  have h8 := rin_ev 979 A B n2
  have nn : ∀ m : Int, binV .neq (.int .i64 m) (.int .i64 m) = some (.bool false) := fun m => by
    show some (AV.bool (m != m)) = _
    simp
  have w0 : ∀ (a : Bool), eqAV (.flat (.one .b)) (.bool a) (.bool a) = some true := fun a => by cases a <;> rfl
  rw [show (1000 : Nat) = 999 + 1 from rfl, evT_in rfl tab3]
  simp only [M3, hb, m1, m2, w1, w2, h1, h2, h3, h4, h5, h6, h7, h8, nn, w0, ev1_eqv, qES0, qES1, qES2, env0, List.length_cons, List.length_nil, Nat.reduceAdd, Nat.reduceSub, List.replicate, List.cons_append, List.nil_append, opd, Env.put, Env.at, List.set_cons_zero, List.set_cons_succ, List.getD_cons_zero, List.getD_cons_succ, freezeL, resVs, oneOr, Option.map_some, Option.map_none, List.map_cons, List.map_nil, if_true, if_false, Bool.not_true, Bool.not_false, Bool.false_eq_true, reduceIte, decide_true, decide_false, Int.reduceLT, Int.reduceLE, Int.reduceGT, Int.reduceGE, Int.reduceEq, Int.reduceBEq, Int.reduceBNe, load_ptr, ldV_some, cellAt_cells, List.getElem?_cons_zero, List.getElem?_cons_succ, store_ptr, stO_some, setAt_0, setAt_1, setAt_2, setAt_3, setAt_4, setAt_5, setAt_6, setAt_7, setAt_8, setAt_9, setAt_10, setAt_11, setAt_12, cells_int, cells_bool, cells_str, cells_nils, cells_nilp, cells_ptr, cells_sl, cells_u8, cells_u16, cells_agg, get_upd_is, Option.isSome_some, upd_upd, ev1_nchkV, ev1_faV, nchkV_ptr, faV_ptr, ev1_extV, extV_tup, eqptr_nil, eqptr_ptr, Nat.zero_add, Nat.add_zero, qPL0, qPL1, qPL2, qPL3, qPL4, qPL5, beq_self_eq_true]
  rfl
end Go.Proofs.YtochnineebgbgaaDoor.modAll
