/- turn.Turn: Put where eight wait; what is out of range is not taken. No conditions. -/
import Derived.Test.YtochnineebgbgaaDoorTakeA
set_option linter.unusedSimpArgs false
set_option linter.unusedVariables false
set_option maxRecDepth 100000
set_option maxHeartbeats 4000000
namespace Go.Proofs.YtochnineebgbgaaDoor
open Go Go.Ab
theorem putF_ev (k : Nat) (s : St) (b : Nat) (W : Int) (L : List (List UInt8)) (f st : Int) (x : List UInt8) (h : OutAt s b W L f st) (hl : 8 ≤ L.length) : evO (k + 1) 33 [.ptr b 0, .str x] s = some (.int .i64 3, s) := by
  obtain ⟨hb, lv, hg, hL⟩ := h
  rw [evO_in rfl tab33]
  have q1 : (((L.length : Nat) : Int) ≥ 8) = True := eq_true (by omega)
  have ln := hL.len
  simp only [M33, hg, ln, q1, ev1_eqv, eqptr_ptr, qES0, qES1, qES2, env0, List.length_cons, List.length_nil, Nat.reduceAdd, Nat.reduceSub, List.replicate, List.cons_append, List.nil_append, opd, Env.put, Env.at, List.set_cons_zero, List.set_cons_succ, List.getD_cons_zero, List.getD_cons_succ, freezeL, resVs, oneOr, Option.map_some, Option.map_none, List.map_cons, List.map_nil, if_true, if_false, Bool.not_true, Bool.not_false, Bool.false_eq_true, reduceIte, decide_true, decide_false, Int.reduceLT, Int.reduceLE, Int.reduceGT, Int.reduceGE, Int.reduceEq, Int.reduceBEq, Int.reduceBNe, load_ptr, ldV_some, cellAt_cells, List.getElem?_cons_zero, List.getElem?_cons_succ, store_ptr, stO_some, setAt_0, setAt_1, setAt_2, setAt_3, setAt_4, setAt_5, setAt_6, setAt_7, setAt_8, setAt_9, setAt_10, setAt_11, setAt_12, cells_int, cells_bool, cells_str, cells_nils, cells_nilp, cells_ptr, cells_sl, cells_u8, cells_u16, cells_agg, get_upd_is, Option.isSome_some, upd_upd, ev1_nchkV, ev1_faV, nchkV_ptr, faV_ptr, ev1_extV, extV_tup, eqptr_nil, eqptr_ptr, Nat.zero_add, Nat.add_zero, qPL0, qPL1, qPL2, qPL3, qPL4, qPL5, beq_self_eq_true]
section
variable {s : St} {t o i : Nat} {role size : Int} {mine : Bool} {W : Int} {L : List (List UInt8)} {f st nx : Int} {od : Bool}
theorem putF_evT (k : Nat) (x : List UInt8) (h : TurnAt s t o i role size mine W L f st nx od) (hl : 8 ≤ L.length) (hx : (x.length : Int) ≤ size) :
    evO (k + 2) 40 [.ptr t 0, .str x] s = some (.int .i64 3, s) := by
  obtain ⟨h1, h2, h3, h4, h5, h6, h7, h8⟩ := h
  have p1 := putF_ev k s o W L f st x h8 hl
  rw [show k + 2 = (k + 1) + 1 from rfl, evO_in rfl tab40]
  have hh : ((x.length : Int) > size) = False := eq_false (by omega)
  simp only [M40, h6, p1, hh, ev1_eqv, eqptr_ptr, qES0, qES1, qES2, env0, List.length_cons, List.length_nil, Nat.reduceAdd, Nat.reduceSub, List.replicate, List.cons_append, List.nil_append, opd, Env.put, Env.at, List.set_cons_zero, List.set_cons_succ, List.getD_cons_zero, List.getD_cons_succ, freezeL, resVs, oneOr, Option.map_some, Option.map_none, List.map_cons, List.map_nil, if_true, if_false, Bool.not_true, Bool.not_false, Bool.false_eq_true, reduceIte, decide_true, decide_false, Int.reduceLT, Int.reduceLE, Int.reduceGT, Int.reduceGE, Int.reduceEq, Int.reduceBEq, Int.reduceBNe, load_ptr, ldV_some, cellAt_cells, List.getElem?_cons_zero, List.getElem?_cons_succ, store_ptr, stO_some, setAt_0, setAt_1, setAt_2, setAt_3, setAt_4, setAt_5, setAt_6, setAt_7, setAt_8, setAt_9, setAt_10, setAt_11, setAt_12, cells_int, cells_bool, cells_str, cells_nils, cells_nilp, cells_ptr, cells_sl, cells_u8, cells_u16, cells_agg, get_upd_is, Option.isSome_some, upd_upd, ev1_nchkV, ev1_faV, nchkV_ptr, faV_ptr, ev1_extV, extV_tup, eqptr_nil, eqptr_ptr, Nat.zero_add, Nat.add_zero, qPL0, qPL1, qPL2, qPL3, qPL4, qPL5, beq_self_eq_true]
theorem take_out (k : Nat) (h : TurnAt s t o i role size mine W L f st nx od) (hr : role = 1 ∨ role = 2) (seat count : Int) (cmd : Bool) (hc : cmd = (role == 2)) (kind sort nr ns : Int) (pf : Bool) (body : List UInt8) (hk : kind = 1 ∨ kind = 2) (ho : (few nr 8 && few ns 8) = false) :
    ∃ s', evO (k + 4) 49 [.ptr t 0, .agg (plC seat count cmd kind sort nr ns pf body)] s = some (.tup [.str [], .bool false], s') ∧ TurnAt s' t o i role size mine W L f st nx od ∧ Fr3 s s' t o i := by
  have hn := h.new (.cells 0 (plC seat count cmd kind sort nr ns pf body))
  have hg : (s.new (.cells 0 (plC seat count cmd kind sort nr ns pf body))).get s.next = some (.cells 0 (plC seat count cmd kind sort nr ns pf body)) := get_new_eq _ _
  have hm := may_ev k hn hr seat count cmd hc kind sort nr ns pf body hk
  rw [ho] at hm
  refine ⟨_, ?_, (hn.new (.cells 0 (plC seat count cmd kind sort nr ns pf body))).new (.cells 0 [.int .i64 nr, .int .i64 ns, .bool false]), ((Fr3.new _ _ _ _ _).trans (Fr3.new _ _ _ _ _)).trans (Fr3.new _ _ _ _ _)⟩
  rw [show k + 4 = (k + 3) + 1 from rfl, evO_in rfl tab49]
  unfold plC at *
  simp only [M49, hg, hm, ev1_boxV, boxV_some, qES0, qES1, qES2, env0, List.length_cons, List.length_nil, Nat.reduceAdd, Nat.reduceSub, List.replicate, List.cons_append, List.nil_append, opd, Env.put, Env.at, List.set_cons_zero, List.set_cons_succ, List.getD_cons_zero, List.getD_cons_succ, freezeL, resVs, oneOr, Option.map_some, Option.map_none, List.map_cons, List.map_nil, if_true, if_false, Bool.not_true, Bool.not_false, Bool.false_eq_true, reduceIte, decide_true, decide_false, Int.reduceLT, Int.reduceLE, Int.reduceGT, Int.reduceGE, Int.reduceEq, Int.reduceBEq, Int.reduceBNe, load_ptr, ldV_some, cellAt_cells, List.getElem?_cons_zero, List.getElem?_cons_succ, store_ptr, stO_some, setAt_0, setAt_1, setAt_2, setAt_3, setAt_4, setAt_5, setAt_6, setAt_7, setAt_8, setAt_9, setAt_10, setAt_11, setAt_12, cells_int, cells_bool, cells_str, cells_nils, cells_nilp, cells_ptr, cells_sl, cells_u8, cells_u16, cells_agg, get_upd_is, Option.isSome_some, upd_upd, ev1_nchkV, ev1_faV, nchkV_ptr, faV_ptr, ev1_extV, extV_tup, eqptr_nil, eqptr_ptr, Nat.zero_add, Nat.add_zero, qPL0, qPL1, qPL2, qPL3, qPL4, qPL5, beq_self_eq_true]
end
end Go.Proofs.YtochnineebgbgaaDoor
