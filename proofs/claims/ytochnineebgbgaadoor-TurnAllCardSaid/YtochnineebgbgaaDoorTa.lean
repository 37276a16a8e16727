/- turn.Turn: Put where eight wait; what is out of range is not taken. No conditions. -/
import Derived.Test.YtochnineebgbgaaDoorTakeA
import Derived.Test.YtochnineebgbgaaDoorM12h
import Derived.Test.YtochnineebgbgaaDoorArgR
import Derived.Test.YtochnineebgbgaaDoorPlainT12
import Derived.Test.YtochnineebgbgaaDoorBy
import Derived.Test.YtochnineebgbgaaDoorRtA
set_option linter.unusedSimpArgs false
set_option linter.unusedVariables false
set_option maxRecDepth 100000
set_option maxHeartbeats 4000000
namespace Go.Proofs.YtochnineebgbgaaDoor
open Go Go.Ab
theorem putF_ev (k : Nat) (s : St) (b : Nat) (W : Int) (L : List (List UInt8)) (f st : Int) (x : List UInt8) (h : OutAt s b W L f st) (hl : 8 ≤ L.length) : evO (k + 1) 33 [.ptr b 0, .str x] s = some (.int .i64 3, s) := by
  obtain ⟨hb, lv, hg, hL⟩ := h
  rw [evO_in rfl tab33]
  have q1 : (((L.length : Nat) : Int) ≥ 8) = True := eq_true (by omega)
  have ln := hL.len
  simp only [M33, hg, ln, q1, ev1_eqv, eqptr_ptr, qES0, qES1, qES2, env0, List.length_cons, List.length_nil, Nat.reduceAdd, Nat.reduceSub, List.replicate, List.cons_append, List.nil_append, opd, Env.put, Env.at, List.set_cons_zero, List.set_cons_succ, List.getD_cons_zero, List.getD_cons_succ, freezeL, resVs, oneOr, Option.map_some, Option.map_none, List.map_cons, List.map_nil, if_true, if_false, Bool.not_true, Bool.not_false, Bool.false_eq_true, reduceIte, decide_true, decide_false, Int.reduceLT, Int.reduceLE, Int.reduceGT, Int.reduceGE, Int.reduceEq, Int.reduceBEq, Int.reduceBNe, load_ptr, ldV_some, cellAt_cells, List.getElem?_cons_zero, List.getElem?_cons_succ, store_ptr, stO_some, setAt_0, setAt_1, setAt_2, setAt_3, setAt_4, setAt_5, setAt_6, setAt_7, setAt_8, setAt_9, setAt_10, setAt_11, setAt_12, cells_int, cells_bool, cells_str, cells_nils, cells_nilp, cells_ptr, cells_sl, cells_u8, cells_u16, cells_agg, get_upd_is, Option.isSome_some, upd_upd, ev1_nchkV, ev1_faV, nchkV_ptr, faV_ptr, ev1_extV, extV_tup, eqptr_nil, eqptr_ptr, Nat.zero_add, Nat.add_zero, qPL0, qPL1, qPL2, qPL3, qPL4, qPL5, beq_self_eq_true]
section
variable {s : St} {t o i : Nat} {role size : Int} {mine : Bool} {W : Int} {L : List (List UInt8)} {f st nx : Int} {od : Bool}
theorem putF_evT (k : Nat) (x : List UInt8) (h : TurnAt s t o i role size mine W L f st nx od) (hl : 8 ≤ L.length) (hx : (x.length : Int) ≤ size) :
    evO (k + 2) 40 [.ptr t 0, .str x] s = some (.int .i64 3, s) := by
  obtain ⟨h1, h2, h3, h4, h5, h6, h7, h8⟩ := h
  have p1 := putF_ev k s o W L f st x h8 hl
  rw [show k + 2 = (k + 1) + 1 from rfl, evO_in rfl tab40]
  have hh : ((x.length : Int) > size) = False := eq_false (by omega)
  simp only [M40, h6, p1, hh, ev1_eqv, eqptr_ptr, qES0, qES1, qES2, env0, List.length_cons, List.length_nil, Nat.reduceAdd, Nat.reduceSub, List.replicate, List.cons_append, List.nil_append, opd, Env.put, Env.at, List.set_cons_zero, List.set_cons_succ, List.getD_cons_zero, List.getD_cons_succ, freezeL, resVs, oneOr, Option.map_some, Option.map_none, List.map_cons, List.map_nil, if_true, if_false, Bool.not_true, Bool.not_false, Bool.false_eq_true, reduceIte, decide_true, decide_false, Int.reduceLT, Int.reduceLE, Int.reduceGT, Int.reduceGE, Int.reduceEq, Int.reduceBEq, Int.reduceBNe, load_ptr, ldV_some, cellAt_cells, List.getElem?_cons_zero, List.getElem?_cons_succ, store_ptr, stO_some, setAt_0, setAt_1, setAt_2, setAt_3, setAt_4, setAt_5, setAt_6, setAt_7, setAt_8, setAt_9, setAt_10, setAt_11, setAt_12, cells_int, cells_bool, cells_str, cells_nils, cells_nilp, cells_ptr, cells_sl, cells_u8, cells_u16, cells_agg, get_upd_is, Option.isSome_some, upd_upd, ev1_nchkV, ev1_faV, nchkV_ptr, faV_ptr, ev1_extV, extV_tup, eqptr_nil, eqptr_ptr, Nat.zero_add, Nat.add_zero, qPL0, qPL1, qPL2, qPL3, qPL4, qPL5, beq_self_eq_true]
theorem take_out (k : Nat) (h : TurnAt s t o i role size mine W L f st nx od) (hr : role = 1 ∨ role = 2) (seat count : Int) (cmd : Bool) (hc : cmd = (role == 2)) (kind sort nr ns : Int) (pf : Bool) (body : List UInt8) (hk : kind = 1 ∨ kind = 2) (ho : (few nr 8 && few ns 8) = false) :
    ∃ s', evO (k + 4) 49 [.ptr t 0, .agg (plC seat count cmd kind sort nr ns pf body)] s = some (.tup [.str [], .bool false], s') ∧ TurnAt s' t o i role size mine W L f st nx od ∧ Fr3 s s' t o i := by
  have hn := h.new (.cells 0 (plC seat count cmd kind sort nr ns pf body))
  have hg : (s.new (.cells 0 (plC seat count cmd kind sort nr ns pf body))).get s.next = some (.cells 0 (plC seat count cmd kind sort nr ns pf body)) := get_new_eq _ _
  have hm := may_ev k hn hr seat count cmd hc kind sort nr ns pf body hk
  rw [ho] at hm
  refine ⟨_, ?_, (hn.new (.cells 0 (plC seat count cmd kind sort nr ns pf body))).new (.cells 0 [.int .i64 nr, .int .i64 ns, .bool false]), ((Fr3.new _ _ _ _ _).trans (Fr3.new _ _ _ _ _)).trans (Fr3.new _ _ _ _ _)⟩
  rw [show k + 4 = (k + 3) + 1 from rfl, evO_in rfl tab49]
  unfold plC at *
  simp only [M49, hg, hm, ev1_boxV, boxV_some, qES0, qES1, qES2, env0, List.length_cons, List.length_nil, Nat.reduceAdd, Nat.reduceSub, List.replicate, List.cons_append, List.nil_append, opd, Env.put, Env.at, List.set_cons_zero, List.set_cons_succ, List.getD_cons_zero, List.getD_cons_succ, freezeL, resVs, oneOr, Option.map_some, Option.map_none, List.map_cons, List.map_nil, if_true, if_false, Bool.not_true, Bool.not_false, Bool.false_eq_true, reduceIte, decide_true, decide_false, Int.reduceLT, Int.reduceLE, Int.reduceGT, Int.reduceGE, Int.reduceEq, Int.reduceBEq, Int.reduceBNe, load_ptr, ldV_some, cellAt_cells, List.getElem?_cons_zero, List.getElem?_cons_succ, store_ptr, stO_some, setAt_0, setAt_1, setAt_2, setAt_3, setAt_4, setAt_5, setAt_6, setAt_7, setAt_8, setAt_9, setAt_10, setAt_11, setAt_12, cells_int, cells_bool, cells_str, cells_nils, cells_nilp, cells_ptr, cells_sl, cells_u8, cells_u16, cells_agg, get_upd_is, Option.isSome_some, upd_upd, ev1_nchkV, ev1_faV, nchkV_ptr, faV_ptr, ev1_extV, extV_tup, eqptr_nil, eqptr_ptr, Nat.zero_add, Nat.add_zero, qPL0, qPL1, qPL2, qPL3, qPL4, qPL5, beq_self_eq_true]
end
end Go.Proofs.YtochnineebgbgaaDoor
/- glowwormlaw4.Text. No conditions. -/
set_option linter.unusedSimpArgs false
set_option linter.unusedVariables false
set_option maxRecDepth 100000
namespace Go.Proofs.YtochnineebgbgaaDoor
open Go Go.Ab
theorem text_ev (k : Nat) (b : List UInt8) (n : Nat) (s : St) : evO (k + 1) 41 [.str b, .int .i64 (n : Nat)] s = some (.str (b.take n), s) := by
  have sl : ∀ m : Nat, m ≤ b.length → slcS (.str b) none (some (.int .i64 (m : Nat))) = some (.str (b.take m)) := fun m hm => by
    simp only [slcS, bndO, bnd]
    rw [if_pos ⟨by omega, by omega⟩]
    simp
  rw [evO_in rfl tab41]
  by_cases h : n < b.length
  · have h1 : (((n : Nat) : Int) < ((b.length : Nat) : Int)) = True := eq_true (by omega)
    have sl1 := sl n (by omega)
    simp only [M41, h1, sl1, qES0, qES1, qES2, env0, List.length_cons, List.length_nil, Nat.reduceAdd, Nat.reduceSub, List.replicate, List.cons_append, List.nil_append, opd, Env.put, Env.at, List.set_cons_zero, List.set_cons_succ, List.getD_cons_zero, List.getD_cons_succ, freezeL, resVs, oneOr, Option.map_some, Option.map_none, List.map_cons, List.map_nil, if_true, if_false, Bool.not_true, Bool.not_false, Bool.false_eq_true, reduceIte, decide_true, decide_false, Int.reduceLT, Int.reduceLE, Int.reduceGT, Int.reduceGE, Int.reduceEq, Int.reduceBEq, Int.reduceBNe, load_ptr, ldV_some, cellAt_cells, List.getElem?_cons_zero, List.getElem?_cons_succ, store_ptr, stO_some, setAt_0, setAt_1, setAt_2, setAt_3, setAt_4, setAt_5, setAt_6, setAt_7, setAt_8, setAt_9, setAt_10, setAt_11, setAt_12, cells_int, cells_bool, cells_str, cells_nils, cells_nilp, cells_ptr, cells_sl, cells_u8, cells_u16, cells_agg, get_upd_is, Option.isSome_some, upd_upd, ev1_nchkV, ev1_faV, nchkV_ptr, faV_ptr, ev1_extV, extV_tup, eqptr_nil, eqptr_ptr, Nat.zero_add, Nat.add_zero, qPL0, qPL1, qPL2, qPL3, qPL4, qPL5, beq_self_eq_true]
  · have h1 : (((n : Nat) : Int) < ((b.length : Nat) : Int)) = False := eq_false (by omega)
    have sl1 := sl b.length (by omega)
    rw [List.take_of_length_le (by omega : b.length ≤ n)]
    rw [List.take_of_length_le (by omega : b.length ≤ b.length)] at sl1
    simp only [M41, h1, sl1, qES0, qES1, qES2, env0, List.length_cons, List.length_nil, Nat.reduceAdd, Nat.reduceSub, List.replicate, List.cons_append, List.nil_append, opd, Env.put, Env.at, List.set_cons_zero, List.set_cons_succ, List.getD_cons_zero, List.getD_cons_succ, freezeL, resVs, oneOr, Option.map_some, Option.map_none, List.map_cons, List.map_nil, if_true, if_false, Bool.not_true, Bool.not_false, Bool.false_eq_true, reduceIte, decide_true, decide_false, Int.reduceLT, Int.reduceLE, Int.reduceGT, Int.reduceGE, Int.reduceEq, Int.reduceBEq, Int.reduceBNe, load_ptr, ldV_some, cellAt_cells, List.getElem?_cons_zero, List.getElem?_cons_succ, store_ptr, stO_some, setAt_0, setAt_1, setAt_2, setAt_3, setAt_4, setAt_5, setAt_6, setAt_7, setAt_8, setAt_9, setAt_10, setAt_11, setAt_12, cells_int, cells_bool, cells_str, cells_nils, cells_nilp, cells_ptr, cells_sl, cells_u8, cells_u16, cells_agg, get_upd_is, Option.isSome_some, upd_upd, ev1_nchkV, ev1_faV, nchkV_ptr, faV_ptr, ev1_extV, extV_tup, eqptr_nil, eqptr_ptr, Nat.zero_add, Nat.add_zero, qPL0, qPL1, qPL2, qPL3, qPL4, qPL5, beq_self_eq_true]
end Go.Proofs.YtochnineebgbgaaDoor
/- Eq on lists of frames, Plain. No conditions. -/
set_option linter.unusedSimpArgs false
set_option linter.unusedVariables false
set_option maxRecDepth 100000
set_option maxHeartbeats 4000000
namespace Go.Proofs.YtochnineebgbgaaDoor
open Go Go.Ab
def E52 (v u : AV) (len j : Int) : Env := [v, u, .undef, .undef, .undef, .undef, .undef, .undef, .undef, .undef, .undef, .undef, .int .i64 len, .int .i64 j, .undef, .undef, .undef, .undef, .undef, .undef, .undef, .undef, .undef, .undef, .undef, .undef]
def k9 : EqK := .flat (.many [.i, .i, .b, .i, .i, .i, .i, .b, .s])
theorem eqPl (seat count : Int) (cmd : Bool) (kind sort nr ns : Int) (pf : Bool) (body : List UInt8) : eqAV k9 (.agg (plC seat count cmd kind sort nr ns pf body)) (.agg (plC seat count cmd kind sort nr ns pf body)) = some true := by
  unfold k9 plC
  cases cmd <;> cases pf <;> simp [eqAV, eqFl, eqScL, eqSc]
theorem r52 (k : Nat) {s : St} {v u : AV} {ps : List Fm} (hv : FrV v ps) (hu : FrV u ps) (hl : ps.length ≤ 8) : evO (k + 20) 52 [v, u] s = some (.bool true, s) := by
  have lv := hv.len
  have lu := hu.len
  have fv := hv.freeze
  have fu := hu.freeze
  rw [show k + 20 = (k + 19) + 1 from rfl, evO_in rfl tab52]
  have hL : (outR [MRes.tmp 0 4] (seqR (blockR 0 (iter (evC tabGl (evO (k + 19)) (k + 19) M52b0) M52b0l (k + 19) (E52 v u (ps.length : Nat) 0) s)) (evC tabGl (evO (k + 19)) (k + 19) M52r0))) = some (.bool true, s) := by
    refine iter_leave (evC tabGl (evO (k + 19)) (k + 19) M52b0) M52b0l (fun j e S => maskE M52b0l e = E52 v u (ps.length : Nat) (j : Nat) ∧ S = s)
      (fun out => (outR [MRes.tmp 0 4] (seqR (blockR 0 out) (evC tabGl (evO (k + 19)) (k + 19) M52r0))) = some (.bool true, s)) ps.length ?_ ?_ ps.length 0 _ _ (k + 19) (by omega) ⟨rfl, rfl⟩ (by omega)
    · rintro j e S hj ⟨h1, rfl⟩
      rw [h1]
      left
      obtain ⟨r1, a1, a2⟩ := hv.at_ j hj
      obtain ⟨r2, b1, b2⟩ := hu.at_ j hj
      have q : ((j : Int) < ((ps.length : Nat) : Int)) = True := eq_true (by omega)
      have w1 : IntKind.i64.wrap ((j : Int) + 1) = ((j + 1 : Nat) : Int) := (wrapI _ (by omega) (by omega)).trans (by omega)
      have e9 := eqPl 0 0 ps[j].cmd ps[j].kind ps[j].sort ps[j].nr ps[j].ns ps[j].pf ps[j].body
      unfold k9 at e9
      suffices hs : ∃ e', evC tabGl (evO (k + 19)) (k + 19) M52b0 (E52 v u (ps.length : Nat) (j : Nat)) S = some (.nrm, e', S) ∧ maskE M52b0l e' = E52 v u (ps.length : Nat) ((j + 1 : Nat) : Int) by
        obtain ⟨e', g1, g2⟩ := hs
        exact ⟨e', S, g1, g2, rfl⟩
      simp only [M52b0, E52, q, a1, a2, b1, b2, e9, loadR_rp, ev1_eqv, qES0, qES1, qES2, env0, List.length_cons, List.length_nil, Nat.reduceAdd, Nat.reduceSub, List.replicate, List.cons_append, List.nil_append, opd, Env.put, Env.at, List.set_cons_zero, List.set_cons_succ, List.getD_cons_zero, List.getD_cons_succ, freezeL, resVs, oneOr, Option.map_some, Option.map_none, List.map_cons, List.map_nil, if_true, if_false, Bool.not_true, Bool.not_false, Bool.false_eq_true, reduceIte, decide_true, decide_false, Int.reduceLT, Int.reduceLE, Int.reduceGT, Int.reduceGE, Int.reduceEq, Int.reduceBEq, Int.reduceBNe, load_ptr, ldV_some, cellAt_cells, List.getElem?_cons_zero, List.getElem?_cons_succ, store_ptr, stO_some, setAt_0, setAt_1, setAt_2, setAt_3, setAt_4, setAt_5, setAt_6, setAt_7, setAt_8, setAt_9, setAt_10, setAt_11, setAt_12, cells_int, cells_bool, cells_str, cells_nils, cells_nilp, cells_ptr, cells_sl, cells_u8, cells_u16, cells_agg, get_upd_is, Option.isSome_some, upd_upd, ev1_nchkV, ev1_faV, nchkV_ptr, faV_ptr, ev1_extV, extV_tup, eqptr_nil, eqptr_ptr, Nat.zero_add, Nat.add_zero, qPL0, qPL1, qPL2, qPL3, qPL4, qPL5, beq_self_eq_true, qED0, qED1, placeR]
      rw [drawR_ok]; case h => simp (config := {decide := true}) [calm, calmPair, calmTwo, List.range, List.range.loop, sameO_refl]
      simp only [w1, qES0, qES1, qES2, env0, List.length_cons, List.length_nil, Nat.reduceAdd, Nat.reduceSub, List.replicate, List.cons_append, List.nil_append, opd, Env.put, Env.at, List.set_cons_zero, List.set_cons_succ, List.getD_cons_zero, List.getD_cons_succ, freezeL, resVs, oneOr, Option.map_some, Option.map_none, List.map_cons, List.map_nil, if_true, if_false, Bool.not_true, Bool.not_false, Bool.false_eq_true, reduceIte, decide_true, decide_false, Int.reduceLT, Int.reduceLE, Int.reduceGT, Int.reduceGE, Int.reduceEq, Int.reduceBEq, Int.reduceBNe, load_ptr, ldV_some, cellAt_cells, List.getElem?_cons_zero, List.getElem?_cons_succ, store_ptr, stO_some, setAt_0, setAt_1, setAt_2, setAt_3, setAt_4, setAt_5, setAt_6, setAt_7, setAt_8, setAt_9, setAt_10, setAt_11, setAt_12, cells_int, cells_bool, cells_str, cells_nils, cells_nilp, cells_ptr, cells_sl, cells_u8, cells_u16, cells_agg, get_upd_is, Option.isSome_some, upd_upd, ev1_nchkV, ev1_faV, nchkV_ptr, faV_ptr, ev1_extV, extV_tup, eqptr_nil, eqptr_ptr, Nat.zero_add, Nat.add_zero, qPL0, qPL1, qPL2, qPL3, qPL4, qPL5, beq_self_eq_true, qED0, qED1, placeR]
      exact ⟨_, rfl, rfl⟩
    · rintro e S ⟨h1, rfl⟩
      rw [h1]
      have q : (((ps.length : Nat) : Int) < ((ps.length : Nat) : Int)) = False := eq_false (by omega)
      refine ⟨?_, fun _ _ h => ?_⟩
      · simp only [M52b0, E52, M52r0, q, qES0, qES1, qES2, env0, List.length_cons, List.length_nil, Nat.reduceAdd, Nat.reduceSub, List.replicate, List.cons_append, List.nil_append, opd, Env.put, Env.at, List.set_cons_zero, List.set_cons_succ, List.getD_cons_zero, List.getD_cons_succ, freezeL, resVs, oneOr, Option.map_some, Option.map_none, List.map_cons, List.map_nil, if_true, if_false, Bool.not_true, Bool.not_false, Bool.false_eq_true, reduceIte, decide_true, decide_false, Int.reduceLT, Int.reduceLE, Int.reduceGT, Int.reduceGE, Int.reduceEq, Int.reduceBEq, Int.reduceBNe, load_ptr, ldV_some, cellAt_cells, List.getElem?_cons_zero, List.getElem?_cons_succ, store_ptr, stO_some, setAt_0, setAt_1, setAt_2, setAt_3, setAt_4, setAt_5, setAt_6, setAt_7, setAt_8, setAt_9, setAt_10, setAt_11, setAt_12, cells_int, cells_bool, cells_str, cells_nils, cells_nilp, cells_ptr, cells_sl, cells_u8, cells_u16, cells_agg, get_upd_is, Option.isSome_some, upd_upd, ev1_nchkV, ev1_faV, nchkV_ptr, faV_ptr, ev1_extV, extV_tup, eqptr_nil, eqptr_ptr, Nat.zero_add, Nat.add_zero, qPL0, qPL1, qPL2, qPL3, qPL4, qPL5, beq_self_eq_true, qED0, qED1, placeR]
      · simp only [M52b0, E52, q, qES0, qES1, qES2, env0, List.length_cons, List.length_nil, Nat.reduceAdd, Nat.reduceSub, List.replicate, List.cons_append, List.nil_append, opd, Env.put, Env.at, List.set_cons_zero, List.set_cons_succ, List.getD_cons_zero, List.getD_cons_succ, freezeL, resVs, oneOr, Option.map_some, Option.map_none, List.map_cons, List.map_nil, if_true, if_false, Bool.not_true, Bool.not_false, Bool.false_eq_true, reduceIte, decide_true, decide_false, Int.reduceLT, Int.reduceLE, Int.reduceGT, Int.reduceGE, Int.reduceEq, Int.reduceBEq, Int.reduceBNe, load_ptr, ldV_some, cellAt_cells, List.getElem?_cons_zero, List.getElem?_cons_succ, store_ptr, stO_some, setAt_0, setAt_1, setAt_2, setAt_3, setAt_4, setAt_5, setAt_6, setAt_7, setAt_8, setAt_9, setAt_10, setAt_11, setAt_12, cells_int, cells_bool, cells_str, cells_nils, cells_nilp, cells_ptr, cells_sl, cells_u8, cells_u16, cells_agg, get_upd_is, Option.isSome_some, upd_upd, ev1_nchkV, ev1_faV, nchkV_ptr, faV_ptr, ev1_extV, extV_tup, eqptr_nil, eqptr_ptr, Nat.zero_add, Nat.add_zero, qPL0, qPL1, qPL2, qPL3, qPL4, qPL5, beq_self_eq_true, qED0, qED1, placeR] at h
        cases h
  have hL' : ∀ e, maskE M52b0l e = maskE M52b0l (E52 v u (ps.length : Nat) 0) → (outR [MRes.tmp 0 4] (seqR (blockR 0 (iter (evC tabGl (evO (k + 19)) (k + 19) M52b0) M52b0l (k + 19) e s)) (evC tabGl (evO (k + 19)) (k + 19) M52r0))) = some (.bool true, s) := fun e he => by
    rw [iter_mask _ _ _ _ _ _ he]; exact hL
  have nn : ∀ a : Int, (a != a) = false := fun a => by simp
  simp only [M52, lv, lu, nn, evC_loop, qES0, qES1, qES2, env0, List.length_cons, List.length_nil, Nat.reduceAdd, Nat.reduceSub, List.replicate, List.cons_append, List.nil_append, opd, Env.put, Env.at, List.set_cons_zero, List.set_cons_succ, List.getD_cons_zero, List.getD_cons_succ, freezeL, resVs, oneOr, Option.map_some, Option.map_none, List.map_cons, List.map_nil, if_true, if_false, Bool.not_true, Bool.not_false, Bool.false_eq_true, reduceIte, decide_true, decide_false, Int.reduceLT, Int.reduceLE, Int.reduceGT, Int.reduceGE, Int.reduceEq, Int.reduceBEq, Int.reduceBNe, load_ptr, ldV_some, cellAt_cells, List.getElem?_cons_zero, List.getElem?_cons_succ, store_ptr, stO_some, setAt_0, setAt_1, setAt_2, setAt_3, setAt_4, setAt_5, setAt_6, setAt_7, setAt_8, setAt_9, setAt_10, setAt_11, setAt_12, cells_int, cells_bool, cells_str, cells_nils, cells_nilp, cells_ptr, cells_sl, cells_u8, cells_u16, cells_agg, get_upd_is, Option.isSome_some, upd_upd, ev1_nchkV, ev1_faV, nchkV_ptr, faV_ptr, ev1_extV, extV_tup, eqptr_nil, eqptr_ptr, Nat.zero_add, Nat.add_zero, qPL0, qPL1, qPL2, qPL3, qPL4, qPL5, beq_self_eq_true, qED0, qED1, placeR]
  exact hL' _ rfl
/-- Plain. -/
theorem r54 (k : Nat) (s : St) (seat count : Int) (cmd : Bool) (kind sort nr ns : Int) (pf : Bool) (body : List UInt8) :
    evO (k + 2) 54 [.agg (plC seat count cmd kind sort nr ns pf body)] s = some (.agg (plC seat count cmd kind sort nr ns pf (body.take 70)), (s.new (.cells 0 (plC seat count cmd kind sort nr ns pf (body.take 70)))).new (.cells 0 (plC seat count cmd kind sort nr ns pf (body.take 70)))) := by
  have h41 : ∀ s, evO (k + 1) 41 [.str body, .int .i64 70] s = some (.str (body.take 70), s) := text_ev k body 70
  rw [show k + 2 = (k + 1) + 1 from rfl, evO_in rfl tab54]
  unfold plC
  rw [show s = s.pl [] from rfl]
  simp only [M54, h41, ev1_boxV, boxV_some, resVs, resV, qES0, qES1, qES2, env0, List.length_cons, List.length_nil, Nat.reduceAdd, Nat.reduceSub, List.replicate, List.cons_append, List.nil_append, opd, Env.put, Env.at, List.set_cons_zero, List.set_cons_succ, List.getD_cons_zero, List.getD_cons_succ, freezeL, resVs, oneOr, Option.map_some, Option.map_none, List.map_cons, List.map_nil, if_true, if_false, Bool.not_true, Bool.not_false, Bool.false_eq_true, reduceIte, decide_true, decide_false, Int.reduceLT, Int.reduceLE, Int.reduceGT, Int.reduceGE, Int.reduceEq, Int.reduceBEq, Int.reduceBNe, load_ptr, ldV_some, cellAt_cells, List.getElem?_cons_zero, List.getElem?_cons_succ, store_ptr, stO_some, setAt_0, setAt_1, setAt_2, setAt_3, setAt_4, setAt_5, setAt_6, setAt_7, setAt_8, setAt_9, setAt_10, setAt_11, setAt_12, cells_int, cells_bool, cells_str, cells_nils, cells_nilp, cells_ptr, cells_sl, cells_u8, cells_u16, cells_agg, get_upd_is, Option.isSome_some, upd_upd, ev1_nchkV, ev1_faV, nchkV_ptr, faV_ptr, ev1_extV, extV_tup, eqptr_nil, eqptr_ptr, Nat.zero_add, Nat.add_zero, qPL0, qPL1, qPL2, qPL3, qPL4, qPL5, beq_self_eq_true, qED0, qED1, placeR]
  rfl
end Go.Proofs.YtochnineebgbgaaDoor
/- A list of structs with a struct in each as an argument. No conditions. -/
set_option linter.unusedSimpArgs false
set_option linter.unusedVariables false
namespace Go.Ab
open Go Go.ChangeShapes Go.WideShapes Go.ChangeAt Go.RowKit
section
variable {P : Program} {W : World} {H : Type} {enc : TypeId × Value → H}
theorem sc_trod {t : TypeId} (hsc : isSc P t = true) {n : Nat} {cs : List Value} {y : DataW H × List MemPlace} (h : DataW.trod enc P W 0 (fun _ => true) true n t cs = some y) : ∃ a v, cs = [v] ∧ Sc P t a ∧ RelV (Gh.start W) a v ∧ v.oneCell' = true := by
  unfold isSc at hsc
  split at hsc
  · rename_i k hu
    obtain ⟨m, rfl, _, hw⟩ := DataW.trod_int hu h
    exact ⟨_, _, rfl, .int _ _ _ hu (by simpa [Lit.wf, IntKind.has] using hw), .int _ _, rfl⟩
  · rename_i hu
    obtain ⟨b, rfl, _⟩ := DataW.trod_bool hu h
    exact ⟨_, _, rfl, .bool _ _ hu, .bool _, rfl⟩
  · rename_i hu
    obtain ⟨b, rfl, _, hz⟩ := DataW.trod_string hu h
    refine ⟨.str b.data.toList, _, rfl, .str _ _ hu ?_, .str _, rfl⟩
    have : b.data.toList.length ≤ maxLen := by simpa using hz
    exact Int.ofNat_le.2 this
  · cases hsc
theorem flat_trod : ∀ (ts : List TypeId) (cs : List Value), ts.all (isSc P) = true → cs.length = ts.length → (∀ i t, ts[i]? = some t → ∃ n y, DataW.trod enc P W 0 (fun _ => true) true n t ((cs.drop i).take 1) = some y) → ∃ bs, ScL P ts bs ∧ RelL (Gh.start W) bs cs := by
  intro ts
  induction ts with
  | nil =>
    intro cs _ hl _
    have : cs = [] := List.length_eq_zero_iff.1 hl
    subst this
    exact ⟨[], .nil, .nil⟩
  | cons t ts ih =>
    intro cs hs hl h
    match cs, hl with
    | c :: cs, hl =>
      simp only [List.all_cons, Bool.and_eq_true] at hs
      obtain ⟨bs, q1, q2⟩ := ih cs hs.2 (by simpa using hl) (fun i u hu => h (i + 1) u hu)
      obtain ⟨n, y, hy⟩ := h 0 t rfl
      obtain ⟨a, v, e, p1, p2, p3⟩ := sc_trod hs.1 hy
      cases e
      exact ⟨a :: bs, .cons _ _ _ _ p1 q1, .cons _ _ _ _ p2 p3 q2⟩
theorem fld_trod {fs : Array Field} {t : TypeId} {n : Nat} {cs : List Value} {y : DataW H × List MemPlace} (he : P.underlying t = some (.struct fs)) (h : DataW.trod enc P W 0 (fun _ => true) true n t cs = some y) (i o : Nat) {u : TypeId} {k : Nat} (hf : ∃ f, fs[i]? = some f ∧ f.type = u ∧ f.offset = o) (hk : P.cellsOf u = k) :
    ∃ m z, DataW.trod enc P W 0 (fun _ => true) true m u ((cs.drop o).take k) = some z := by
  obtain ⟨xs, m, rfl, rfl, hl, hxl, hall⟩ := DataW.trod_struct he h
  obtain ⟨f, f1, rfl, f2⟩ := hf
  subst hk
  have := hall i f f1
  rw [f2] at this
  have s1 : i < fs.size := (Array.getElem?_eq_some_iff.1 f1).1
  rw [List.getElem?_eq_getElem (by omega)] at this
  exact ⟨m, _, this⟩
theorem len_trod {fs : Array Field} {t : TypeId} {n : Nat} {cs : List Value} {y : DataW H × List MemPlace} (he : P.underlying t = some (.struct fs)) (h : DataW.trod enc P W 0 (fun _ => true) true n t cs = some y) : cs.length = P.cellsOf t := by
  obtain ⟨xs, m, rfl, rfl, hl, hxl, hall⟩ := DataW.trod_struct he h
  exact hl
theorem drop_in (cs : List Value) (o k i : Nat) (h : i < k) : (((cs.drop o).take k).drop i).take 1 = (cs.drop (o + i)).take 1 := by
  rw [List.drop_take, List.take_take, List.drop_drop, show min 1 (k - i) = 1 by omega]
end
end Go.Ab
namespace Go.Proofs.YtochnineebgbgaaDoor
open Go Go.Ab Go.ChangeShapes Go.WideShapes Go.ChangeAt Go.RowKit
section
variable {W : World} {H : Type} {enc : TypeId × Value → H}
theorem plain_fld {n : Nat} {cs : List Value} {y : DataW H × List MemPlace} (h : DataW.trod enc Tryd.prog W 0 (fun _ => true) true n 37 cs = some y) : ∀ i t, plainTypes[i]? = some t → ∃ m z, DataW.trod enc Tryd.prog W 0 (fun _ => true) true m t ((cs.drop i).take 1) = some z := by
  have he := Tryd.underlying37
  have ha : Tryd.prog.cellsOf 35 = 2 := by kernel_rfl
  obtain ⟨m0, z0, h0⟩ := fld_trod he h 0 0 ⟨_, rfl, rfl, rfl⟩ ha
  have ea := Tryd.underlying35
  have e3 : Tryd.prog.cellsOf 3 = 1 := by kernel_rfl
  have e4 : Tryd.prog.cellsOf 4 = 1 := by kernel_rfl
  have e9 : Tryd.prog.cellsOf 9 = 1 := by kernel_rfl
  intro i t ht
  match i, ht with
  | 0, ht =>
    cases ht
    obtain ⟨m, z, hz⟩ := fld_trod ea h0 0 0 ⟨_, rfl, rfl, rfl⟩ e3
    rw [drop_in _ _ _ _ (by omega)] at hz
    exact ⟨m, z, hz⟩
  | 1, ht =>
    cases ht
    obtain ⟨m, z, hz⟩ := fld_trod ea h0 1 1 ⟨_, rfl, rfl, rfl⟩ e3
    rw [drop_in _ _ _ _ (by omega)] at hz
    exact ⟨m, z, hz⟩
  | 2, ht => cases ht; exact fld_trod he h 1 2 ⟨_, rfl, rfl, rfl⟩ e4
  | 3, ht => cases ht; exact fld_trod he h 2 3 ⟨_, rfl, rfl, rfl⟩ e3
  | 4, ht => cases ht; exact fld_trod he h 3 4 ⟨_, rfl, rfl, rfl⟩ e3
  | 5, ht => cases ht; exact fld_trod he h 4 5 ⟨_, rfl, rfl, rfl⟩ e3
  | 6, ht => cases ht; exact fld_trod he h 5 6 ⟨_, rfl, rfl, rfl⟩ e3
  | 7, ht => cases ht; exact fld_trod he h 6 7 ⟨_, rfl, rfl, rfl⟩ e4
  | 8, ht => cases ht; exact fld_trod he h 7 8 ⟨_, rfl, rfl, rfl⟩ e9
  | i + 9, ht => cases ht
end
end Go.Proofs.YtochnineebgbgaaDoor
/- glowwormlaw12's []Op as an argument. No conditions. -/
set_option linter.unusedSimpArgs false
set_option linter.unusedVariables false
namespace Go.Proofs.YtochnineebgbgaaDoor
open Go Go.Ab Go.ChangeShapes Go.WideShapes Go.ChangeAt Go.RowKit
def opTypes : List TypeId := 3 :: 3 :: 9 :: plainTypes
theorem opSc : opTypes.all (isSc Tryd.prog) = true := by kernel_rfl
theorem scL_length {ts : List TypeId} {bs : List AV} (h : ScL Tryd.prog ts bs) : bs.length = ts.length := by
  induction h with
  | nil => rfl
  | cons _ _ _ _ _ _ ih => simp [ih]
/-- Operations: nil, or a list that never turns. -/
def IsOps (x : AV) (rows : List (List AV)) : Prop := ((x = .nils ∧ rows = []) ∨ x = .sl rows.flatten rows.length none) ∧ ∀ r ∈ rows, ScL Tryd.prog opTypes r ∧ r.length = 12
section
variable {W : World} {H : Type} {enc : TypeId × Value → H} {base : Nat}
theorem op_trod {n : Nat} {cs : List Value} {y : DataW H × List MemPlace} (h : DataW.trod enc Tryd.prog W 0 (fun _ => true) true n 39 cs = some y) : ∃ bs, ScL Tryd.prog opTypes bs ∧ bs.length = 12 ∧ RelL (Gh.start W) bs cs := by
  have he := Tryd.underlying39
  have e3 : Tryd.prog.cellsOf 3 = 1 := by kernel_rfl
  have e9 : Tryd.prog.cellsOf 9 = 1 := by kernel_rfl
  have eP : Tryd.prog.cellsOf 37 = 9 := by kernel_rfl
  have eO : Tryd.prog.cellsOf 39 = 12 := by kernel_rfl
  obtain ⟨m3, z3, h3⟩ := fld_trod he h 3 3 ⟨_, rfl, rfl, rfl⟩ eP
  obtain ⟨bs, q1, q2⟩ := flat_trod (P := Tryd.prog) (W := W) (enc := enc) opTypes cs opSc ((len_trod he h).trans eO) (fun i t ht => by
    match i, ht with
    | 0, ht => cases ht; exact fld_trod he h 0 0 ⟨_, rfl, rfl, rfl⟩ e3
    | 1, ht => cases ht; exact fld_trod he h 1 1 ⟨_, rfl, rfl, rfl⟩ e3
    | 2, ht => cases ht; exact fld_trod he h 2 2 ⟨_, rfl, rfl, rfl⟩ e9
    | i + 3, ht =>
      obtain ⟨m, z, hz⟩ := plain_fld h3 i t ht
      have hi : i < 9 := (List.getElem?_eq_some_iff.1 (show plainTypes[i]? = some t from ht)).1
      rw [drop_in _ _ _ _ hi, Nat.add_comm 3 i] at hz
      exact ⟨m, z, hz⟩)
  exact ⟨bs, q1, scL_length q1, q2⟩
set_option maxRecDepth 100000 in
theorem arg_ops {t : TypeId} {v : Value} {d : DataW H} {ps : List MemPlace} (ht : Tryd.prog.underlying t = some (.slice 39)) (hval : Value.okWide Tryd.prog W .any base t v)
    (hd : DataW.Trod enc Tryd.prog W 0 (fun _ => true) true t v d ps) : ∃ x rows, IsOps x rows ∧ RelV (Gh.start W) x v := by
  have hc : Tryd.prog.cellsOf 39 = 12 := by kernel_rfl
  obtain ⟨x, rows, h1, h2, h3⟩ := arg_rows (sz := 12) (ScL Tryd.prog opTypes) ht hc hval hd (fun n cs y hy => op_trod hy)
  exact ⟨x, rows, ⟨h1, h2⟩, h3⟩
end
/-- One operation. -/
theorem op_of {r : List AV} (h : ScL Tryd.prog opTypes r) : ∃ kind n body p, r = .int .i64 kind :: .int .i64 n :: .str body :: p ∧ ScL Tryd.prog plainTypes p ∧ IntKind.i64.has kind ∧ IntKind.i64.has n ∧ (body.length : Int) ≤ IntKind.i64.max := by
  unfold opTypes at h
  cases h with | cons _ a0 _ _ h0 h => cases h with | cons _ a1 _ _ h1 h => cases h with | cons _ a2 _ _ h2 h =>
  obtain ⟨x0, rfl, i0⟩ : ∃ n, a0 = .int .i64 n ∧ IntKind.i64.has n := by
    cases h0 with
    | int k n hu hn => rw [Tryd.underlying3] at hu; cases hu; exact ⟨n, rfl, hn⟩
    | bool b hu => rw [Tryd.underlying3] at hu; cases hu
    | str b hu hs => rw [Tryd.underlying3] at hu; cases hu
  obtain ⟨x1, rfl, i1⟩ : ∃ n, a1 = .int .i64 n ∧ IntKind.i64.has n := by
    cases h1 with
    | int k n hu hn => rw [Tryd.underlying3] at hu; cases hu; exact ⟨n, rfl, hn⟩
    | bool b hu => rw [Tryd.underlying3] at hu; cases hu
    | str b hu hs => rw [Tryd.underlying3] at hu; cases hu
  obtain ⟨x2, rfl, i2⟩ : ∃ b, a2 = .str b ∧ (b.length : Int) ≤ IntKind.i64.max := by
    cases h2 with
    | int k n hu hn => rw [Tryd.underlying9] at hu; cases hu
    | bool b hu => rw [Tryd.underlying9] at hu; cases hu
    | str b hu hs => exact ⟨b, rfl, hs⟩
  exact ⟨x0, x1, x2, _, rfl, h, i0, i1, i2⟩
theorem flat_drop {rows : List (List AV)} (h : ∀ r ∈ rows, r.length = 12) (j : Nat) (hj : j < rows.length) : ∃ r tl, rows[j]? = some r ∧ rows.flatten.drop (12 * j) = r ++ tl := by
  induction rows generalizing j with
  | nil => simp at hj
  | cons a rows ih =>
    cases j with
    | zero => exact ⟨a, rows.flatten, rfl, by simp⟩
    | succ j =>
      obtain ⟨r, tl, q1, q2⟩ := ih (fun r hr => h r (by simp [hr])) j (by simpa using hj)
      refine ⟨r, tl, by simpa using q1, ?_⟩
      have ha := h a (by simp)
      rw [List.flatten_cons, show 12 * (j + 1) = a.length + 12 * j by omega, ← List.drop_drop, List.drop_left]
      exact q2
theorem IsOps.ixa {x : AV} {rows : List (List AV)} (h : IsOps x rows) (j : Nat) (hj : j < rows.length) (hj2 : j < 1000) : ∃ kind n body p tl, ixaV 12 x (.int .i64 (j : Int)) = some (.rp (.int .i64 kind :: .int .i64 n :: .str body :: (p ++ tl))) ∧ rows[j]? = some (.int .i64 kind :: .int .i64 n :: .str body :: p) ∧ ScL Tryd.prog plainTypes p ∧ IntKind.i64.has kind ∧ IntKind.i64.has n ∧ (body.length : Int) ≤ IntKind.i64.max := by
  obtain ⟨h1, h2⟩ := h
  rcases h1 with ⟨rfl, rfl⟩ | rfl
  · simp at hj
  obtain ⟨r, tl, q1, q2⟩ := flat_drop (fun r hr => (h2 r hr).2) j hj
  obtain ⟨kind, n, body, p, rfl, g1, g2, g3, g4⟩ := op_of (h2 r (List.mem_of_getElem? q1)).1
  refine ⟨kind, n, body, p, tl, ?_, q1, g1, g2, g3, g4⟩
  have h1 : idx rows.length (.int .i64 (j : Int)) = some j := by simp [idx]; omega
  simp only [ixaV, h1]
  rw [show j * 12 = 12 * j by omega, q2]
  rfl
theorem IsOps.len {x : AV} {rows : List (List AV)} (h : IsOps x rows) : lenV x = some (.int .i64 (rows.length : Nat)) := by
  obtain ⟨⟨rfl, rfl⟩ | rfl, _⟩ := h <;> rfl
theorem IsOps.freeze {x : AV} {rows : List (List AV)} (h : IsOps x rows) (n : Nat) (s : St) : Ab.freeze n s x = some (x, s) := by
  obtain ⟨⟨rfl, rfl⟩ | rfl, _⟩ := h <;> rfl
end Go.Proofs.YtochnineebgbgaaDoor
/- TurnAll: one operation. No conditions. -/
set_option linter.unusedSimpArgs false
set_option linter.unusedVariables false
set_option maxRecDepth 100000
set_option maxHeartbeats 8000000
namespace Go.Proofs.YtochnineebgbgaaDoor
open Go Go.Ab
theorem cut12 (a0 a1 a2 a3 a4 a5 a6 a7 a8 a9 a10 a11 : AV) (tl : List AV) : Ab.cut (a0 :: a1 :: a2 :: a3 :: a4 :: a5 :: a6 :: a7 :: a8 :: a9 :: a10 :: a11 :: tl) 0 (some 12) = some (.agg [a0, a1, a2, a3, a4, a5, a6, a7, a8, a9, a10, a11]) := by simp [Ab.cut]
theorem cut39 (a0 a1 a2 a3 a4 a5 a6 a7 a8 a9 a10 a11 : AV) : Ab.cut [a0, a1, a2, a3, a4, a5, a6, a7, a8, a9, a10, a11] 3 (some 9) = some (.agg [a3, a4, a5, a6, a7, a8, a9, a10, a11]) := by simp [Ab.cut]
theorem cutO39 (z : Nat) (a0 a1 a2 a3 a4 a5 a6 a7 a8 a9 a10 a11 : AV) : cutO 3 9 (some (.cells z [a0, a1, a2, a3, a4, a5, a6, a7, a8, a9, a10, a11])) = some (.agg [a3, a4, a5, a6, a7, a8, a9, a10, a11]) := by simp [cutO, Ab.cut]
theorem stB_12_0_12 (s : St) (b z : Nat) (a0 a1 a2 a3 a4 a5 a6 a7 a8 a9 a10 a11 x0 x1 x2 x3 x4 x5 x6 x7 x8 x9 x10 x11 : AV) : stB s b 0 12 [x0, x1, x2, x3, x4, x5, x6, x7, x8, x9, x10, x11] (some (.cells z [a0, a1, a2, a3, a4, a5, a6, a7, a8, a9, a10, a11])) = some (.undef, s.upd b (.cells z [x0, x1, x2, x3, x4, x5, x6, x7, x8, x9, x10, x11])) := by simp [stB, storeL, fillL]
/-- What holds of a side all the while. -/
structure Sane (T : Tn) : Prop where
  role : T.role = 1 ∨ T.role = 2
  l8 : T.L.length ≤ 8
  stL : T.st ≤ T.L.length
  st7 : T.st ≤ 7
  f0 : 0 ≤ T.f
  f8 : T.f < 8
  n0 : 0 ≤ T.nx
  n8 : T.nx < 8
theorem Sane.ok {T : Tn} (h : Sane T) : T.ok = true := by
  simp only [Tn.ok, Bool.and_eq_true, Bool.or_eq_true, decide_eq_true_eq]
  exact ⟨⟨⟨h.role, h.l8⟩, h.stL⟩, h.st7⟩
theorem Sane.put {T : Tn} (h : Sane T) (hl : T.L.length < 8) (b : List UInt8) : Sane { T with L := T.L ++ [b] } := by
  obtain ⟨h1, h2, h3, h4, h5, h6, h7, h8⟩ := h
  exact ⟨h1, by simp; omega, by simp; omega, h4, h5, h6, h7, h8⟩
theorem Sane.went {T : Tn} (h : Sane T) (W : Nat) (hW : W ≤ 7) : Sane (T.went W) := by
  obtain ⟨h1, h2, h3, h4, h5, h6, h7, h8⟩ := h
  unfold Tn.went
  split
  · exact ⟨h1, h2, by simp only [Tn.m]; omega, by simp only [Tn.m]; omega, h5, h6, h7, h8⟩
  · exact ⟨h1, h2, h3, h4, h5, h6, h7, h8⟩
theorem Sane.late {T : Tn} (h : Sane T) : Sane T.late := by
  obtain ⟨h1, h2, h3, h4, h5, h6, h7, h8⟩ := h
  exact ⟨h1, h2, h3, h4, h5, h6, h7, h8⟩
theorem Sane.swap {T : Tn} (h : Sane T) : Sane T.swap := by
  obtain ⟨h1, h2, h3, h4, h5, h6, h7, h8⟩ := h
  exact ⟨by simp only [Tn.swap]; omega, h2, h3, h4, h5, h6, h7, h8⟩
theorem Sane.took {T : Tn} (h : Sane T) (p : Fm) (r0 : 0 ≤ p.nr) (r7 : p.nr ≤ 7) : Sane (T.took p) := by
  obtain ⟨h1, h2, h3, h4, h5, h6, h7, h8⟩ := h
  refine ⟨h1, ?_, ?_, ?_, ?_, ?_, ?_, ?_⟩ <;> simp only [Tn.took] <;> split <;> try simp only [List.length_drop]
  all_goals omega
/-- One side, and the reference's. -/
def Ta (S : St) (t o i w wo : Nat) (sz : Int) (W : Nat) (T : Tn) : Prop := Apart S [turnPart t o i sz W T, cellPart w (wC T sz wo), routPart wo W T.L T.f T.st]
theorem frv_go {T : Tn} {W : Nat} (hm : T.mine = true) : FrV (.sl (goC (T.role == 1) T.nx T.f T.L T.od (T.m W)) (max 1 (T.m W)) none) (T.says W) := by
  refine .inr ⟨goC (T.role == 1) T.nx T.f T.L T.od (T.m W), ?_, fun j hj => ?_⟩
  · rw [says_len hm]
  · rw [says_len hm] at hj
    obtain ⟨rest, hr⟩ := go_at (T.role == 1) T.nx T.f T.L T.od (T.m W) j hj
    refine ⟨rest, ?_⟩
    rw [hr]
    by_cases h0 : T.m W = 0
    · have hj0 : j = 0 := by omega
      subst hj0
      rw [if_pos h0]
      simp only [says_none hm h0, List.getElem_cons_zero]
    · rw [if_neg h0]
      simp only [says_some hm h0, List.getElem_map, List.getElem_range]
theorem goR (k : Nat) {s : St} {w wo W : Nat} {sz : Int} {T : Tn} {l : List Part} (h : RT s w wo sz W T l) (hI : Sane T) : ∃ u s', evO (k + 30) 53 [.ptr w 0] s = some (u, s') ∧ RT s' w wo sz W (T.went W) l ∧ FrV u (T.says W) := by
  by_cases hm : T.mine = true
  · obtain ⟨s', p1, p2⟩ := r53 k h hm hI.f0 hI.f8 hI.l8 (by have := hI.st7; omega)
    exact ⟨_, s', p1, p2, frv_go hm⟩
  · have hm' : T.mine = false := by cases hh : T.mine <;> simp_all
    refine ⟨_, s, r53N (k + 29) h hm', ?_, .inl ⟨rfl, ?_⟩⟩
    · unfold Tn.went; rw [if_neg hm]; exact h
    · unfold Tn.says; rw [if_neg hm]
theorem takeBoth (W : Nat) (hW : W ≤ 7) (sz : Int) (t o ii w wo : Nat) (T : Tn) (hI : Sane T) (seat count : Int) (cmd : Bool) (kind sort nr ns : Int) (pf : Bool) (body : List UInt8) :
    ∃ (y : List UInt8) (z : Bool) (T' : Tn), (∀ s, TnAt s t o ii sz W T → ∃ s', evO 999 49 [.ptr t 0, .agg (plC seat count cmd kind sort nr ns pf body)] s = some (.tup [.str y, .bool z], s') ∧ TnAt s' t o ii sz W T') ∧
      (∀ s l, RT s w wo sz W T l → ∃ s', evO 999 55 [.ptr w 0, .agg (plC seat count cmd kind sort nr ns pf body)] s = some (.tup [.str y, .bool z], s') ∧ RT s' w wo sz W T' l) ∧ Sane T' := by
  by_cases hg : cmd = (T.role == 2) ∧ (kind = 1 ∨ kind = 2) ∧ 0 ≤ nr ∧ nr ≤ 7 ∧ 0 ≤ ns ∧ ns ≤ 7
  · obtain ⟨c1, c2, c3, c4, c5, c6⟩ := hg
    have key : ∃ (y : List UInt8) (z : Bool), (if T.tells ⟨cmd, kind, sort, nr, ns, pf, body⟩ = true then AV.tup [.str body, .bool true] else .tup [.str [], .bool false]) = .tup [.str y, .bool z] := by
      split
      · exact ⟨_, _, rfl⟩
      · exact ⟨_, _, rfl⟩
    obtain ⟨y, z, hyz⟩ := key
    refine ⟨y, z, T.took ⟨cmd, kind, sort, nr, ns, pf, body⟩, fun s h => ?_, fun s l h => ?_, hI.took _ c3 c4⟩
    · obtain ⟨s', p1, p2, _⟩ := take_evT 994 T.st h hI.role seat count cmd c1 kind sort nr ns pf body c2 hI.stL hI.st7 c3 c4 c5 c6
      refine ⟨s', ?_, ?_⟩
      · rw [show (994 : Nat) + 5 = 999 from rfl] at p1
        rw [p1, ← hyz]
        congr 2
        simp only [Tn.tells, Bool.and_eq_true, decide_eq_true_eq]
      · unfold TnAt
        have e : ∀ {α : Type} (x y : α), (if T.acc nr = true then x else y) = if accepts nr T.f T.st then x else y := fun x y => by
          by_cases hh : accepts nr T.f T.st
          · rw [if_pos hh, if_pos (show T.acc nr = true from decide_eq_true hh)]
          · rw [if_neg hh, if_neg (fun h2 : T.acc nr = true => hh (of_decide_eq_true h2))]
        simp only [Tn.took, e]
        exact p2
    · obtain ⟨s', p1, p2⟩ := r55 977 h hI.role hI.n0 hI.n8 hI.f0 hI.f8 hI.l8 hI.st7 hI.stL seat count ⟨cmd, kind, sort, nr, ns, pf, body⟩ c1 c2 c3 c4 c5 c6
      exact ⟨s', by rw [← hyz]; exact p1, p2⟩
  · refine ⟨[], false, T, fun s h => ?_, fun s l h => ?_, hI⟩
    · by_cases hc : cmd = (T.role == 2) ∧ (kind = 1 ∨ kind = 2)
      · obtain ⟨s', p1, p2, _⟩ := take_out 995 h hI.role seat count cmd hc.1 kind sort nr ns pf body hc.2 (by
          have : ¬ (0 ≤ nr ∧ nr ≤ 7 ∧ 0 ≤ ns ∧ ns ≤ 7) := fun q => hg ⟨hc.1, hc.2, q⟩
          simp only [few, Bool.and_eq_false_iff, decide_eq_false_iff_not]
          omega)
        exact ⟨s', p1, p2⟩
      · obtain ⟨s', p1, p2, _⟩ := take_no 997 h hI.role seat count cmd kind sort nr ns pf body (by
          by_cases h1 : cmd = (T.role == 2)
          · right
            have : ¬ (kind = 1 ∨ kind = 2) := fun q => hc ⟨h1, q⟩
            omega
          · exact .inl h1)
        exact ⟨s', p1, p2⟩
    · by_cases h1 : kind < 1
      · exact r55_a 998 h hI.role seat count cmd kind sort nr ns pf body h1
      by_cases h2 : kind > 2
      · exact r55_b 998 h hI.role seat count cmd kind sort nr ns pf body h1 h2
      by_cases h3 : cmd = (T.role == 2)
      · by_cases h4 : nr < 0
        · exact r55_d 998 h hI.role seat count cmd kind sort nr ns pf body h1 h2 h3 h4
        by_cases h5 : nr > 7
        · exact r55_e 998 h hI.role seat count cmd kind sort nr ns pf body h1 h2 h3 h4 h5
        by_cases h6 : ns < 0
        · exact r55_f 998 h hI.role seat count cmd kind sort nr ns pf body h1 h2 h3 h4 h5 h6
        by_cases h7 : ns > 7
        · exact r55_g 998 h hI.role seat count cmd kind sort nr ns pf body h1 h2 h3 h4 h5 h6 h7
        exact absurd ⟨h3, by omega, by omega, by omega, by omega, by omega⟩ hg
      · exact r55_c 998 h hI.role seat count cmd kind sort nr ns pf body h1 h2 h3
def E18 (x : AV) (t w : Nat) (i : Int) : Env := [.undef, .undef, x, .undef, .undef, .undef, .undef, .undef, .ptr t 0, .ptr w 0, .int .i64 i, .undef, .undef, .undef, .undef, .undef, .undef, .undef, .undef, .undef, .undef, .undef, .undef, .undef, .undef, .undef, .undef, .undef, .undef, .undef, .undef, .undef, .undef, .undef, .undef, .undef, .undef, .undef, .undef, .undef, .undef, .undef, .undef, .undef, .undef, .undef, .undef, .undef, .undef, .undef, .undef, .undef, .undef, .undef, .undef, .undef, .undef, .undef, .undef, .undef, .undef, .undef, .undef, .undef, .undef, .undef, .undef, .undef, .undef, .undef, .undef, .undef, .undef, .undef, .undef, .undef, .undef, .undef, .undef, .undef, .undef, .undef, .undef, .undef, .undef, .undef, .undef, .undef, .undef, .undef, .undef, .undef, .undef, .undef, .undef, .undef, .undef, .undef, .undef, .undef, .undef, .undef, .undef, .undef, .undef, .undef, .undef, .undef, .undef, .undef, .undef, .undef, .undef, .undef, .undef, .undef, .undef, .undef, .undef, .undef, .undef, .undef, .undef, .undef, .undef, .undef, .undef, .undef, .undef, .undef, .undef, .undef, .undef, .undef, .undef, .undef, .undef, .undef, .undef, .undef, .undef]
def RoundA (x : AV) (S : St) (t o ii w wo : Nat) (sz : Int) (W : Nat) (T : Tn) (j : Nat) : Prop :=
  ∃ e' S' T', evC tabGl (evO 999) 999 M18b0 (E18 x t w (j : Nat)) S = some (.nrm, e', S') ∧ maskE M18b0l e' = E18 x t w ((j + 1 : Nat) : Int) ∧ Sane T' ∧ Ta S' t o ii w wo sz W T'

theorem ta_ok (x : AV) (rows : List (List AV)) (hx : IsOps x rows) (j : Nat) (hj : j < rows.length) (hj2 : j < 80) (S : St) (W : Nat) (hW : W ≤ 7) (sz : Int) (t o ii w wo : Nat) (T : Tn) (hI : Sane T) (H : Ta S t o ii w wo sz W T) (kind n : Int) (body : List UInt8) (seat count : Int) (cmd : Bool) (pk sort nr ns : Int) (pf : Bool) (pb : List UInt8) (tl : List AV)
    (i1 : ixaV 12 x (.int .i64 (j : Int)) = some (.rp (.int .i64 kind :: .int .i64 n :: .str body :: .int .i64 seat :: .int .i64 count :: .bool cmd :: .int .i64 pk :: .int .i64 sort :: .int .i64 nr :: .int .i64 ns :: .bool pf :: .str pb :: tl))) (hk : kind = 0) (hl : T.L.length < 8) (hz : ((body.take 70).length : Int) ≤ sz) : RoundA x S t o ii w wo sz W T j := by
  have l0 := hx.len
  have fx := hx.freeze
  have q1 : ((j : Int) < ((rows.length : Nat) : Int)) = True := eq_true (by omega)
  have q2 : ((j : Int) < 80) = True := eq_true (by omega)
  have w1 : IntKind.i64.wrap ((j : Int) + 1) = ((j + 1 : Nat) : Int) := (wrapI _ (by omega) (by omega)).trans (by omega)
  have i2 := cut12 (.int .i64 kind) (.int .i64 n) (.str body) (.int .i64 seat) (.int .i64 count) (.bool cmd) (.int .i64 pk) (.int .i64 sort) (.int .i64 nr) (.int .i64 ns) (.bool pf) (.str pb) tl
  have i3 := cut39 (.int .i64 kind) (.int .i64 n) (.str body) (.int .i64 seat) (.int .i64 count) (.bool cmd) (.int .i64 pk) (.int .i64 sort) (.int .i64 nr) (.int .i64 ns) (.bool pf) (.str pb)
  have nn : ∀ a : Int, (a != a) = false := fun a => by simp
  have nsS : ∀ b : List UInt8, binV .neq (.str b) (.str b) = some (.bool false) := fun b => by
    show some (AV.bool (!(b == b))) = _
    simp
  have bb : ∀ c : Bool, eqAV (.flat (.one .b)) (.bool c) (.bool c) = some true := fun c => by cases c <;> rfl
  have k0 : (kind == 0) = true := by simp [hk]
  have D1 : Apart (S.pl [(.cells 0 [.int .i64 kind, .int .i64 n, .str body, .int .i64 seat, .int .i64 count, .bool cmd, .int .i64 pk, .int .i64 sort, .int .i64 nr, .int .i64 ns, .bool pf, .str pb])]) [turnPart t o ii sz W T, cellPart w (wC T sz wo), routPart wo W T.L T.f T.st] := (Apart.new H _).tail
  have h41 : ∀ s, evO 999 41 [.str body, .int .i64 70] s = some (.str (body.take 70), s) := text_ev 998 body 70
  obtain ⟨S1, p1, p2, _⟩ := put_evT 997 (body.take 70) D1.head hl (by omega)
  have D2 := (D1.turnStep p1 (fun C hC => ⟨hC, trivial, trivial⟩) (T' := { T with L := T.L ++ [body.take 70] }) p2).1
  obtain ⟨S2, p3, p4⟩ := r51 997 (body.take 70) (show RT S1 w wo sz W T _ from Apart.third' D2) hl (by omega)
  have H2 : Ta S2 t o ii w wo sz W { T with L := T.L ++ [body.take 70] } := Apart.third p4
  have hT := Apart.head H2
  have hw := (Apart.head (Apart.tail H2)).1
  obtain ⟨_, lv, hwo, hLt⟩ := Apart.head (Apart.tail (Apart.tail H2))
  have ln := LAt.len hLt
  have m43 := mine_evT 998 hT
  have m59 := role_evT 998 hT
  have m46 := left_evT 997 hT
  unfold wC at hw
  suffices hs : ∃ e', evC tabGl (evO 999) 999 M18b0 (E18 x t w (j : Nat)) S = some (.nrm, e', S2) ∧ maskE M18b0l e' = E18 x t w ((j + 1 : Nat) : Int) by
    obtain ⟨e', g1, g2⟩ := hs
    exact ⟨e', _, { T with L := T.L ++ [body.take 70] }, g1, g2, hI.put hl _, H2⟩
  rw [show S = S.pl [] from rfl]
  simp only [M18b0, E18, l0, fx, q1, q2, w1, i1, i2, i3, nn, nsS, bb, hw, hwo, ln, m43, m59, m46, k0, h41, p1, p3, ev1_eqv, eqptr_ptr, loadR_rp, cutO39, stB_12_0_12, qES0, qES1, qES2, env0, List.length_cons, List.length_nil, Nat.reduceAdd, Nat.reduceSub, List.replicate, List.cons_append, List.nil_append, opd, Env.put, Env.at, List.set_cons_zero, List.set_cons_succ, List.getD_cons_zero, List.getD_cons_succ, freezeL, resVs, oneOr, Option.map_some, Option.map_none, List.map_cons, List.map_nil, if_true, if_false, Bool.not_true, Bool.not_false, Bool.false_eq_true, reduceIte, decide_true, decide_false, Int.reduceLT, Int.reduceLE, Int.reduceGT, Int.reduceGE, Int.reduceEq, Int.reduceBEq, Int.reduceBNe, load_ptr, ldV_some, cellAt_cells, List.getElem?_cons_zero, List.getElem?_cons_succ, store_ptr, stO_some, setAt_0, setAt_1, setAt_2, setAt_3, setAt_4, setAt_5, setAt_6, setAt_7, setAt_8, setAt_9, setAt_10, setAt_11, setAt_12, cells_int, cells_bool, cells_str, cells_nils, cells_nilp, cells_ptr, cells_sl, cells_u8, cells_u16, cells_agg, get_upd_is, Option.isSome_some, upd_upd, ev1_nchkV, ev1_faV, nchkV_ptr, faV_ptr, ev1_extV, extV_tup, eqptr_nil, eqptr_ptr, Nat.zero_add, Nat.add_zero, qPL0, qPL1, qPL2, qPL3, qPL4, qPL5, beq_self_eq_true, qED0, qED1, placeR]
  rw [drawR_ok]; case h => simp (config := {decide := true}) [calm, calmPair, calmTwo, List.range, List.range.loop, sameO_refl, plg0, plg1, plg2, plg3, hw, hwo]
  simp only [w1, qES0, qES1, qES2, env0, List.length_cons, List.length_nil, Nat.reduceAdd, Nat.reduceSub, List.replicate, List.cons_append, List.nil_append, opd, Env.put, Env.at, List.set_cons_zero, List.set_cons_succ, List.getD_cons_zero, List.getD_cons_succ, freezeL, resVs, oneOr, Option.map_some, Option.map_none, List.map_cons, List.map_nil, if_true, if_false, Bool.not_true, Bool.not_false, Bool.false_eq_true, reduceIte, decide_true, decide_false, Int.reduceLT, Int.reduceLE, Int.reduceGT, Int.reduceGE, Int.reduceEq, Int.reduceBEq, Int.reduceBNe, load_ptr, ldV_some, cellAt_cells, List.getElem?_cons_zero, List.getElem?_cons_succ, store_ptr, stO_some, setAt_0, setAt_1, setAt_2, setAt_3, setAt_4, setAt_5, setAt_6, setAt_7, setAt_8, setAt_9, setAt_10, setAt_11, setAt_12, cells_int, cells_bool, cells_str, cells_nils, cells_nilp, cells_ptr, cells_sl, cells_u8, cells_u16, cells_agg, get_upd_is, Option.isSome_some, upd_upd, ev1_nchkV, ev1_faV, nchkV_ptr, faV_ptr, ev1_extV, extV_tup, eqptr_nil, eqptr_ptr, Nat.zero_add, Nat.add_zero, qPL0, qPL1, qPL2, qPL3, qPL4, qPL5, beq_self_eq_true, qED0, qED1, placeR]
  exact ⟨_, rfl, rfl⟩


theorem ta_full (x : AV) (rows : List (List AV)) (hx : IsOps x rows) (j : Nat) (hj : j < rows.length) (hj2 : j < 80) (S : St) (W : Nat) (hW : W ≤ 7) (sz : Int) (t o ii w wo : Nat) (T : Tn) (hI : Sane T) (H : Ta S t o ii w wo sz W T) (kind n : Int) (body : List UInt8) (seat count : Int) (cmd : Bool) (pk sort nr ns : Int) (pf : Bool) (pb : List UInt8) (tl : List AV)
    (i1 : ixaV 12 x (.int .i64 (j : Int)) = some (.rp (.int .i64 kind :: .int .i64 n :: .str body :: .int .i64 seat :: .int .i64 count :: .bool cmd :: .int .i64 pk :: .int .i64 sort :: .int .i64 nr :: .int .i64 ns :: .bool pf :: .str pb :: tl))) (hk : kind = 0) (hl : ¬ T.L.length < 8) (hz : ((body.take 70).length : Int) ≤ sz) : RoundA x S t o ii w wo sz W T j := by
  have l0 := hx.len
  have fx := hx.freeze
  have q1 : ((j : Int) < ((rows.length : Nat) : Int)) = True := eq_true (by omega)
  have q2 : ((j : Int) < 80) = True := eq_true (by omega)
  have w1 : IntKind.i64.wrap ((j : Int) + 1) = ((j + 1 : Nat) : Int) := (wrapI _ (by omega) (by omega)).trans (by omega)
  have i2 := cut12 (.int .i64 kind) (.int .i64 n) (.str body) (.int .i64 seat) (.int .i64 count) (.bool cmd) (.int .i64 pk) (.int .i64 sort) (.int .i64 nr) (.int .i64 ns) (.bool pf) (.str pb) tl
  have i3 := cut39 (.int .i64 kind) (.int .i64 n) (.str body) (.int .i64 seat) (.int .i64 count) (.bool cmd) (.int .i64 pk) (.int .i64 sort) (.int .i64 nr) (.int .i64 ns) (.bool pf) (.str pb)
  have nn : ∀ a : Int, (a != a) = false := fun a => by simp
  have nsS : ∀ b : List UInt8, binV .neq (.str b) (.str b) = some (.bool false) := fun b => by
    show some (AV.bool (!(b == b))) = _
    simp
  have bb : ∀ c : Bool, eqAV (.flat (.one .b)) (.bool c) (.bool c) = some true := fun c => by cases c <;> rfl
  have k0 : (kind == 0) = true := by simp [hk]
  have D1 : Apart (S.pl [(.cells 0 [.int .i64 kind, .int .i64 n, .str body, .int .i64 seat, .int .i64 count, .bool cmd, .int .i64 pk, .int .i64 sort, .int .i64 nr, .int .i64 ns, .bool pf, .str pb])]) [turnPart t o ii sz W T, cellPart w (wC T sz wo), routPart wo W T.L T.f T.st] := (Apart.new H _).tail
  have h41 : ∀ s, evO 999 41 [.str body, .int .i64 70] s = some (.str (body.take 70), s) := text_ev 998 body 70
  have p1 := putF_evT 997 (body.take 70) D1.head (by omega) (by omega)
  have p3 := r51F 997 (body.take 70) (show RT _ w wo sz W T _ from Apart.third' D1) (by omega) (by omega)
  have H2 : Ta (S.pl [(.cells 0 [.int .i64 kind, .int .i64 n, .str body, .int .i64 seat, .int .i64 count, .bool cmd, .int .i64 pk, .int .i64 sort, .int .i64 nr, .int .i64 ns, .bool pf, .str pb])]) t o ii w wo sz W T := D1
  have hT := Apart.head H2
  have hw := (Apart.head (Apart.tail H2)).1
  obtain ⟨_, lv, hwo, hLt⟩ := Apart.head (Apart.tail (Apart.tail H2))
  have ln := LAt.len hLt
  have m43 := mine_evT 998 hT
  have m59 := role_evT 998 hT
  have m46 := left_evT 997 hT
  unfold wC at hw
  suffices hs : ∃ e', evC tabGl (evO 999) 999 M18b0 (E18 x t w (j : Nat)) S = some (.nrm, e', S.pl [(.cells 0 [.int .i64 kind, .int .i64 n, .str body, .int .i64 seat, .int .i64 count, .bool cmd, .int .i64 pk, .int .i64 sort, .int .i64 nr, .int .i64 ns, .bool pf, .str pb])]) ∧ maskE M18b0l e' = E18 x t w ((j + 1 : Nat) : Int) by
    obtain ⟨e', g1, g2⟩ := hs
    exact ⟨e', _, T, g1, g2, hI, H2⟩
  rw [show S = S.pl [] from rfl]
  simp only [M18b0, E18, l0, fx, q1, q2, w1, i1, i2, i3, nn, nsS, bb, hw, hwo, ln, m43, m59, m46, k0, h41, p1, p3, ev1_eqv, eqptr_ptr, loadR_rp, cutO39, stB_12_0_12, qES0, qES1, qES2, env0, List.length_cons, List.length_nil, Nat.reduceAdd, Nat.reduceSub, List.replicate, List.cons_append, List.nil_append, opd, Env.put, Env.at, List.set_cons_zero, List.set_cons_succ, List.getD_cons_zero, List.getD_cons_succ, freezeL, resVs, oneOr, Option.map_some, Option.map_none, List.map_cons, List.map_nil, if_true, if_false, Bool.not_true, Bool.not_false, Bool.false_eq_true, reduceIte, decide_true, decide_false, Int.reduceLT, Int.reduceLE, Int.reduceGT, Int.reduceGE, Int.reduceEq, Int.reduceBEq, Int.reduceBNe, load_ptr, ldV_some, cellAt_cells, List.getElem?_cons_zero, List.getElem?_cons_succ, store_ptr, stO_some, setAt_0, setAt_1, setAt_2, setAt_3, setAt_4, setAt_5, setAt_6, setAt_7, setAt_8, setAt_9, setAt_10, setAt_11, setAt_12, cells_int, cells_bool, cells_str, cells_nils, cells_nilp, cells_ptr, cells_sl, cells_u8, cells_u16, cells_agg, get_upd_is, Option.isSome_some, upd_upd, ev1_nchkV, ev1_faV, nchkV_ptr, faV_ptr, ev1_extV, extV_tup, eqptr_nil, eqptr_ptr, Nat.zero_add, Nat.add_zero, qPL0, qPL1, qPL2, qPL3, qPL4, qPL5, beq_self_eq_true, qED0, qED1, placeR]
  rw [drawR_ok]; case h => simp (config := {decide := true}) [calm, calmPair, calmTwo, List.range, List.range.loop, sameO_refl, plg0, plg1, plg2, plg3, hw, hwo]
  simp only [w1, qES0, qES1, qES2, env0, List.length_cons, List.length_nil, Nat.reduceAdd, Nat.reduceSub, List.replicate, List.cons_append, List.nil_append, opd, Env.put, Env.at, List.set_cons_zero, List.set_cons_succ, List.getD_cons_zero, List.getD_cons_succ, freezeL, resVs, oneOr, Option.map_some, Option.map_none, List.map_cons, List.map_nil, if_true, if_false, Bool.not_true, Bool.not_false, Bool.false_eq_true, reduceIte, decide_true, decide_false, Int.reduceLT, Int.reduceLE, Int.reduceGT, Int.reduceGE, Int.reduceEq, Int.reduceBEq, Int.reduceBNe, load_ptr, ldV_some, cellAt_cells, List.getElem?_cons_zero, List.getElem?_cons_succ, store_ptr, stO_some, setAt_0, setAt_1, setAt_2, setAt_3, setAt_4, setAt_5, setAt_6, setAt_7, setAt_8, setAt_9, setAt_10, setAt_11, setAt_12, cells_int, cells_bool, cells_str, cells_nils, cells_nilp, cells_ptr, cells_sl, cells_u8, cells_u16, cells_agg, get_upd_is, Option.isSome_some, upd_upd, ev1_nchkV, ev1_faV, nchkV_ptr, faV_ptr, ev1_extV, extV_tup, eqptr_nil, eqptr_ptr, Nat.zero_add, Nat.add_zero, qPL0, qPL1, qPL2, qPL3, qPL4, qPL5, beq_self_eq_true, qED0, qED1, placeR]
  exact ⟨_, rfl, rfl⟩


theorem ta_long (x : AV) (rows : List (List AV)) (hx : IsOps x rows) (j : Nat) (hj : j < rows.length) (hj2 : j < 80) (S : St) (W : Nat) (hW : W ≤ 7) (sz : Int) (t o ii w wo : Nat) (T : Tn) (hI : Sane T) (H : Ta S t o ii w wo sz W T) (kind n : Int) (body : List UInt8) (seat count : Int) (cmd : Bool) (pk sort nr ns : Int) (pf : Bool) (pb : List UInt8) (tl : List AV)
    (i1 : ixaV 12 x (.int .i64 (j : Int)) = some (.rp (.int .i64 kind :: .int .i64 n :: .str body :: .int .i64 seat :: .int .i64 count :: .bool cmd :: .int .i64 pk :: .int .i64 sort :: .int .i64 nr :: .int .i64 ns :: .bool pf :: .str pb :: tl))) (hk : kind = 0) (hz : ¬ ((body.take 70).length : Int) ≤ sz) : RoundA x S t o ii w wo sz W T j := by
  have l0 := hx.len
  have fx := hx.freeze
  have q1 : ((j : Int) < ((rows.length : Nat) : Int)) = True := eq_true (by omega)
  have q2 : ((j : Int) < 80) = True := eq_true (by omega)
  have w1 : IntKind.i64.wrap ((j : Int) + 1) = ((j + 1 : Nat) : Int) := (wrapI _ (by omega) (by omega)).trans (by omega)
  have i2 := cut12 (.int .i64 kind) (.int .i64 n) (.str body) (.int .i64 seat) (.int .i64 count) (.bool cmd) (.int .i64 pk) (.int .i64 sort) (.int .i64 nr) (.int .i64 ns) (.bool pf) (.str pb) tl
  have i3 := cut39 (.int .i64 kind) (.int .i64 n) (.str body) (.int .i64 seat) (.int .i64 count) (.bool cmd) (.int .i64 pk) (.int .i64 sort) (.int .i64 nr) (.int .i64 ns) (.bool pf) (.str pb)
  have nn : ∀ a : Int, (a != a) = false := fun a => by simp
  have nsS : ∀ b : List UInt8, binV .neq (.str b) (.str b) = some (.bool false) := fun b => by
    show some (AV.bool (!(b == b))) = _
    simp
  have bb : ∀ c : Bool, eqAV (.flat (.one .b)) (.bool c) (.bool c) = some true := fun c => by cases c <;> rfl
  have k0 : (kind == 0) = true := by simp [hk]
  have D1 : Apart (S.pl [(.cells 0 [.int .i64 kind, .int .i64 n, .str body, .int .i64 seat, .int .i64 count, .bool cmd, .int .i64 pk, .int .i64 sort, .int .i64 nr, .int .i64 ns, .bool pf, .str pb])]) [turnPart t o ii sz W T, cellPart w (wC T sz wo), routPart wo W T.L T.f T.st] := (Apart.new H _).tail
  have h41 : ∀ s, evO 999 41 [.str body, .int .i64 70] s = some (.str (body.take 70), s) := text_ev 998 body 70
  have p1 := putL_evT 997 (body.take 70) D1.head (by omega)
  have p3 := r51L 997 (body.take 70) (show RT _ w wo sz W T _ from Apart.third' D1) (by omega)
  have H2 : Ta (S.pl [(.cells 0 [.int .i64 kind, .int .i64 n, .str body, .int .i64 seat, .int .i64 count, .bool cmd, .int .i64 pk, .int .i64 sort, .int .i64 nr, .int .i64 ns, .bool pf, .str pb])]) t o ii w wo sz W T := D1
  have hT := Apart.head H2
  have hw := (Apart.head (Apart.tail H2)).1
  obtain ⟨_, lv, hwo, hLt⟩ := Apart.head (Apart.tail (Apart.tail H2))
  have ln := LAt.len hLt
  have m43 := mine_evT 998 hT
  have m59 := role_evT 998 hT
  have m46 := left_evT 997 hT
  unfold wC at hw
  suffices hs : ∃ e', evC tabGl (evO 999) 999 M18b0 (E18 x t w (j : Nat)) S = some (.nrm, e', S.pl [(.cells 0 [.int .i64 kind, .int .i64 n, .str body, .int .i64 seat, .int .i64 count, .bool cmd, .int .i64 pk, .int .i64 sort, .int .i64 nr, .int .i64 ns, .bool pf, .str pb])]) ∧ maskE M18b0l e' = E18 x t w ((j + 1 : Nat) : Int) by
    obtain ⟨e', g1, g2⟩ := hs
    exact ⟨e', _, T, g1, g2, hI, H2⟩
  rw [show S = S.pl [] from rfl]
  simp only [M18b0, E18, l0, fx, q1, q2, w1, i1, i2, i3, nn, nsS, bb, hw, hwo, ln, m43, m59, m46, k0, h41, p1, p3, ev1_eqv, eqptr_ptr, loadR_rp, cutO39, stB_12_0_12, qES0, qES1, qES2, env0, List.length_cons, List.length_nil, Nat.reduceAdd, Nat.reduceSub, List.replicate, List.cons_append, List.nil_append, opd, Env.put, Env.at, List.set_cons_zero, List.set_cons_succ, List.getD_cons_zero, List.getD_cons_succ, freezeL, resVs, oneOr, Option.map_some, Option.map_none, List.map_cons, List.map_nil, if_true, if_false, Bool.not_true, Bool.not_false, Bool.false_eq_true, reduceIte, decide_true, decide_false, Int.reduceLT, Int.reduceLE, Int.reduceGT, Int.reduceGE, Int.reduceEq, Int.reduceBEq, Int.reduceBNe, load_ptr, ldV_some, cellAt_cells, List.getElem?_cons_zero, List.getElem?_cons_succ, store_ptr, stO_some, setAt_0, setAt_1, setAt_2, setAt_3, setAt_4, setAt_5, setAt_6, setAt_7, setAt_8, setAt_9, setAt_10, setAt_11, setAt_12, cells_int, cells_bool, cells_str, cells_nils, cells_nilp, cells_ptr, cells_sl, cells_u8, cells_u16, cells_agg, get_upd_is, Option.isSome_some, upd_upd, ev1_nchkV, ev1_faV, nchkV_ptr, faV_ptr, ev1_extV, extV_tup, eqptr_nil, eqptr_ptr, Nat.zero_add, Nat.add_zero, qPL0, qPL1, qPL2, qPL3, qPL4, qPL5, beq_self_eq_true, qED0, qED1, placeR]
  rw [drawR_ok]; case h => simp (config := {decide := true}) [calm, calmPair, calmTwo, List.range, List.range.loop, sameO_refl, plg0, plg1, plg2, plg3, hw, hwo]
  simp only [w1, qES0, qES1, qES2, env0, List.length_cons, List.length_nil, Nat.reduceAdd, Nat.reduceSub, List.replicate, List.cons_append, List.nil_append, opd, Env.put, Env.at, List.set_cons_zero, List.set_cons_succ, List.getD_cons_zero, List.getD_cons_succ, freezeL, resVs, oneOr, Option.map_some, Option.map_none, List.map_cons, List.map_nil, if_true, if_false, Bool.not_true, Bool.not_false, Bool.false_eq_true, reduceIte, decide_true, decide_false, Int.reduceLT, Int.reduceLE, Int.reduceGT, Int.reduceGE, Int.reduceEq, Int.reduceBEq, Int.reduceBNe, load_ptr, ldV_some, cellAt_cells, List.getElem?_cons_zero, List.getElem?_cons_succ, store_ptr, stO_some, setAt_0, setAt_1, setAt_2, setAt_3, setAt_4, setAt_5, setAt_6, setAt_7, setAt_8, setAt_9, setAt_10, setAt_11, setAt_12, cells_int, cells_bool, cells_str, cells_nils, cells_nilp, cells_ptr, cells_sl, cells_u8, cells_u16, cells_agg, get_upd_is, Option.isSome_some, upd_upd, ev1_nchkV, ev1_faV, nchkV_ptr, faV_ptr, ev1_extV, extV_tup, eqptr_nil, eqptr_ptr, Nat.zero_add, Nat.add_zero, qPL0, qPL1, qPL2, qPL3, qPL4, qPL5, beq_self_eq_true, qED0, qED1, placeR]
  exact ⟨_, rfl, rfl⟩


theorem ta_go (x : AV) (rows : List (List AV)) (hx : IsOps x rows) (j : Nat) (hj : j < rows.length) (hj2 : j < 80) (S : St) (W : Nat) (hW : W ≤ 7) (sz : Int) (t o ii w wo : Nat) (T : Tn) (hI : Sane T) (H : Ta S t o ii w wo sz W T) (kind n : Int) (body : List UInt8) (seat count : Int) (cmd : Bool) (pk sort nr ns : Int) (pf : Bool) (pb : List UInt8) (tl : List AV)
    (i1 : ixaV 12 x (.int .i64 (j : Int)) = some (.rp (.int .i64 kind :: .int .i64 n :: .str body :: .int .i64 seat :: .int .i64 count :: .bool cmd :: .int .i64 pk :: .int .i64 sort :: .int .i64 nr :: .int .i64 ns :: .bool pf :: .str pb :: tl))) (hk0 : kind ≠ 0) (hk : kind = 1) : RoundA x S t o ii w wo sz W T j := by
  have l0 := hx.len
  have fx := hx.freeze
  have q1 : ((j : Int) < ((rows.length : Nat) : Int)) = True := eq_true (by omega)
  have q2 : ((j : Int) < 80) = True := eq_true (by omega)
  have w1 : IntKind.i64.wrap ((j : Int) + 1) = ((j + 1 : Nat) : Int) := (wrapI _ (by omega) (by omega)).trans (by omega)
  have i2 := cut12 (.int .i64 kind) (.int .i64 n) (.str body) (.int .i64 seat) (.int .i64 count) (.bool cmd) (.int .i64 pk) (.int .i64 sort) (.int .i64 nr) (.int .i64 ns) (.bool pf) (.str pb) tl
  have i3 := cut39 (.int .i64 kind) (.int .i64 n) (.str body) (.int .i64 seat) (.int .i64 count) (.bool cmd) (.int .i64 pk) (.int .i64 sort) (.int .i64 nr) (.int .i64 ns) (.bool pf) (.str pb)
  have nn : ∀ a : Int, (a != a) = false := fun a => by simp
  have nsS : ∀ b : List UInt8, binV .neq (.str b) (.str b) = some (.bool false) := fun b => by
    show some (AV.bool (!(b == b))) = _
    simp
  have bb : ∀ c : Bool, eqAV (.flat (.one .b)) (.bool c) (.bool c) = some true := fun c => by cases c <;> rfl
  have k0 : (kind == 0) = false := beq_eq_false_iff_ne.2 hk0
  have k1 : (kind == 1) = true := by simp [hk]
  have D1 : Apart (S.pl [(.cells 0 [.int .i64 kind, .int .i64 n, .str body, .int .i64 seat, .int .i64 count, .bool cmd, .int .i64 pk, .int .i64 sort, .int .i64 nr, .int .i64 ns, .bool pf, .str pb])]) [turnPart t o ii sz W T, cellPart w (wC T sz wo), routPart wo W T.L T.f T.st] := (Apart.new H _).tail
  obtain ⟨v, S1, p1, p2, p3⟩ := go_tnk 969 D1.head hI.ok hW
  have D2 := (D1.turnStep p1 (fun C hC => ⟨hC, trivial⟩) p2).1
  obtain ⟨u, S2, p4, p5, p6⟩ := goR 969 (show RT S1 w wo sz W T _ from Apart.third' D2) hI
  have H2 : Ta S2 t o ii w wo sz W (T.went W) := Apart.third p5
  have p7 := r52 (s := S2) 979 p3 p6 (says_le T W hW)
  have fv := p3.freeze
  have fu := p6.freeze
  have hT := Apart.head H2
  have hw := (Apart.head (Apart.tail H2)).1
  obtain ⟨_, lv, hwo, hLt⟩ := Apart.head (Apart.tail (Apart.tail H2))
  have ln := LAt.len hLt
  have m43 := mine_evT 998 hT
  have m59 := role_evT 998 hT
  have m46 := left_evT 997 hT
  unfold wC at hw
  suffices hs : ∃ e', evC tabGl (evO 999) 999 M18b0 (E18 x t w (j : Nat)) S = some (.nrm, e', S2) ∧ maskE M18b0l e' = E18 x t w ((j + 1 : Nat) : Int) by
    obtain ⟨e', g1, g2⟩ := hs
    exact ⟨e', _, T.went W, g1, g2, hI.went W hW, H2⟩
  rw [show S = S.pl [] from rfl]
  simp only [M18b0, E18, l0, fx, q1, q2, w1, i1, i2, i3, nn, nsS, bb, hw, hwo, ln, m43, m59, m46, k0, k1, p1, p4, p7, fv, fu, ev1_eqv, eqptr_ptr, loadR_rp, cutO39, stB_12_0_12, qES0, qES1, qES2, env0, List.length_cons, List.length_nil, Nat.reduceAdd, Nat.reduceSub, List.replicate, List.cons_append, List.nil_append, opd, Env.put, Env.at, List.set_cons_zero, List.set_cons_succ, List.getD_cons_zero, List.getD_cons_succ, freezeL, resVs, oneOr, Option.map_some, Option.map_none, List.map_cons, List.map_nil, if_true, if_false, Bool.not_true, Bool.not_false, Bool.false_eq_true, reduceIte, decide_true, decide_false, Int.reduceLT, Int.reduceLE, Int.reduceGT, Int.reduceGE, Int.reduceEq, Int.reduceBEq, Int.reduceBNe, load_ptr, ldV_some, cellAt_cells, List.getElem?_cons_zero, List.getElem?_cons_succ, store_ptr, stO_some, setAt_0, setAt_1, setAt_2, setAt_3, setAt_4, setAt_5, setAt_6, setAt_7, setAt_8, setAt_9, setAt_10, setAt_11, setAt_12, cells_int, cells_bool, cells_str, cells_nils, cells_nilp, cells_ptr, cells_sl, cells_u8, cells_u16, cells_agg, get_upd_is, Option.isSome_some, upd_upd, ev1_nchkV, ev1_faV, nchkV_ptr, faV_ptr, ev1_extV, extV_tup, eqptr_nil, eqptr_ptr, Nat.zero_add, Nat.add_zero, qPL0, qPL1, qPL2, qPL3, qPL4, qPL5, beq_self_eq_true, qED0, qED1, placeR]
  rw [drawR_ok]; case h => simp (config := {decide := true}) [calm, calmPair, calmTwo, List.range, List.range.loop, sameO_refl, plg0, plg1, plg2, plg3, hw, hwo]
  simp only [w1, qES0, qES1, qES2, env0, List.length_cons, List.length_nil, Nat.reduceAdd, Nat.reduceSub, List.replicate, List.cons_append, List.nil_append, opd, Env.put, Env.at, List.set_cons_zero, List.set_cons_succ, List.getD_cons_zero, List.getD_cons_succ, freezeL, resVs, oneOr, Option.map_some, Option.map_none, List.map_cons, List.map_nil, if_true, if_false, Bool.not_true, Bool.not_false, Bool.false_eq_true, reduceIte, decide_true, decide_false, Int.reduceLT, Int.reduceLE, Int.reduceGT, Int.reduceGE, Int.reduceEq, Int.reduceBEq, Int.reduceBNe, load_ptr, ldV_some, cellAt_cells, List.getElem?_cons_zero, List.getElem?_cons_succ, store_ptr, stO_some, setAt_0, setAt_1, setAt_2, setAt_3, setAt_4, setAt_5, setAt_6, setAt_7, setAt_8, setAt_9, setAt_10, setAt_11, setAt_12, cells_int, cells_bool, cells_str, cells_nils, cells_nilp, cells_ptr, cells_sl, cells_u8, cells_u16, cells_agg, get_upd_is, Option.isSome_some, upd_upd, ev1_nchkV, ev1_faV, nchkV_ptr, faV_ptr, ev1_extV, extV_tup, eqptr_nil, eqptr_ptr, Nat.zero_add, Nat.add_zero, qPL0, qPL1, qPL2, qPL3, qPL4, qPL5, beq_self_eq_true, qED0, qED1, placeR]
  exact ⟨_, rfl, rfl⟩


theorem ta_take (x : AV) (rows : List (List AV)) (hx : IsOps x rows) (j : Nat) (hj : j < rows.length) (hj2 : j < 80) (S : St) (W : Nat) (hW : W ≤ 7) (sz : Int) (t o ii w wo : Nat) (T : Tn) (hI : Sane T) (H : Ta S t o ii w wo sz W T) (kind n : Int) (body : List UInt8) (seat count : Int) (cmd : Bool) (pk sort nr ns : Int) (pf : Bool) (pb : List UInt8) (tl : List AV)
    (i1 : ixaV 12 x (.int .i64 (j : Int)) = some (.rp (.int .i64 kind :: .int .i64 n :: .str body :: .int .i64 seat :: .int .i64 count :: .bool cmd :: .int .i64 pk :: .int .i64 sort :: .int .i64 nr :: .int .i64 ns :: .bool pf :: .str pb :: tl))) (hk0 : kind ≠ 0) (hk1 : kind ≠ 1) (hk : kind = 2) : RoundA x S t o ii w wo sz W T j := by
  have l0 := hx.len
  have fx := hx.freeze
  have q1 : ((j : Int) < ((rows.length : Nat) : Int)) = True := eq_true (by omega)
  have q2 : ((j : Int) < 80) = True := eq_true (by omega)
  have w1 : IntKind.i64.wrap ((j : Int) + 1) = ((j + 1 : Nat) : Int) := (wrapI _ (by omega) (by omega)).trans (by omega)
  have i2 := cut12 (.int .i64 kind) (.int .i64 n) (.str body) (.int .i64 seat) (.int .i64 count) (.bool cmd) (.int .i64 pk) (.int .i64 sort) (.int .i64 nr) (.int .i64 ns) (.bool pf) (.str pb) tl
  have i3 := cut39 (.int .i64 kind) (.int .i64 n) (.str body) (.int .i64 seat) (.int .i64 count) (.bool cmd) (.int .i64 pk) (.int .i64 sort) (.int .i64 nr) (.int .i64 ns) (.bool pf) (.str pb)
  have nn : ∀ a : Int, (a != a) = false := fun a => by simp
  have nsS : ∀ b : List UInt8, binV .neq (.str b) (.str b) = some (.bool false) := fun b => by
    show some (AV.bool (!(b == b))) = _
    simp
  have bb : ∀ c : Bool, eqAV (.flat (.one .b)) (.bool c) (.bool c) = some true := fun c => by cases c <;> rfl
  have k0 : (kind == 0) = false := beq_eq_false_iff_ne.2 hk0
  have k1 : (kind == 1) = false := beq_eq_false_iff_ne.2 hk1
  have k2 : (kind == 2) = true := by simp [hk]
  have D1 := ((((Apart.new H (.cells 0 [.int .i64 kind, .int .i64 n, .str body, .int .i64 seat, .int .i64 count, .bool cmd, .int .i64 pk, .int .i64 sort, .int .i64 nr, .int .i64 ns, .bool pf, .str pb])).tail.new (.cells 0 (plC seat count cmd pk sort nr ns pf (pb.take 70)))).tail.new (.cells 0 (plC seat count cmd pk sort nr ns pf (pb.take 70)))).tail.new (.cells 0 (plC seat count cmd pk sort nr ns pf (pb.take 70))))
  have D1' : Apart (S.pl [(.cells 0 [.int .i64 kind, .int .i64 n, .str body, .int .i64 seat, .int .i64 count, .bool cmd, .int .i64 pk, .int .i64 sort, .int .i64 nr, .int .i64 ns, .bool pf, .str pb]), .cells 0 (plC seat count cmd pk sort nr ns pf (pb.take 70)), .cells 0 (plC seat count cmd pk sort nr ns pf (pb.take 70)), .cells 0 (plC seat count cmd pk sort nr ns pf (pb.take 70))]) (turnPart t o ii sz W T :: cellPart (S.next + 3) (.cells 0 (plC seat count cmd pk sort nr ns pf (pb.take 70))) :: [cellPart w (wC T sz wo), routPart wo W T.L T.f T.st]) := Apart.swap D1
  have h54 := r54 997 (S.pl [(.cells 0 [.int .i64 kind, .int .i64 n, .str body, .int .i64 seat, .int .i64 count, .bool cmd, .int .i64 pk, .int .i64 sort, .int .i64 nr, .int .i64 ns, .bool pf, .str pb])]) seat count cmd pk sort nr ns pf pb
  obtain ⟨v1, v2, T2, t1, t2, t3⟩ := takeBoth W hW sz t o ii w wo T hI seat count cmd pk sort nr ns pf (pb.take 70)
  obtain ⟨S1, p1, p2⟩ := t1 _ D1'.head
  have D2 := (D1'.turnStep p1 (fun C hC => ⟨hC, ⟨trivial, trivial, trivial, trivial, trivial, trivial, trivial, trivial, trivial, trivial⟩, trivial⟩) p2).1
  have gp : S1.get (S.next + 3) = some (.cells 0 (plC seat count cmd pk sort nr ns pf (pb.take 70))) := (D2.get (by simp)).1
  obtain ⟨S2, p3, p4⟩ := t2 S1 [turnPart t o ii sz W T2] (D2.swap.tail |> Apart.third')
  have H2 : Ta S2 t o ii w wo sz W T2 := Apart.third p4
  have hT := Apart.head H2
  have hw := (Apart.head (Apart.tail H2)).1
  obtain ⟨_, lv, hwo, hLt⟩ := Apart.head (Apart.tail (Apart.tail H2))
  have ln := LAt.len hLt
  have m43 := mine_evT 998 hT
  have m59 := role_evT 998 hT
  have m46 := left_evT 997 hT
  unfold wC at hw
  suffices hs : ∃ e', evC tabGl (evO 999) 999 M18b0 (E18 x t w (j : Nat)) S = some (.nrm, e', S2) ∧ maskE M18b0l e' = E18 x t w ((j + 1 : Nat) : Int) by
    obtain ⟨e', g1, g2⟩ := hs
    exact ⟨e', _, T2, g1, g2, t3, H2⟩
  unfold plC at h54 p1 p3 gp
  rw [show S = S.pl [] from rfl]
  simp only [M18b0, E18, l0, fx, q1, q2, w1, i1, i2, i3, nn, nsS, bb, hw, hwo, ln, m43, m59, m46, k0, k1, k2, h54, p1, p3, gp, ev1_eqv, eqptr_ptr, loadR_rp, cutO39, stB_12_0_12, qES0, qES1, qES2, env0, List.length_cons, List.length_nil, Nat.reduceAdd, Nat.reduceSub, List.replicate, List.cons_append, List.nil_append, opd, Env.put, Env.at, List.set_cons_zero, List.set_cons_succ, List.getD_cons_zero, List.getD_cons_succ, freezeL, resVs, oneOr, Option.map_some, Option.map_none, List.map_cons, List.map_nil, if_true, if_false, Bool.not_true, Bool.not_false, Bool.false_eq_true, reduceIte, decide_true, decide_false, Int.reduceLT, Int.reduceLE, Int.reduceGT, Int.reduceGE, Int.reduceEq, Int.reduceBEq, Int.reduceBNe, load_ptr, ldV_some, cellAt_cells, List.getElem?_cons_zero, List.getElem?_cons_succ, store_ptr, stO_some, setAt_0, setAt_1, setAt_2, setAt_3, setAt_4, setAt_5, setAt_6, setAt_7, setAt_8, setAt_9, setAt_10, setAt_11, setAt_12, cells_int, cells_bool, cells_str, cells_nils, cells_nilp, cells_ptr, cells_sl, cells_u8, cells_u16, cells_agg, get_upd_is, Option.isSome_some, upd_upd, ev1_nchkV, ev1_faV, nchkV_ptr, faV_ptr, ev1_extV, extV_tup, eqptr_nil, eqptr_ptr, Nat.zero_add, Nat.add_zero, qPL0, qPL1, qPL2, qPL3, qPL4, qPL5, beq_self_eq_true, qED0, qED1, placeR]
  rw [drawR_ok]; case h => simp (config := {decide := true}) [calm, calmPair, calmTwo, List.range, List.range.loop, sameO_refl, plg0, plg1, plg2, plg3, hw, hwo]
  simp only [w1, qES0, qES1, qES2, env0, List.length_cons, List.length_nil, Nat.reduceAdd, Nat.reduceSub, List.replicate, List.cons_append, List.nil_append, opd, Env.put, Env.at, List.set_cons_zero, List.set_cons_succ, List.getD_cons_zero, List.getD_cons_succ, freezeL, resVs, oneOr, Option.map_some, Option.map_none, List.map_cons, List.map_nil, if_true, if_false, Bool.not_true, Bool.not_false, Bool.false_eq_true, reduceIte, decide_true, decide_false, Int.reduceLT, Int.reduceLE, Int.reduceGT, Int.reduceGE, Int.reduceEq, Int.reduceBEq, Int.reduceBNe, load_ptr, ldV_some, cellAt_cells, List.getElem?_cons_zero, List.getElem?_cons_succ, store_ptr, stO_some, setAt_0, setAt_1, setAt_2, setAt_3, setAt_4, setAt_5, setAt_6, setAt_7, setAt_8, setAt_9, setAt_10, setAt_11, setAt_12, cells_int, cells_bool, cells_str, cells_nils, cells_nilp, cells_ptr, cells_sl, cells_u8, cells_u16, cells_agg, get_upd_is, Option.isSome_some, upd_upd, ev1_nchkV, ev1_faV, nchkV_ptr, faV_ptr, ev1_extV, extV_tup, eqptr_nil, eqptr_ptr, Nat.zero_add, Nat.add_zero, qPL0, qPL1, qPL2, qPL3, qPL4, qPL5, beq_self_eq_true, qED0, qED1, placeR]
  exact ⟨_, rfl, rfl⟩


theorem ta_late (x : AV) (rows : List (List AV)) (hx : IsOps x rows) (j : Nat) (hj : j < rows.length) (hj2 : j < 80) (S : St) (W : Nat) (hW : W ≤ 7) (sz : Int) (t o ii w wo : Nat) (T : Tn) (hI : Sane T) (H : Ta S t o ii w wo sz W T) (kind n : Int) (body : List UInt8) (seat count : Int) (cmd : Bool) (pk sort nr ns : Int) (pf : Bool) (pb : List UInt8) (tl : List AV)
    (i1 : ixaV 12 x (.int .i64 (j : Int)) = some (.rp (.int .i64 kind :: .int .i64 n :: .str body :: .int .i64 seat :: .int .i64 count :: .bool cmd :: .int .i64 pk :: .int .i64 sort :: .int .i64 nr :: .int .i64 ns :: .bool pf :: .str pb :: tl))) (hk0 : kind ≠ 0) (hk1 : kind ≠ 1) (hk2 : kind ≠ 2) (hk : kind = 3) : RoundA x S t o ii w wo sz W T j := by
  have l0 := hx.len
  have fx := hx.freeze
  have q1 : ((j : Int) < ((rows.length : Nat) : Int)) = True := eq_true (by omega)
  have q2 : ((j : Int) < 80) = True := eq_true (by omega)
  have w1 : IntKind.i64.wrap ((j : Int) + 1) = ((j + 1 : Nat) : Int) := (wrapI _ (by omega) (by omega)).trans (by omega)
  have i2 := cut12 (.int .i64 kind) (.int .i64 n) (.str body) (.int .i64 seat) (.int .i64 count) (.bool cmd) (.int .i64 pk) (.int .i64 sort) (.int .i64 nr) (.int .i64 ns) (.bool pf) (.str pb) tl
  have i3 := cut39 (.int .i64 kind) (.int .i64 n) (.str body) (.int .i64 seat) (.int .i64 count) (.bool cmd) (.int .i64 pk) (.int .i64 sort) (.int .i64 nr) (.int .i64 ns) (.bool pf) (.str pb)
  have nn : ∀ a : Int, (a != a) = false := fun a => by simp
  have nsS : ∀ b : List UInt8, binV .neq (.str b) (.str b) = some (.bool false) := fun b => by
    show some (AV.bool (!(b == b))) = _
    simp
  have bb : ∀ c : Bool, eqAV (.flat (.one .b)) (.bool c) (.bool c) = some true := fun c => by cases c <;> rfl
  have k0 : (kind == 0) = false := beq_eq_false_iff_ne.2 hk0
  have k1 : (kind == 1) = false := beq_eq_false_iff_ne.2 hk1
  have k2 : (kind == 2) = false := beq_eq_false_iff_ne.2 hk2
  have k3 : (kind == 3) = true := by simp [hk]
  have D1 : Apart (S.pl [(.cells 0 [.int .i64 kind, .int .i64 n, .str body, .int .i64 seat, .int .i64 count, .bool cmd, .int .i64 pk, .int .i64 sort, .int .i64 nr, .int .i64 ns, .bool pf, .str pb])]) [turnPart t o ii sz W T, cellPart w (wC T sz wo), routPart wo W T.L T.f T.st] := (Apart.new H _).tail
  obtain ⟨S1, p1, p2, _⟩ := late_evT 998 D1.head hI.role
  have D2 := (D1.turnStep p1 (fun C hC => ⟨hC, trivial⟩) (T' := T.late) p2).1
  obtain ⟨S2, p3, p4⟩ := r56 998 (show RT S1 w wo sz W T _ from Apart.third' D2) hI.role
  have H2 : Ta S2 t o ii w wo sz W T.late := Apart.third p4
  have hT := Apart.head H2
  have hw := (Apart.head (Apart.tail H2)).1
  obtain ⟨_, lv, hwo, hLt⟩ := Apart.head (Apart.tail (Apart.tail H2))
  have ln := LAt.len hLt
  have m43 := mine_evT 998 hT
  have m59 := role_evT 998 hT
  have m46 := left_evT 997 hT
  unfold wC at hw
  suffices hs : ∃ e', evC tabGl (evO 999) 999 M18b0 (E18 x t w (j : Nat)) S = some (.nrm, e', S2) ∧ maskE M18b0l e' = E18 x t w ((j + 1 : Nat) : Int) by
    obtain ⟨e', g1, g2⟩ := hs
    exact ⟨e', _, T.late, g1, g2, hI.late, H2⟩
  rw [show S = S.pl [] from rfl]
  simp only [M18b0, E18, l0, fx, q1, q2, w1, i1, i2, i3, nn, nsS, bb, hw, hwo, ln, m43, m59, m46, k0, k1, k2, k3, p1, p3, ev1_eqv, eqptr_ptr, loadR_rp, cutO39, stB_12_0_12, qES0, qES1, qES2, env0, List.length_cons, List.length_nil, Nat.reduceAdd, Nat.reduceSub, List.replicate, List.cons_append, List.nil_append, opd, Env.put, Env.at, List.set_cons_zero, List.set_cons_succ, List.getD_cons_zero, List.getD_cons_succ, freezeL, resVs, oneOr, Option.map_some, Option.map_none, List.map_cons, List.map_nil, if_true, if_false, Bool.not_true, Bool.not_false, Bool.false_eq_true, reduceIte, decide_true, decide_false, Int.reduceLT, Int.reduceLE, Int.reduceGT, Int.reduceGE, Int.reduceEq, Int.reduceBEq, Int.reduceBNe, load_ptr, ldV_some, cellAt_cells, List.getElem?_cons_zero, List.getElem?_cons_succ, store_ptr, stO_some, setAt_0, setAt_1, setAt_2, setAt_3, setAt_4, setAt_5, setAt_6, setAt_7, setAt_8, setAt_9, setAt_10, setAt_11, setAt_12, cells_int, cells_bool, cells_str, cells_nils, cells_nilp, cells_ptr, cells_sl, cells_u8, cells_u16, cells_agg, get_upd_is, Option.isSome_some, upd_upd, ev1_nchkV, ev1_faV, nchkV_ptr, faV_ptr, ev1_extV, extV_tup, eqptr_nil, eqptr_ptr, Nat.zero_add, Nat.add_zero, qPL0, qPL1, qPL2, qPL3, qPL4, qPL5, beq_self_eq_true, qED0, qED1, placeR]
  rw [drawR_ok]; case h => simp (config := {decide := true}) [calm, calmPair, calmTwo, List.range, List.range.loop, sameO_refl, plg0, plg1, plg2, plg3, hw, hwo]
  simp only [w1, qES0, qES1, qES2, env0, List.length_cons, List.length_nil, Nat.reduceAdd, Nat.reduceSub, List.replicate, List.cons_append, List.nil_append, opd, Env.put, Env.at, List.set_cons_zero, List.set_cons_succ, List.getD_cons_zero, List.getD_cons_succ, freezeL, resVs, oneOr, Option.map_some, Option.map_none, List.map_cons, List.map_nil, if_true, if_false, Bool.not_true, Bool.not_false, Bool.false_eq_true, reduceIte, decide_true, decide_false, Int.reduceLT, Int.reduceLE, Int.reduceGT, Int.reduceGE, Int.reduceEq, Int.reduceBEq, Int.reduceBNe, load_ptr, ldV_some, cellAt_cells, List.getElem?_cons_zero, List.getElem?_cons_succ, store_ptr, stO_some, setAt_0, setAt_1, setAt_2, setAt_3, setAt_4, setAt_5, setAt_6, setAt_7, setAt_8, setAt_9, setAt_10, setAt_11, setAt_12, cells_int, cells_bool, cells_str, cells_nils, cells_nilp, cells_ptr, cells_sl, cells_u8, cells_u16, cells_agg, get_upd_is, Option.isSome_some, upd_upd, ev1_nchkV, ev1_faV, nchkV_ptr, faV_ptr, ev1_extV, extV_tup, eqptr_nil, eqptr_ptr, Nat.zero_add, Nat.add_zero, qPL0, qPL1, qPL2, qPL3, qPL4, qPL5, beq_self_eq_true, qED0, qED1, placeR]
  exact ⟨_, rfl, rfl⟩


theorem ta_swap (x : AV) (rows : List (List AV)) (hx : IsOps x rows) (j : Nat) (hj : j < rows.length) (hj2 : j < 80) (S : St) (W : Nat) (hW : W ≤ 7) (sz : Int) (t o ii w wo : Nat) (T : Tn) (hI : Sane T) (H : Ta S t o ii w wo sz W T) (kind n : Int) (body : List UInt8) (seat count : Int) (cmd : Bool) (pk sort nr ns : Int) (pf : Bool) (pb : List UInt8) (tl : List AV)
    (i1 : ixaV 12 x (.int .i64 (j : Int)) = some (.rp (.int .i64 kind :: .int .i64 n :: .str body :: .int .i64 seat :: .int .i64 count :: .bool cmd :: .int .i64 pk :: .int .i64 sort :: .int .i64 nr :: .int .i64 ns :: .bool pf :: .str pb :: tl))) (hk0 : kind ≠ 0) (hk1 : kind ≠ 1) (hk2 : kind ≠ 2) (hk3 : kind ≠ 3) : RoundA x S t o ii w wo sz W T j := by
  have l0 := hx.len
  have fx := hx.freeze
  have q1 : ((j : Int) < ((rows.length : Nat) : Int)) = True := eq_true (by omega)
  have q2 : ((j : Int) < 80) = True := eq_true (by omega)
  have w1 : IntKind.i64.wrap ((j : Int) + 1) = ((j + 1 : Nat) : Int) := (wrapI _ (by omega) (by omega)).trans (by omega)
  have i2 := cut12 (.int .i64 kind) (.int .i64 n) (.str body) (.int .i64 seat) (.int .i64 count) (.bool cmd) (.int .i64 pk) (.int .i64 sort) (.int .i64 nr) (.int .i64 ns) (.bool pf) (.str pb) tl
  have i3 := cut39 (.int .i64 kind) (.int .i64 n) (.str body) (.int .i64 seat) (.int .i64 count) (.bool cmd) (.int .i64 pk) (.int .i64 sort) (.int .i64 nr) (.int .i64 ns) (.bool pf) (.str pb)
  have nn : ∀ a : Int, (a != a) = false := fun a => by simp
  have nsS : ∀ b : List UInt8, binV .neq (.str b) (.str b) = some (.bool false) := fun b => by
    show some (AV.bool (!(b == b))) = _
    simp
  have bb : ∀ c : Bool, eqAV (.flat (.one .b)) (.bool c) (.bool c) = some true := fun c => by cases c <;> rfl
  have k0 : (kind == 0) = false := beq_eq_false_iff_ne.2 hk0
  have k1 : (kind == 1) = false := beq_eq_false_iff_ne.2 hk1
  have k2 : (kind == 2) = false := beq_eq_false_iff_ne.2 hk2
  have k3 : (kind == 3) = false := beq_eq_false_iff_ne.2 hk3
  have D1 : Apart (S.pl [(.cells 0 [.int .i64 kind, .int .i64 n, .str body, .int .i64 seat, .int .i64 count, .bool cmd, .int .i64 pk, .int .i64 sort, .int .i64 nr, .int .i64 ns, .bool pf, .str pb])]) [turnPart t o ii sz W T, cellPart w (wC T sz wo), routPart wo W T.L T.f T.st] := (Apart.new H _).tail
  obtain ⟨S1, p1, p2, _⟩ := swap_evT 998 D1.head hI.role
  have D2 := (D1.turnStep p1 (fun C hC => ⟨hC, trivial⟩) (T' := T.swap) p2).1
  obtain ⟨S2, p3, p4⟩ := r58 998 (show RT S1 w wo sz W T _ from Apart.third' D2) hI.role
  have H2 : Ta S2 t o ii w wo sz W T.swap := Apart.third p4
  have hT := Apart.head H2
  have hw := (Apart.head (Apart.tail H2)).1
  obtain ⟨_, lv, hwo, hLt⟩ := Apart.head (Apart.tail (Apart.tail H2))
  have ln := LAt.len hLt
  have m43 := mine_evT 998 hT
  have m59 := role_evT 998 hT
  have m46 := left_evT 997 hT
  unfold wC at hw
  suffices hs : ∃ e', evC tabGl (evO 999) 999 M18b0 (E18 x t w (j : Nat)) S = some (.nrm, e', S2) ∧ maskE M18b0l e' = E18 x t w ((j + 1 : Nat) : Int) by
    obtain ⟨e', g1, g2⟩ := hs
    exact ⟨e', _, T.swap, g1, g2, hI.swap, H2⟩
  rw [show S = S.pl [] from rfl]
  simp only [M18b0, E18, l0, fx, q1, q2, w1, i1, i2, i3, nn, nsS, bb, hw, hwo, ln, m43, m59, m46, k0, k1, k2, k3, p1, p3, ev1_eqv, eqptr_ptr, loadR_rp, cutO39, stB_12_0_12, qES0, qES1, qES2, env0, List.length_cons, List.length_nil, Nat.reduceAdd, Nat.reduceSub, List.replicate, List.cons_append, List.nil_append, opd, Env.put, Env.at, List.set_cons_zero, List.set_cons_succ, List.getD_cons_zero, List.getD_cons_succ, freezeL, resVs, oneOr, Option.map_some, Option.map_none, List.map_cons, List.map_nil, if_true, if_false, Bool.not_true, Bool.not_false, Bool.false_eq_true, reduceIte, decide_true, decide_false, Int.reduceLT, Int.reduceLE, Int.reduceGT, Int.reduceGE, Int.reduceEq, Int.reduceBEq, Int.reduceBNe, load_ptr, ldV_some, cellAt_cells, List.getElem?_cons_zero, List.getElem?_cons_succ, store_ptr, stO_some, setAt_0, setAt_1, setAt_2, setAt_3, setAt_4, setAt_5, setAt_6, setAt_7, setAt_8, setAt_9, setAt_10, setAt_11, setAt_12, cells_int, cells_bool, cells_str, cells_nils, cells_nilp, cells_ptr, cells_sl, cells_u8, cells_u16, cells_agg, get_upd_is, Option.isSome_some, upd_upd, ev1_nchkV, ev1_faV, nchkV_ptr, faV_ptr, ev1_extV, extV_tup, eqptr_nil, eqptr_ptr, Nat.zero_add, Nat.add_zero, qPL0, qPL1, qPL2, qPL3, qPL4, qPL5, beq_self_eq_true, qED0, qED1, placeR]
  rw [drawR_ok]; case h => simp (config := {decide := true}) [calm, calmPair, calmTwo, List.range, List.range.loop, sameO_refl, plg0, plg1, plg2, plg3, hw, hwo]
  simp only [w1, qES0, qES1, qES2, env0, List.length_cons, List.length_nil, Nat.reduceAdd, Nat.reduceSub, List.replicate, List.cons_append, List.nil_append, opd, Env.put, Env.at, List.set_cons_zero, List.set_cons_succ, List.getD_cons_zero, List.getD_cons_succ, freezeL, resVs, oneOr, Option.map_some, Option.map_none, List.map_cons, List.map_nil, if_true, if_false, Bool.not_true, Bool.not_false, Bool.false_eq_true, reduceIte, decide_true, decide_false, Int.reduceLT, Int.reduceLE, Int.reduceGT, Int.reduceGE, Int.reduceEq, Int.reduceBEq, Int.reduceBNe, load_ptr, ldV_some, cellAt_cells, List.getElem?_cons_zero, List.getElem?_cons_succ, store_ptr, stO_some, setAt_0, setAt_1, setAt_2, setAt_3, setAt_4, setAt_5, setAt_6, setAt_7, setAt_8, setAt_9, setAt_10, setAt_11, setAt_12, cells_int, cells_bool, cells_str, cells_nils, cells_nilp, cells_ptr, cells_sl, cells_u8, cells_u16, cells_agg, get_upd_is, Option.isSome_some, upd_upd, ev1_nchkV, ev1_faV, nchkV_ptr, faV_ptr, ev1_extV, extV_tup, eqptr_nil, eqptr_ptr, Nat.zero_add, Nat.add_zero, qPL0, qPL1, qPL2, qPL3, qPL4, qPL5, beq_self_eq_true, qED0, qED1, placeR]
  exact ⟨_, rfl, rfl⟩

end Go.Proofs.YtochnineebgbgaaDoor
/- TurnAll: its loop. No conditions. -/
set_option linter.unusedSimpArgs false
set_option linter.unusedVariables false
set_option maxRecDepth 100000
set_option maxHeartbeats 8000000
namespace Go.Proofs.YtochnineebgbgaaDoor
open Go Go.Ab
theorem roundA (x : AV) (rows : List (List AV)) (hx : IsOps x rows) (j : Nat) (hj : j < rows.length) (hj2 : j < 80) (S : St) (W : Nat) (hW : W ≤ 7) (sz : Int) (t o ii w wo : Nat) (T : Tn) (hI : Sane T) (H : Ta S t o ii w wo sz W T) : RoundA x S t o ii w wo sz W T j := by
  obtain ⟨kind, n, body, p, tl, i1, _, hp, _⟩ := hx.ixa j hj (by omega)
  obtain ⟨seat, count, cmd, pk, sort, nr, ns, pf, pb, rfl⟩ := plain_of hp
  simp only [List.cons_append, List.nil_append] at i1
  by_cases k0 : kind = 0
  · by_cases hz : ((body.take 70).length : Int) ≤ sz
    · by_cases hl : T.L.length < 8
      · exact ta_ok x rows hx j hj hj2 S W hW sz t o ii w wo T hI H kind n body seat count cmd pk sort nr ns pf pb tl i1 k0 hl hz
      · exact ta_full x rows hx j hj hj2 S W hW sz t o ii w wo T hI H kind n body seat count cmd pk sort nr ns pf pb tl i1 k0 hl hz
    · exact ta_long x rows hx j hj hj2 S W hW sz t o ii w wo T hI H kind n body seat count cmd pk sort nr ns pf pb tl i1 k0 hz
  by_cases k1 : kind = 1
  · exact ta_go x rows hx j hj hj2 S W hW sz t o ii w wo T hI H kind n body seat count cmd pk sort nr ns pf pb tl i1 k0 k1
  by_cases k2 : kind = 2
  · exact ta_take x rows hx j hj hj2 S W hW sz t o ii w wo T hI H kind n body seat count cmd pk sort nr ns pf pb tl i1 k0 k1 k2
  by_cases k3 : kind = 3
  · exact ta_late x rows hx j hj hj2 S W hW sz t o ii w wo T hI H kind n body seat count cmd pk sort nr ns pf pb tl i1 k0 k1 k2 k3
  exact ta_swap x rows hx j hj hj2 S W hW sz t o ii w wo T hI H kind n body seat count cmd pk sort nr ns pf pb tl i1 k0 k1 k2 k3
theorem loopA (x : AV) (rows : List (List AV)) (hx : IsOps x rows) (S : St) (W : Nat) (hW : W ≤ 7) (sz : Int) (t o ii w wo : Nat) (T : Tn) (hI : Sane T) (H : Ta S t o ii w wo sz W T) (e : Env) (he : maskE M18b0l e = E18 x t w 0) :
    valR (outR M18.res (seqR (blockR 0 (iter (evC tabGl (evO 999) 999 M18b0) M18b0l 999 e S)) (evC tabGl (evO 999) 999 M18r0))) = some (.bool true) := by
  have l0 := hx.len
  have fx := hx.freeze
  have hr : M18.res = [MRes.tmp 0 6] := rfl
  refine iter_leave (evC tabGl (evO 999) 999 M18b0) M18b0l (fun i e S => maskE M18b0l e = E18 x t w (i : Nat) ∧ ∃ T, Sane T ∧ Ta S t o ii w wo sz W T)
    (fun out => valR (outR M18.res (seqR (blockR 0 out) (evC tabGl (evO 999) 999 M18r0))) = some (.bool true)) (min rows.length 80) ?_ ?_ (min rows.length 80) 0 _ _ 999 (by omega) ⟨he, T, hI, H⟩ (by omega)
  · rintro i e S hi ⟨h1, T, h2, h3⟩
    rw [h1]
    left
    obtain ⟨e', S', T', p1, p2, p3, p4⟩ := roundA x rows hx i (by omega) (by omega) S W hW sz t o ii w wo T h2 h3
    exact ⟨e', S', p1, p2, T', p3, p4⟩
  · rintro e S ⟨h1, T, h2, h3⟩
    rw [h1]
    by_cases hq : rows.length ≤ 80
    · rw [Nat.min_eq_left hq]
      have q1 : (((rows.length : Nat) : Int) < ((rows.length : Nat) : Int)) = False := eq_false (by omega)
      refine ⟨?_, fun _ _ h => ?_⟩
      · simp only [M18b0, E18, M18r0, hr, l0, fx, q1, evC_loop, qES0, qES1, qES2, env0, List.length_cons, List.length_nil, Nat.reduceAdd, Nat.reduceSub, List.replicate, List.cons_append, List.nil_append, opd, Env.put, Env.at, List.set_cons_zero, List.set_cons_succ, List.getD_cons_zero, List.getD_cons_succ, freezeL, resVs, oneOr, Option.map_some, Option.map_none, List.map_cons, List.map_nil, if_true, if_false, Bool.not_true, Bool.not_false, Bool.false_eq_true, reduceIte, decide_true, decide_false, Int.reduceLT, Int.reduceLE, Int.reduceGT, Int.reduceGE, Int.reduceEq, Int.reduceBEq, Int.reduceBNe, load_ptr, ldV_some, cellAt_cells, List.getElem?_cons_zero, List.getElem?_cons_succ, store_ptr, stO_some, setAt_0, setAt_1, setAt_2, setAt_3, setAt_4, setAt_5, setAt_6, setAt_7, setAt_8, setAt_9, setAt_10, setAt_11, setAt_12, cells_int, cells_bool, cells_str, cells_nils, cells_nilp, cells_ptr, cells_sl, cells_u8, cells_u16, cells_agg, get_upd_is, Option.isSome_some, upd_upd, ev1_nchkV, ev1_faV, nchkV_ptr, faV_ptr, ev1_extV, extV_tup, eqptr_nil, eqptr_ptr, Nat.zero_add, Nat.add_zero, qPL0, qPL1, qPL2, qPL3, qPL4, qPL5, beq_self_eq_true, qED0, qED1, placeR]
      · simp only [M18b0, E18, l0, fx, q1, qES0, qES1, qES2, env0, List.length_cons, List.length_nil, Nat.reduceAdd, Nat.reduceSub, List.replicate, List.cons_append, List.nil_append, opd, Env.put, Env.at, List.set_cons_zero, List.set_cons_succ, List.getD_cons_zero, List.getD_cons_succ, freezeL, resVs, oneOr, Option.map_some, Option.map_none, List.map_cons, List.map_nil, if_true, if_false, Bool.not_true, Bool.not_false, Bool.false_eq_true, reduceIte, decide_true, decide_false, Int.reduceLT, Int.reduceLE, Int.reduceGT, Int.reduceGE, Int.reduceEq, Int.reduceBEq, Int.reduceBNe, load_ptr, ldV_some, cellAt_cells, List.getElem?_cons_zero, List.getElem?_cons_succ, store_ptr, stO_some, setAt_0, setAt_1, setAt_2, setAt_3, setAt_4, setAt_5, setAt_6, setAt_7, setAt_8, setAt_9, setAt_10, setAt_11, setAt_12, cells_int, cells_bool, cells_str, cells_nils, cells_nilp, cells_ptr, cells_sl, cells_u8, cells_u16, cells_agg, get_upd_is, Option.isSome_some, upd_upd, ev1_nchkV, ev1_faV, nchkV_ptr, faV_ptr, ev1_extV, extV_tup, eqptr_nil, eqptr_ptr, Nat.zero_add, Nat.add_zero, qPL0, qPL1, qPL2, qPL3, qPL4, qPL5, beq_self_eq_true, qED0, qED1, placeR] at h
        cases h
    · rw [Nat.min_eq_right (by omega)]
      have q1 : (((80 : Nat) : Int) < ((rows.length : Nat) : Int)) = True := eq_true (by omega)
      have q2 : (((80 : Nat) : Int) < 80) = False := eq_false (by omega)
      refine ⟨?_, fun _ _ h => ?_⟩
      · simp only [M18b0, E18, M18r0, hr, l0, fx, q1, q2, evC_loop, qES0, qES1, qES2, env0, List.length_cons, List.length_nil, Nat.reduceAdd, Nat.reduceSub, List.replicate, List.cons_append, List.nil_append, opd, Env.put, Env.at, List.set_cons_zero, List.set_cons_succ, List.getD_cons_zero, List.getD_cons_succ, freezeL, resVs, oneOr, Option.map_some, Option.map_none, List.map_cons, List.map_nil, if_true, if_false, Bool.not_true, Bool.not_false, Bool.false_eq_true, reduceIte, decide_true, decide_false, Int.reduceLT, Int.reduceLE, Int.reduceGT, Int.reduceGE, Int.reduceEq, Int.reduceBEq, Int.reduceBNe, load_ptr, ldV_some, cellAt_cells, List.getElem?_cons_zero, List.getElem?_cons_succ, store_ptr, stO_some, setAt_0, setAt_1, setAt_2, setAt_3, setAt_4, setAt_5, setAt_6, setAt_7, setAt_8, setAt_9, setAt_10, setAt_11, setAt_12, cells_int, cells_bool, cells_str, cells_nils, cells_nilp, cells_ptr, cells_sl, cells_u8, cells_u16, cells_agg, get_upd_is, Option.isSome_some, upd_upd, ev1_nchkV, ev1_faV, nchkV_ptr, faV_ptr, ev1_extV, extV_tup, eqptr_nil, eqptr_ptr, Nat.zero_add, Nat.add_zero, qPL0, qPL1, qPL2, qPL3, qPL4, qPL5, beq_self_eq_true, qED0, qED1, placeR]
      · simp only [M18b0, E18, l0, fx, q1, q2, qES0, qES1, qES2, env0, List.length_cons, List.length_nil, Nat.reduceAdd, Nat.reduceSub, List.replicate, List.cons_append, List.nil_append, opd, Env.put, Env.at, List.set_cons_zero, List.set_cons_succ, List.getD_cons_zero, List.getD_cons_succ, freezeL, resVs, oneOr, Option.map_some, Option.map_none, List.map_cons, List.map_nil, if_true, if_false, Bool.not_true, Bool.not_false, Bool.false_eq_true, reduceIte, decide_true, decide_false, Int.reduceLT, Int.reduceLE, Int.reduceGT, Int.reduceGE, Int.reduceEq, Int.reduceBEq, Int.reduceBNe, load_ptr, ldV_some, cellAt_cells, List.getElem?_cons_zero, List.getElem?_cons_succ, store_ptr, stO_some, setAt_0, setAt_1, setAt_2, setAt_3, setAt_4, setAt_5, setAt_6, setAt_7, setAt_8, setAt_9, setAt_10, setAt_11, setAt_12, cells_int, cells_bool, cells_str, cells_nils, cells_nilp, cells_ptr, cells_sl, cells_u8, cells_u16, cells_agg, get_upd_is, Option.isSome_some, upd_upd, ev1_nchkV, ev1_faV, nchkV_ptr, faV_ptr, ev1_extV, extV_tup, eqptr_nil, eqptr_ptr, Nat.zero_add, Nat.add_zero, qPL0, qPL1, qPL2, qPL3, qPL4, qPL5, beq_self_eq_true, qED0, qED1, placeR] at h
        cases h
end Go.Proofs.YtochnineebgbgaaDoor
