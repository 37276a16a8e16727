/- What the evaluator says of the law FrameAny: true. No conditions. -/
import Derived.Test.YthcblggiojpmcaaDoorL6
import Derived.Test.YthcblggiojpmcaaDoorM4_FrameAny
namespace Go.Proofs.YthcblggiojpmcaaDoor.frameAny
open Go Go.Ab
set_option linter.unusedVariables false
set_option linter.unusedSimpArgs false
set_option maxRecDepth 100000 in
set_option maxHeartbeats 8000000 in
theorem says (x0 : Ab.AV) (b0 : List UInt8) (hx0 : Ab.IsBytes x0 b0) (as1 : List Ab.AV) (hs1 : Ab.ScL Tryd.prog plainTypes as1) : Ab.saysTrue (evL5 1000 7 [x0, .agg as1] Ab.St.nil) = true := by
  obtain ⟨p, rfl⟩ := plain_pn hs1
  have h20 := g20 998
  have h48 := g48 998 x0 b0 hx0
  generalize hbs : b0.take 75 = bs at h48
  have h43 := g43 998 bs
  have h49 := g49 998 bs
  have fb : ∀ n s, Ab.freeze n s (bsV bs) = some (bsV bs, s) := fun n s => by unfold bsV; split <;> rfl
  have fx : ∀ n s, Ab.freeze n s x0 = some (x0, s) := fun n s => by rcases hx0 with ⟨rfl, _⟩ | rfl <;> rfl
  have h21 : ∀ l s, evL5 999 21 [.str l, .int .i64 60] s = some (.str (l.take 60), s) := fun l s => g21 998 l 60 s
  have hb2 : convP .b2s (bsV bs) = some (.str bs) := by
    unfold bsV
    split
    · rename_i h; subst h; rfl
    · simp [convP, bytesAV_length, toBytes_bytesAV]
  have bkb : bkH (bsV bs) = 0 := by unfold bsV; split <;> rfl
  have w0 : ∀ (a : Bool), eqAV (.flat (.one .b)) (.bool a) (.bool a) = some true := fun a => by cases a <;> rfl
  have eN : eqAV (.ifc oks) .nili .nili = some true := rfl
  have ln : lenV .nils = some (.int .i64 0) := rfl
  rw [show (1000 : Nat) = 999 + 1 from rfl, evL5_in rfl tab7]
  suffices hv : valR (outR M7.res (evC tabGl (evL5 999) 999 M7.body (env0 M7.ntmps [x0, .agg p.cells]) (St.nil.pl []))) = some (.bool true) by
    obtain ⟨v0, s', h1, h2⟩ := valR_of hv
    have : v0 = .bool true := by
      cases v0 with
      | bool b => exact h2
      | tup l => cases h2
      | _ => cases h2
    rw [this] at h1
    exact (congrArg Ab.saysTrue h1)
  generalize St.nil = s
  obtain ⟨seat, count, cmd, kind, sort, nr, ns, pf, body⟩ := p
  have x42 := g42f 998 (.agg [.int .i64 seat, .int .i64 count, .bool cmd, .iface 3 (.int .i64 nr), .str (body.take 60)]) rfl rfl
  have x47 := g47f 998 (.agg [.int .i64 seat, .int .i64 count, .bool cmd, .iface 3 (.int .i64 nr), .str (body.take 60)]) rfl
  have x46 := g46f 998 (.agg [.int .i64 seat, .int .i64 count, .bool cmd, .iface 3 (.int .i64 nr), .str (body.take 60)]) rfl rfl
  have x45 := g45f 998 (.agg [.int .i64 seat, .int .i64 count, .bool cmd, .iface 3 (.int .i64 nr), .str (body.take 60)]) rfl rfl
  have y47 : ∀ b s, evL5 999 47 [.agg [.int .i64 seat, .int .i64 count, .bool false, .iface 62 (.ptr b 0), .str []]] s = some (.bool false, s) := fun b s => g47f 998 _ rfl s
  have z9 := (eq9D Pn.zero Pn.zero).trans (congrArg some (show decide (Pn.zero = Pn.zero) = true by simp))
  simp only [Pn.zero, Pn.cells] at x46 z9 ⊢
  cases hg : gfr bs with
  | none =>
    rw [hg] at h43 h49
    simp only [Fr.zero, Fr.cells, Pn.zero, Pn.cells, av_n] at h43 h49
    simp only [M7, h20, h48, h43, h49, fb, fx, w0, eN, ev1_eqv, qES0, qES1, qES2, env0, List.length_cons, List.length_nil, Nat.reduceAdd, Nat.reduceSub, List.replicate, List.cons_append, List.nil_append, opd, Env.put, Env.at, List.set_cons_zero, List.set_cons_succ, List.getD_cons_zero, List.getD_cons_succ, freezeL, resVs, oneOr, Option.map_some, Option.map_none, List.map_cons, List.map_nil, if_true, if_false, Bool.not_true, Bool.not_false, Bool.false_eq_true, reduceIte, decide_true, decide_false, Int.reduceLT, Int.reduceLE, Int.reduceGT, Int.reduceGE, Int.reduceEq, Int.reduceBEq, Int.reduceBNe, load_ptr, ldV_some, cellAt_cells, List.getElem?_cons_zero, List.getElem?_cons_succ, store_ptr, stO_some, setAt_0, setAt_1, setAt_2, setAt_3, setAt_4, setAt_5, setAt_6, setAt_7, setAt_8, setAt_9, setAt_10, setAt_11, setAt_12, cells_int, cells_bool, cells_str, cells_nils, cells_nilp, cells_ptr, cells_sl, cells_u8, cells_u16, cells_agg, get_upd_is, Option.isSome_some, upd_upd, ev1_nchkV, ev1_faV, nchkV_ptr, faV_ptr, ev1_extV, extV_tup, eqptr_nil, eqptr_ptr, Nat.zero_add, Nat.add_zero, qPL0, qPL1, qPL2, qPL3, qPL4, qPL5, beq_self_eq_true, qED0, qED1, placeR]
    rw [drawR_ok]; case h => simp (config := { decide := true }) [calm, calmPair, calmTwo, List.range, List.range.loop, sameO_refl, plg0, plg1, plg2, plg3, plg4, plg5, plg6, plg7, plg8, plg9, plg10, plg11, plg12, plg13]
    simp only [h21, w0, eN, ev1_eqv, qES0, qES1, qES2, env0, List.length_cons, List.length_nil, Nat.reduceAdd, Nat.reduceSub, List.replicate, List.cons_append, List.nil_append, opd, Env.put, Env.at, List.set_cons_zero, List.set_cons_succ, List.getD_cons_zero, List.getD_cons_succ, freezeL, resVs, oneOr, Option.map_some, Option.map_none, List.map_cons, List.map_nil, if_true, if_false, Bool.not_true, Bool.not_false, Bool.false_eq_true, reduceIte, decide_true, decide_false, Int.reduceLT, Int.reduceLE, Int.reduceGT, Int.reduceGE, Int.reduceEq, Int.reduceBEq, Int.reduceBNe, load_ptr, ldV_some, cellAt_cells, List.getElem?_cons_zero, List.getElem?_cons_succ, store_ptr, stO_some, setAt_0, setAt_1, setAt_2, setAt_3, setAt_4, setAt_5, setAt_6, setAt_7, setAt_8, setAt_9, setAt_10, setAt_11, setAt_12, cells_int, cells_bool, cells_str, cells_nils, cells_nilp, cells_ptr, cells_sl, cells_u8, cells_u16, cells_agg, get_upd_is, Option.isSome_some, upd_upd, ev1_nchkV, ev1_faV, nchkV_ptr, faV_ptr, ev1_extV, extV_tup, eqptr_nil, eqptr_ptr, Nat.zero_add, Nat.add_zero, qPL0, qPL1, qPL2, qPL3, qPL4, qPL5, beq_self_eq_true, qED0, qED1, placeR]
    rw [drawR_ok]; case h => simp (config := { decide := true }) [calm, calmPair, calmTwo, List.range, List.range.loop, sameO_refl, plg0, plg1, plg2, plg3, plg4, plg5, plg6, plg7, plg8, plg9, plg10, plg11, plg12, plg13]
    simp only [x42, x47, x46, x45, y47, z9, ln, ev1_eqv, qES0, qES1, qES2, env0, List.length_cons, List.length_nil, Nat.reduceAdd, Nat.reduceSub, List.replicate, List.cons_append, List.nil_append, opd, Env.put, Env.at, List.set_cons_zero, List.set_cons_succ, List.getD_cons_zero, List.getD_cons_succ, freezeL, resVs, oneOr, Option.map_some, Option.map_none, List.map_cons, List.map_nil, if_true, if_false, Bool.not_true, Bool.not_false, Bool.false_eq_true, reduceIte, decide_true, decide_false, Int.reduceLT, Int.reduceLE, Int.reduceGT, Int.reduceGE, Int.reduceEq, Int.reduceBEq, Int.reduceBNe, load_ptr, ldV_some, cellAt_cells, List.getElem?_cons_zero, List.getElem?_cons_succ, store_ptr, stO_some, setAt_0, setAt_1, setAt_2, setAt_3, setAt_4, setAt_5, setAt_6, setAt_7, setAt_8, setAt_9, setAt_10, setAt_11, setAt_12, cells_int, cells_bool, cells_str, cells_nils, cells_nilp, cells_ptr, cells_sl, cells_u8, cells_u16, cells_agg, get_upd_is, Option.isSome_some, upd_upd, ev1_nchkV, ev1_faV, nchkV_ptr, faV_ptr, ev1_extV, extV_tup, eqptr_nil, eqptr_ptr, Nat.zero_add, Nat.add_zero, qPL0, qPL1, qPL2, qPL3, qPL4, qPL5, beq_self_eq_true, qED0, qED1, placeR]
  | some f =>
    obtain ⟨hm, hB⟩ := gfr_some hg
    rw [hg] at h43 h49
    simp only at h43 h49
    have h46 := g46 998 f
    have h42 := g42 998 f
    rw [hm] at h42
    simp only [if_true] at h42
    have hbf := fr_b2s f hm
    rw [hB] at hbf
    have h9 := (eq9D f.pn f.pn).trans (congrArg some (show decide (f.pn = f.pn) = true by simp))
    have nn : binV .neq (.str bs) (.str bs) = some (.bool false) := by
      show some (AV.bool (!(bs == bs))) = _
      simp
    generalize f.pn = q at h49 h46 h9
    generalize f.bytes = BS at h42 hbf
    generalize 3 + f.body.length = N at h42 hbf
    have fz := fun s => f.ctl.freeze 0 s
    obtain ⟨seat2, count2, cmd2, c, body2⟩ := f
    obtain ⟨seat3, count3, cmd3, kind3, sort3, nr3, ns3, pf3, body3⟩ := q
    simp only [Fr.cells, Pn.cells] at h43 h49 h46 h42 h9 fz
    simp only [M7, h20, h48, h43, h49, h46, h9, fb, fx, fz, w0, eN, ev1_eqv, qES0, qES1, qES2, env0, List.length_cons, List.length_nil, Nat.reduceAdd, Nat.reduceSub, List.replicate, List.cons_append, List.nil_append, opd, Env.put, Env.at, List.set_cons_zero, List.set_cons_succ, List.getD_cons_zero, List.getD_cons_succ, freezeL, resVs, oneOr, Option.map_some, Option.map_none, List.map_cons, List.map_nil, if_true, if_false, Bool.not_true, Bool.not_false, Bool.false_eq_true, reduceIte, decide_true, decide_false, Int.reduceLT, Int.reduceLE, Int.reduceGT, Int.reduceGE, Int.reduceEq, Int.reduceBEq, Int.reduceBNe, load_ptr, ldV_some, cellAt_cells, List.getElem?_cons_zero, List.getElem?_cons_succ, store_ptr, stO_some, setAt_0, setAt_1, setAt_2, setAt_3, setAt_4, setAt_5, setAt_6, setAt_7, setAt_8, setAt_9, setAt_10, setAt_11, setAt_12, cells_int, cells_bool, cells_str, cells_nils, cells_nilp, cells_ptr, cells_sl, cells_u8, cells_u16, cells_agg, get_upd_is, Option.isSome_some, upd_upd, ev1_nchkV, ev1_faV, nchkV_ptr, faV_ptr, ev1_extV, extV_tup, eqptr_nil, eqptr_ptr, Nat.zero_add, Nat.add_zero, qPL0, qPL1, qPL2, qPL3, qPL4, qPL5, beq_self_eq_true, qED0, qED1, placeR]
    rw [drawR_ok]; case h => simp (config := { decide := true }) [calm, calmPair, calmTwo, List.range, List.range.loop, sameO_refl, plg0, plg1, plg2, plg3, plg4, plg5, plg6, plg7, plg8, plg9, plg10, plg11, plg12, plg13]
    simp only [h42, hbf, hb2, nn, h21, fz, fb, w0, eN, ev1_eqv, bkb, bk_convH, bkH_sl, qES0, qES1, qES2, env0, List.length_cons, List.length_nil, Nat.reduceAdd, Nat.reduceSub, List.replicate, List.cons_append, List.nil_append, opd, Env.put, Env.at, List.set_cons_zero, List.set_cons_succ, List.getD_cons_zero, List.getD_cons_succ, freezeL, resVs, oneOr, Option.map_some, Option.map_none, List.map_cons, List.map_nil, if_true, if_false, Bool.not_true, Bool.not_false, Bool.false_eq_true, reduceIte, decide_true, decide_false, Int.reduceLT, Int.reduceLE, Int.reduceGT, Int.reduceGE, Int.reduceEq, Int.reduceBEq, Int.reduceBNe, load_ptr, ldV_some, cellAt_cells, List.getElem?_cons_zero, List.getElem?_cons_succ, store_ptr, stO_some, setAt_0, setAt_1, setAt_2, setAt_3, setAt_4, setAt_5, setAt_6, setAt_7, setAt_8, setAt_9, setAt_10, setAt_11, setAt_12, cells_int, cells_bool, cells_str, cells_nils, cells_nilp, cells_ptr, cells_sl, cells_u8, cells_u16, cells_agg, get_upd_is, Option.isSome_some, upd_upd, ev1_nchkV, ev1_faV, nchkV_ptr, faV_ptr, ev1_extV, extV_tup, eqptr_nil, eqptr_ptr, Nat.zero_add, Nat.add_zero, qPL0, qPL1, qPL2, qPL3, qPL4, qPL5, beq_self_eq_true, qED0, qED1, placeR]
    rw [drawR_ok]; case h => simp (config := { decide := true }) [calm, calmPair, calmTwo, List.range, List.range.loop, sameO_refl, plg0, plg1, plg2, plg3, plg4, plg5, plg6, plg7, plg8, plg9, plg10, plg11, plg12, plg13]
    simp only [x42, x47, x46, x45, y47, z9, ln, ev1_eqv, qES0, qES1, qES2, env0, List.length_cons, List.length_nil, Nat.reduceAdd, Nat.reduceSub, List.replicate, List.cons_append, List.nil_append, opd, Env.put, Env.at, List.set_cons_zero, List.set_cons_succ, List.getD_cons_zero, List.getD_cons_succ, freezeL, resVs, oneOr, Option.map_some, Option.map_none, List.map_cons, List.map_nil, if_true, if_false, Bool.not_true, Bool.not_false, Bool.false_eq_true, reduceIte, decide_true, decide_false, Int.reduceLT, Int.reduceLE, Int.reduceGT, Int.reduceGE, Int.reduceEq, Int.reduceBEq, Int.reduceBNe, load_ptr, ldV_some, cellAt_cells, List.getElem?_cons_zero, List.getElem?_cons_succ, store_ptr, stO_some, setAt_0, setAt_1, setAt_2, setAt_3, setAt_4, setAt_5, setAt_6, setAt_7, setAt_8, setAt_9, setAt_10, setAt_11, setAt_12, cells_int, cells_bool, cells_str, cells_nils, cells_nilp, cells_ptr, cells_sl, cells_u8, cells_u16, cells_agg, get_upd_is, Option.isSome_some, upd_upd, ev1_nchkV, ev1_faV, nchkV_ptr, faV_ptr, ev1_extV, extV_tup, eqptr_nil, eqptr_ptr, Nat.zero_add, Nat.add_zero, qPL0, qPL1, qPL2, qPL3, qPL4, qPL5, beq_self_eq_true, qED0, qED1, placeR]
end Go.Proofs.YthcblggiojpmcaaDoor.frameAny
