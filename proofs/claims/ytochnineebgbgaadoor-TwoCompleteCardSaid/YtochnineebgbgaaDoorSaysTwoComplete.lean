/- What the evaluator says of the law TwoComplete: true. No conditions. -/
import Derived.Test.YtochnineebgbgaaDoorTc
import Derived.Test.YtochnineebgbgaaDoorPlainT12
namespace Go.Proofs.YtochnineebgbgaaDoor.twoComplete
open Go Go.Ab
set_option linter.unusedVariables false
set_option linter.unusedSimpArgs false
set_option maxRecDepth 100000 in
set_option maxHeartbeats 8000000 in
theorem says (as0 : List Ab.AV) (hs0 : Ab.ScL Tryd.prog dealTypes as0) (as1 : List Ab.AV) (hs1 : Ab.ScL Tryd.prog dealTypes as1) (x2 : Ab.AV) (z2 : List (List Ab.AV)) (hx2 : IsSteps x2 z2) : Ab.saysTrue (evO 1000 14 [.agg as0, .agg as1, x2] Ab.St.nil) = true := by
  obtain ⟨baud, silent, win, size, wait, rfl⟩ := deal_of hs0
  obtain ⟨baud', silent', win', size', wait', rfl⟩ := deal_of hs1
  have h21 := o21 998
  have hcl := clampW_le win
  have hcl' := clampW_le win'
  obtain ⟨W, hW⟩ : ∃ W : Nat, clampW win = (W : Int) := ⟨(clampW win).toNat, by omega⟩
  obtain ⟨V, hV⟩ : ∃ V : Nat, clampW win' = (V : Int) := ⟨(clampW win').toNat, by omega⟩
  have A0 : Apart St.nil [] := Apart.nil (fun _ _ => rfl)
  have A1 := A0.new (.cells 0 [.int .i64 baud, .int .i64 silent, .int .i64 win, .int .i64 40, .int .i64 wait])
  have A2 := A1.new (.cells 0 [.int .i64 baud', .int .i64 silent', .int .i64 win', .int .i64 40, .int .i64 wait'])
  have A3 := A2.new (.cells 0 [.nilp, .nilp])
  rw [show ((St.nil.new (.cells 0 [.int .i64 baud, .int .i64 silent, .int .i64 win, .int .i64 40, .int .i64 wait])).new (.cells 0 [.int .i64 baud', .int .i64 silent', .int .i64 win', .int .i64 40, .int .i64 wait'])).new (.cells 0 [.nilp, .nilp]) = St.nil.pl [.cells 0 [.int .i64 baud, .int .i64 silent, .int .i64 win, .int .i64 40, .int .i64 wait], .cells 0 [.int .i64 baud', .int .i64 silent', .int .i64 win', .int .i64 40, .int .i64 wait'], .cells 0 [.nilp, .nilp]] from rfl] at A3
  rw [show (St.nil.new (.cells 0 [.int .i64 baud, .int .i64 silent, .int .i64 win, .int .i64 40, .int .i64 wait])).next = St.nil.next + 1 from rfl, show ((St.nil.new (.cells 0 [.int .i64 baud, .int .i64 silent, .int .i64 win, .int .i64 40, .int .i64 wait])).new (.cells 0 [.int .i64 baud', .int .i64 silent', .int .i64 win', .int .i64 40, .int .i64 wait'])).next = St.nil.next + 2 from rfl] at A3
  obtain ⟨S1, ta, oa, ia, c1, A4⟩ := A3.newTurn 1 (.inl rfl) baud silent win 40 wait 40 rfl W hW
  obtain ⟨S2, tb, ob, ib, c2, A5⟩ := A4.newTurn 2 (.inr rfl) baud' silent' win' 40 wait' 40 rfl V hV
  have gA := (A4.get (b := St.nil.next) (o := .cells 0 [.int .i64 baud, .int .i64 silent, .int .i64 win, .int .i64 40, .int .i64 wait]) (by simp)).1
  have gB := (A4.get (b := St.nil.next + 1) (o := .cells 0 [.int .i64 baud', .int .i64 silent', .int .i64 win', .int .i64 40, .int .i64 wait']) (by simp)).1
  have gT1 := (A4.get (b := St.nil.next + 2) (o := .cells 0 [.nilp, .nilp]) (by simp)).1
  have gT := (A5.get (b := St.nil.next + 2) (o := .cells 0 [.nilp, .nilp]) (by simp)).1
  have A6 : Apart S2 [turnPart ta oa ia 40 W (tn0 1), turnPart tb ob ib 40 V (tn0 2), cellPart (St.nil.next + 2) (.cells 0 [.nilp, .nilp])] := A5.swap.take 3
  have A7 : Apart (S2.upd (St.nil.next + 2) (cT ta tb)) [turnPart ta oa ia 40 W (tn0 1), turnPart tb ob ib 40 V (tn0 2), cellPart (St.nil.next + 2) (cT ta tb)] := Apart.updAt (l1 := [turnPart ta oa ia 40 W (tn0 1), turnPart tb ob ib 40 V (tn0 2)]) (l2 := []) A6 (cT ta tb)
  obtain ⟨S3, hS3⟩ : ∃ S3, S2.upd (St.nil.next + 2) (cT ta tb) = S3 := ⟨_, rfl⟩
  rw [hS3] at A7
  have g3 := (A7.get (b := St.nil.next + 2) (o := cT ta tb) (by simp)).1
  have A8 := A7.new (cN 0 0)
  have A9 := A8.new (cN 0 0)
  have H : Tc (S3.pl [cN 0 0, cN 0 0]) W V ta oa ia tb ob ib (St.nil.next + 2) S3.next (S3.next + 1) ⟨tn0 1, tn0 2, 0, 0, 0, 0⟩ :=
    A9.perm ((List.perm_append_comm (l₁ := [cellPart (S3.next + 1) (cN 0 0), cellPart S3.next (cN 0 0)]) (l₂ := [turnPart ta oa ia 40 W (tn0 1), turnPart tb ob ib 40 V (tn0 2), cellPart (St.nil.next + 2) (cT ta tb)])).trans (List.Perm.append_left [turnPart ta oa ia 40 W (tn0 1), turnPart tb ob ib 40 V (tn0 2), cellPart (St.nil.next + 2) (cT ta tb)] (List.Perm.swap (cellPart S3.next (cN 0 0)) (cellPart (S3.next + 1) (cN 0 0)) [])))
  have key := firstT x2 z2 hx2 (S3.pl [cN 0 0, cN 0 0]) W V (by omega) (by omega) (by omega) (by omega) ta oa ia tb ob ib (St.nil.next + 2) S3.next (S3.next + 1) _ (inv_start W V) ⟨Nat.zero_le _, Nat.zero_le _, Nat.zero_le _, Nat.zero_le _⟩ H
  have hx : ∀ b o, eqAV .ptr (.ptr b o) .nilp = some false := fun _ _ => rfl
  have ix0 : ixpV 2 1 (.ptr (St.nil.next + 2) 0) (.int .i64 0) = some (.ptr (St.nil.next + 2) 0) := rfl
  have ix1 : ixpV 2 1 (.ptr (St.nil.next + 2) 0) (.int .i64 1) = some (.ptr (St.nil.next + 2) 1) := rfl
  have fl0 : ∀ a b c d, fill1 [a, b] 0 1 (.ptr c d) = some [.ptr c d, b] := fun a b c d => fill1_c _ _ _ rfl (by simp)
  have fl1 : ∀ a b c d, fill1 [a, b] 1 1 (.ptr c d) = some [a, .ptr c d] := fun a b c d => fill1_c _ _ _ rfl (by simp)
  rw [show (1000 : Nat) = 999 + 1 from rfl, evO_in rfl tab14]
  suffices hv : valR (outR M14.res (evC tabGl (evO 999) 999 M14.body (env0 M14.ntmps [.agg [.int .i64 baud, .int .i64 silent, .int .i64 win, .int .i64 size, .int .i64 wait], .agg [.int .i64 baud', .int .i64 silent', .int .i64 win', .int .i64 size', .int .i64 wait'], x2]) (St.nil.pl []))) = some (.bool true) by
    obtain ⟨v0, s', h1, h2⟩ := valR_of hv
    have : v0 = .bool true := by
      cases v0 with
      | bool b => exact h2
      | tup l => cases h2
      | _ => cases h2
    rw [this] at h1
    exact (congrArg Ab.saysTrue h1)
  unfold cT at g3 hS3
  unfold cN at key
  simp only [M14, h21, ev1_boxV, boxV_some, c1, gA, gB, c2, gT, hS3, fl0, fl1, evC_loop, qES0, qES1, qES2, env0, List.length_cons, List.length_nil, Nat.reduceAdd, Nat.reduceSub, List.replicate, List.cons_append, List.nil_append, opd, Env.put, Env.at, List.set_cons_zero, List.set_cons_succ, List.getD_cons_zero, List.getD_cons_succ, freezeL, resVs, oneOr, Option.map_some, Option.map_none, List.map_cons, List.map_nil, if_true, if_false, Bool.not_true, Bool.not_false, Bool.false_eq_true, reduceIte, decide_true, decide_false, Int.reduceLT, Int.reduceLE, Int.reduceGT, Int.reduceGE, Int.reduceEq, Int.reduceBEq, Int.reduceBNe, load_ptr, ldV_some, cellAt_cells, List.getElem?_cons_zero, List.getElem?_cons_succ, store_ptr, stO_some, setAt_0, setAt_1, setAt_2, setAt_3, setAt_4, setAt_5, setAt_6, setAt_7, setAt_8, setAt_9, setAt_10, setAt_11, setAt_12, cells_int, cells_bool, cells_str, cells_nils, cells_nilp, cells_ptr, cells_sl, cells_u8, cells_u16, cells_agg, get_upd_is, Option.isSome_some, upd_upd, ev1_nchkV, ev1_faV, nchkV_ptr, faV_ptr, ev1_extV, extV_tup, eqptr_nil, eqptr_ptr, Nat.zero_add, Nat.add_zero, qPL0, qPL1, qPL2, qPL3, qPL4, qPL5, beq_self_eq_true, qED0, qED1, placeR]
  rw [drawR_ok]; case h => simp (config := {decide := true}) [calm, calmPair, calmTwo, List.range, List.range.loop, sameO_refl, plg0, plg1, plg2, gA, gB, gT, gT1]
  simp only [g3, hS3, ix0, ix1, hx, ev1_ixpV, ev1_eqv, eqptr_ptr, evC_loop, qES0, qES1, qES2, env0, List.length_cons, List.length_nil, Nat.reduceAdd, Nat.reduceSub, List.replicate, List.cons_append, List.nil_append, opd, Env.put, Env.at, List.set_cons_zero, List.set_cons_succ, List.getD_cons_zero, List.getD_cons_succ, freezeL, resVs, oneOr, Option.map_some, Option.map_none, List.map_cons, List.map_nil, if_true, if_false, Bool.not_true, Bool.not_false, Bool.false_eq_true, reduceIte, decide_true, decide_false, Int.reduceLT, Int.reduceLE, Int.reduceGT, Int.reduceGE, Int.reduceEq, Int.reduceBEq, Int.reduceBNe, load_ptr, ldV_some, cellAt_cells, List.getElem?_cons_zero, List.getElem?_cons_succ, store_ptr, stO_some, setAt_0, setAt_1, setAt_2, setAt_3, setAt_4, setAt_5, setAt_6, setAt_7, setAt_8, setAt_9, setAt_10, setAt_11, setAt_12, cells_int, cells_bool, cells_str, cells_nils, cells_nilp, cells_ptr, cells_sl, cells_u8, cells_u16, cells_agg, get_upd_is, Option.isSome_some, upd_upd, ev1_nchkV, ev1_faV, nchkV_ptr, faV_ptr, ev1_extV, extV_tup, eqptr_nil, eqptr_ptr, Nat.zero_add, Nat.add_zero, qPL0, qPL1, qPL2, qPL3, qPL4, qPL5, beq_self_eq_true, qED0, qED1, placeR]
  exact key _ rfl
end Go.Proofs.YtochnineebgbgaaDoor.twoComplete
