/- TopShare: the pieces put together. No conditions. -/
import Derived.Test.YtgflghhffmjojaaGreatDoorSh0
set_option linter.unusedVariables false
set_option maxRecDepth 100000
namespace Go.Proofs.YtgflghhffmjojaaGreatDoor.share
open Go Go.Ab
noncomputable abbrev cv (c : MC) (e : Env) (s : St) : Out := evC tabGl (ev3 599) 599 c e s
noncomputable abbrev fv (c : MC) (E : List AV) (N : Nat) (B : List (Nat × Ab.Obj)) : FO := (cB tabGl 63 c).c 599 (fQ 599) (envK E 0) (mkS N B)
theorem live63 : M8b2l.length = 63 := by decide
theorem no_log {G : List AV → Prop} : ∀ a ∈ ([] : List (List AV)), G a := fun a h => by cases h
abbrev T0 : List AV → Prop := fun _ => True
theorem fv_sim (c : MC) {E : List AV} {N : Nat} {B : List (Nat × Ab.Obj)} {e : Env} {s : St} (h : RE 63 (envK E 0) e) : SimO T0 63 (mkS N B) s (fv c E N B) (cv c e s) :=
  code_sim (fQ_sim 599) 599 c _ e _ s h
theorem iter1 {k : Nat} {e e' : Env} {s s' : St} (h : cv M8b2 (maskE M8b2l e) s = some (.nrm, e', s')) : iter (cv M8b2) M8b2l (k + 1) e s = iter (cv M8b2) M8b2l k e' s' := by
  show seqR (cv M8b2 (maskE M8b2l e) s) (iter (cv M8b2) M8b2l k) = _
  rw [h]; rfl
theorem iter2 {k i : Nat} {e e' : Env} {s s' : St} (h : cv M8b2 (maskE M8b2l e) s = some (.exit i, e', s')) : iter (cv M8b2) M8b2l (k + 1) e s = some (.exit i, e', s') := by
  show seqR (cv M8b2 (maskE M8b2l e) s) (iter (cv M8b2) M8b2l k) = _
  rw [h]; rfl
/-- What is behind the slot: two rounds. -/
theorem tail {Eb E0 E1 E2 E3 Ed : List AV} {Nb N0 N1 N2 N3 Nd : Nat} {Bb B0 B1 B2 B3 Bd : List (Nat × Ab.Obj)}
    (hq : (fv (.seq c6 c7) Eb Nb Bb).seenK M8b2l 63 (B0.map (·.1)) = some (.nrm, E0, N0, B0.map (fun p => some p.2), []))
    (h0 : (fv M8b2 E0 N0 B0).seenK M8b2l 63 (B1.map (·.1)) = some (.nrm, E1, N1, B1.map (fun p => some p.2), []))
    (h1 : (fv M8b2 E1 N1 B1).seenK M8b2l 63 (B2.map (·.1)) = some (.nrm, E2, N2, B2.map (fun p => some p.2), []))
    (h2 : (fv M8b2 E2 N2 B2).seen 63 (B3.map (·.1)) = some (.exit 0, E3, N3, B3.map (fun p => some p.2), []))
    (h3 : (fv cE E3 N3 B3).seen 63 (Bd.map (·.1)) = some (.ret, Ed, Nd, Bd.map (fun p => some p.2), []))
    (hd : (rdN 4).f (envK Ed 0) = .bool true) {e : Env} {s : St} (hE : RE 63 (envK Eb 0) e) (hS : RS (mkS Nb Bb) s) :
    ∃ e' s', seqR (cv (.seq c6 c7) e s) (fun e s => seqR (blockR 0 (iter (cv M8b2) M8b2l 599 e s)) (cv cE)) = some (.ret, e', s') ∧ e'.at 4 = .bool true := by
  obtain ⟨e0, s0, q0, r0, t0⟩ := seenK_use (fv_sim (.seq c6 c7) hE) live63 hq no_log hS
  obtain ⟨e1, s1, q1, r1, t1⟩ := seenK_use (fv_sim M8b2 r0) live63 h0 no_log t0
  obtain ⟨e2, s2, q2, r2, t2⟩ := seenK_use (fv_sim M8b2 r1) live63 h1 no_log t1
  obtain ⟨e3, s3, q3, r3, t3⟩ := seen_use (fv_sim M8b2 r2) h2 no_log t2
  obtain ⟨e4, s4, q4, r4, t4⟩ := seen_use (fv_sim cE r3) h3 no_log t3
  refine ⟨e4, s4, ?_, by rw [← r4.at_ 4 (by omega)]; exact hd⟩
  rw [q0]
  show seqR (blockR 0 (iter (cv M8b2) M8b2l (598 + 1) e0 s0)) (cv cE) = _
  rw [iter1 q1, show (598 : Nat) = 597 + 1 from rfl, iter1 q2, show (597 : Nat) = 596 + 1 from rfl, iter2 q3]
  exact q4
theorem RE.vals {E : FE} {e : Env} (h : RE 63 E e) {vals : List AV} (hv : (List.range 63).map (FE.at E) = vals) : RE 63 (envK vals 0) e := by
  refine ⟨h.len, h.le, fun i hi => ?_⟩
  have hvl : vals.length = 63 := by rw [← hv]; simp
  rw [envK_at vals 0 i (by omega) hi, if_pos (Nat.zero_le _), Nat.sub_zero, List.getD_eq_getElem?_getD, ← hv, List.getElem?_map]
  by_cases hin : i < 63
  · rw [List.getElem?_range hin]
    exact h.fe i
  · rw [List.getElem?_eq_none (by simp; omega)]
    exact (at_ge (by rw [h.len]; omega)).symm
theorem c5_eq : c5 = .reg [⟨some 19, .mv (.s 0), none⟩, ⟨some 20, .bin .rem (.s 19) (.c (.int .u32 8)), none⟩, ⟨some 0, .mv (.s 20), none⟩] := rfl
/-- The slot. -/
theorem slot_ev {E : FE} {e : Env} {s : St} (h : RE 63 E e) {x : Int} (hx : e.at 0 = .int .u32 x) :
    ∃ e', cv c5 e s = some (.nrm, e', s) ∧ RE 63 ((wrN 0).f (.int .u32 (x.tmod 8)) ((wrN 20).f (.int .u32 (x.tmod 8)) ((wrN 19).f (.int .u32 x) E))) e' := by
  have h1 := h.put (d := 19) (by omega) (.int .u32 x)
  have h2 := h1.put (d := 20) (by omega) (.int .u32 (x.tmod 8))
  have h3 := h2.put (d := 0) (by omega) (.int .u32 (x.tmod 8))
  refine ⟨_, ?_, h3⟩
  have g19 : (e.put (some 19) (.int .u32 x)).at 19 = .int .u32 x := by rw [← h1.at_ 19 (by omega), rd_wr (by omega) (by omega), if_pos rfl]
  have g20 : ((e.put (some 19) (.int .u32 x)).put (some 20) (.int .u32 (x.tmod 8))).at 20 = .int .u32 (x.tmod 8) := by rw [← h2.at_ 20 (by omega), rd_wr (by omega) (by omega), if_pos rfl]
  rw [c5_eq]
  have b1 : binV .rem (.int .u32 x) (.int .u32 8) = some (.int .u32 (x.tmod 8)) := rfl
  simp only [cv, evC, regR, evOps, guardR, opR, ev1, evP, opd, hx, g19, b1, g20]
theorem ev3_8 (args : List AV) (s : St) : ev3 600 8 args s = outR M8.res (evC tabGl (ev3 599) 599 M8.body (env0 63 args) s) := by
  have h : ext3 8 = none := by
    rw [ext3_eq]
    show (if (8 : Nat) = 135 then some pMay else (if (8 : Nat) = 38 then some pFine else ext2 8)) = none
    rw [if_neg (by decide), if_neg (by decide)]
    unfold ext2
    rw [if_neg (by decide), if_neg (by decide)]
    unfold ext1
    rw [if_neg (by decide), if_neg (by decide)]
    exact if_neg (by decide)
  show evF tabGl (tableOf Tryz.prog) ext3 (599 + 1) 8 args s = _
  simp only [evF, h, tab8]
  rfl
theorem nilS : RS FS.nil St.nil := ⟨rfl, (fun b x h => by have h : (hgN b).f .nil = some x := h; rw [at_nilH] at h; cases h), fun j _ => rfl, (fun b x h => by have h : (hgN b).f .nil = some x := h; rw [at_nilH] at h; cases h)⟩
theorem body_eq : M8.body = .seq c0 (.seq c1 (.seq c2 (.seq c3 (.seq c4 (.seq c5 (.seq c6 (.seq (.seq c7 (.block 0 (.loop M8b2l M8b2))) cE))))))) := rfl
/-- All of it, given what is behind the slot. -/
theorem all_ev (x ob os ow oz ot : Int) (ht : ∀ e s, RE 63 ((wrN 0).f (.int .u32 (x.tmod 8)) ((wrN 20).f (.int .u32 (x.tmod 8)) ((wrN 19).f (.int .u32 x) (envK (EB x ob os ow oz ot) 0)))) e → RS (mkS 5038 (BB x ob os ow oz ot)) s →
      ∃ e' s', seqR (cv (.seq c6 c7) e s) (fun e s => seqR (blockR 0 (iter (cv M8b2) M8b2l 599 e s)) (cv cE)) = some (.ret, e', s') ∧ e'.at 4 = .bool true) :
    ∃ s', ev3 600 8 [.int .u32 x, .agg [.int .i64 ob, .int .i64 os, .int .i64 ow, .int .i64 oz, .int .i64 ot]] St.nil = some (.bool true, s') := by
  rw [ev3_8, body_eq]
  have hE0 : RE 63 (envK [.int .u32 x, .agg [.int .i64 ob, .int .i64 os, .int .i64 ow, .int .i64 oz, .int .i64 ot]] 0) (env0 63 [.int .u32 x, .agg [.int .i64 ob, .int .i64 os, .int .i64 ow, .int .i64 oz, .int .i64 ot]]) := env_ok (by simp) (by omega)
  obtain ⟨e1, s1, q1, r1, t1⟩ := seen_use (code_sim (fQ_sim (G := T0) 599) 599 (.seq c0 c1) _ _ _ _ hE0) (pA x ob os ow oz ot) no_log nilS
  obtain ⟨e2, s2, q2, r2, t2⟩ := seen_use (code_sim (fQo_sim 599) 599 (.seq (.seq c2 c3) c4) _ _ _ _ r1) (pB x ob os ow oz ot) (fun a ha => by
    have : a = [.agg [.int .i64 (or1 (andI ob 15)), .int .i64 (or1 (andI os 7)), .int .i64 (mx1 (andI ow 127)), .int .i64 (mx1 (andI oz 15)), .int .i64 (mx1 (andI ot 7))]] := by
      simp only [List.mem_cons, List.not_mem_nil, or_false] at ha
      rcases ha with h | h | h <;> exact h
    exact ⟨_, _, _, _, _, this, fine_may ob os ow oz ot⟩) t1
  have q1 : cv (.seq c0 c1) _ _ = _ := q1
  have q2 : cv (.seq (.seq c2 c3) c4) _ _ = _ := q2
  obtain ⟨e3, q3, r3⟩ := slot_ev (s := s2) r2 (x := x) (by rw [← r2.at_ 0 (by omega)]; rfl)
  obtain ⟨e4, s4, q4, hv⟩ := ht e3 s2 r3 t2
  have e : evC tabGl (ev3 599) 599 (.seq c0 (.seq c1 (.seq c2 (.seq c3 (.seq c4 (.seq c5 (.seq c6 (.seq (.seq c7 (.block 0 (.loop M8b2l M8b2))) cE)))))))) (env0 63 [.int .u32 x, .agg [.int .i64 ob, .int .i64 os, .int .i64 ow, .int .i64 oz, .int .i64 ot]]) St.nil = some (.ret, e4, s4) := by
    have a1 : ∀ (a b c : MC) (e : Env) (s : St), cv (.seq a (.seq b c)) e s = seqR (cv (.seq a b) e s) (cv c) := fun a b c e s => (seqR_assoc (cv a e s) (cv b) (cv c)).symm
    show cv _ _ _ = _
    rw [a1, q1]
    show cv (.seq c2 (.seq c3 (.seq c4 (.seq c5 (.seq c6 (.seq (.seq c7 (.block 0 (.loop M8b2l M8b2))) cE)))))) e1 s1 = _
    rw [a1, show seqR (cv (.seq c2 c3) e1 s1) (cv (.seq c4 (.seq c5 (.seq c6 (.seq (.seq c7 (.block 0 (.loop M8b2l M8b2))) cE))))) = cv (.seq (.seq c2 c3) (.seq c4 (.seq c5 (.seq c6 (.seq (.seq c7 (.block 0 (.loop M8b2l M8b2))) cE))))) e1 s1 from rfl, a1, q2]
    show seqR (cv c5 e2 s2) (cv (.seq c6 (.seq (.seq c7 (.block 0 (.loop M8b2l M8b2))) cE))) = _
    rw [q3]
    show cv (.seq c6 (.seq (.seq c7 (.block 0 (.loop M8b2l M8b2))) cE)) e3 s2 = _
    have a2 : cv (.seq c6 (.seq (.seq c7 (.block 0 (.loop M8b2l M8b2))) cE)) e3 s2 = seqR (cv (.seq c6 c7) e3 s2) (fun e s => seqR (blockR 0 (iter (cv M8b2) M8b2l 599 e s)) (cv cE)) := by
      show seqR (cv c6 e3 s2) (fun e s => seqR (seqR (cv c7 e s) (fun e s => blockR 0 (iter (cv M8b2) M8b2l 599 e s))) (cv cE)) = seqR (seqR (cv c6 e3 s2) (cv c7)) _
      rw [seqR_assoc]
      congr 1
    rw [a2]
    exact q4
  rw [e]
  exact ⟨s4, by show (match resVs e4 s4 [.tmp 0 4] with | some (vs, s') => some (oneOr vs, s') | none => none) = _; simp only [resVs, resV, hv, Ab.freeze, oneOr]⟩
end Go.Proofs.YtgflghhffmjojaaGreatDoor.share
