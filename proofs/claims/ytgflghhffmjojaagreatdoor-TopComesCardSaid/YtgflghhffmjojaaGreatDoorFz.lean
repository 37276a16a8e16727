/- A run cut into pieces: what is seen at a piece's end, and that it is enough. No conditions. -/
import Derived.Test.YtgflghhffmjojaaGreatDoorFy
set_option linter.unusedSimpArgs false
set_option linter.unusedVariables false
set_option maxRecDepth 100000
namespace Go.Ab
open Go
/-- What is seen of a piece's end: how it ended, slots, the next block's number, some blocks, what was taken for granted. -/
abbrev Seen := Option (Ex × List AV × Nat × List (Option Obj) × List (List AV))
noncomputable def seenOf (x : Ex) (E : FE) (S : FS) (n : Nat) (bs : List Nat) : Seen := some (x, (List.range n).map (FE.at E), S.nx, bs.map (fun b => (S.at b).map FB.o), S.log)
noncomputable def FO.seen (r : FO) (n : Nat) (bs : List Nat) : Seen := @FO.rec (fun _ => Seen) none (fun E S => seenOf .nrm E S n bs) (fun i E S => seenOf (.exit i) E S n bs) (fun E S => seenOf .ret E S n bs) r
noncomputable def mkH (l : List (Nat × Obj)) : Tr FB := @List.rec (Nat × Obj) (fun _ => Tr FB) .nil (fun p _ ih => (hpN p.1).f ⟨p.2, 0⟩ ih) l
noncomputable def mkS (N : Nat) (l : List (Nat × Obj)) : FS := ⟨mkH l, N, 1, []⟩
theorem at_nilH (b : Nat) : (hgN b).f .nil = none := by
  unfold hgN
  rw [hgF_f]
  have : ∀ p : List D8, getP p .nil = none := by
    intro p
    induction p with
    | nil => rfl
    | cons d p ih => show getP p (chB d .nil) = none; cases d <;> exact ih
  exact this _
theorem mkS_at (N : Nat) : ∀ (l : List (Nat × Obj)) (b : Nat) (x : FB), (mkS N l).at b = some x → x.t = 0 ∧ (b, x.o) ∈ l := by
  intro l
  induction l with
  | nil => intro b x h; have h : (hgN b).f .nil = some x := h; rw [at_nilH] at h; cases h
  | cons p l ih =>
    intro b x h
    have h : (hgN b).f ((hpN p.1).f ⟨p.2, 0⟩ (mkH l)) = some x := h
    rw [hg_hp] at h
    split at h
    · rename_i e
      cases h
      exact ⟨rfl, by rw [e]; simp⟩
    · obtain ⟨h1, h2⟩ := ih b x h
      exact ⟨h1, List.mem_cons_of_mem _ h2⟩
theorem mkS_ok {S : FS} {s : St} (h : RS S s) {N : Nat} (hN : S.nx = N) {l : List (Nat × Obj)} (hl : ∀ p ∈ l, (S.at p.1).map FB.o = some p.2) : RS (mkS N l) s := by
  refine ⟨hN.symm.trans h.nx, fun b x hx => ?_, h.wf, fun b x hx => ?_⟩
  · obtain ⟨_, h2⟩ := mkS_at N l b x hx
    obtain ⟨y, h3, h4⟩ := Option.map_eq_some_iff.1 (hl _ h2)
    rw [h.at_ b y h3, h4]
  · rw [(mkS_at N l b x hx).1]; exact Nat.zero_lt_one
theorem map_at {α β : Type} {f : α → β} {g : α → β} {l : List α} (h : l.map f = l.map g) : ∀ p ∈ l, f p = g p := by
  induction l with
  | nil => intro p hp; cases hp
  | cons a l ih =>
    simp only [List.map_cons, List.cons.injEq] at h
    intro p hp
    rcases List.mem_cons.1 hp with rfl | hp
    · exact h.1
    · exact ih h.2 p hp
theorem seen_use {G : List AV → Prop} {n : Nat} {S : FS} {s : St} {r : FO} {q : Out} (h : SimO G n S s r q) {x : Ex} {vals : List AV} {N : Nat} {l : List (Nat × Obj)} {log : List (List AV)}
    (hs : r.seen n (l.map (·.1)) = some (x, vals, N, l.map (fun p => some p.2), log)) (hG : ∀ a ∈ log, G a) (hS : RS S s) :
    ∃ e' s', q = some (x, e', s') ∧ RE n (envK vals 0) e' ∧ RS (mkS N l) s' := by
  have key : ∀ (y : Ex) (E' : FE) (S' : FS), seenOf y E' S' n (l.map (·.1)) = some (x, vals, N, l.map (fun p => some p.2), log) → (GoodL G S' → RS S s → ∃ e' s', q = some (y, e', s') ∧ RE n E' e' ∧ RS S' s') →
      ∃ e' s', q = some (x, e', s') ∧ RE n (envK vals 0) e' ∧ RS (mkS N l) s' := by
    intro y E' S' hs h2
    simp only [seenOf, Option.some.injEq, Prod.mk.injEq, List.map_map] at hs
    obtain ⟨rfl, hv, hN, hl, rfl⟩ := hs
    obtain ⟨e', s', q1, q2, q3⟩ := h2 hG hS
    refine ⟨e', s', q1, ⟨q2.len, q2.le, fun i hi => ?_⟩, mkS_ok q3 hN (map_at hl)⟩
    have hvl : vals.length = n := by rw [← hv]; simp
    have hle := q2.le
    rw [envK_at vals 0 i (by omega) hi, if_pos (Nat.zero_le _), Nat.sub_zero, List.getD_eq_getElem?_getD, ← hv, List.getElem?_map]
    by_cases hin : i < n
    · rw [List.getElem?_range hin]
      exact q2.fe i
    · rw [List.getElem?_eq_none (by simp; omega)]
      exact (at_ge (by rw [q2.len]; omega)).symm
  cases r with
  | bad => cases hs
  | nrm E' S' => exact key .nrm E' S' hs h.2.2
  | exit i E' S' => exact key (.exit i) E' S' hs h.2.2
  | ret E' S' => exact key .ret E' S' hs h.2.2
/-- The same, of what lives on alone. -/
noncomputable def FO.seenK (r : FO) (live : List Bool) (n : Nat) (bs : List Nat) : Seen := @FO.rec (fun _ => Seen) none (fun E S => seenOf .nrm (keepE E live) S n bs) (fun i E S => seenOf (.exit i) (keepE E live) S n bs) (fun E S => seenOf .ret (keepE E live) S n bs) r
theorem seenK_use {G : List AV → Prop} {n : Nat} {S : FS} {s : St} {r : FO} {q : Out} (h : SimO G n S s r q) {live : List Bool} (hlive : live.length = n) {x : Ex} {vals : List AV} {N : Nat} {l : List (Nat × Obj)} {log : List (List AV)}
    (hs : r.seenK live n (l.map (·.1)) = some (x, vals, N, l.map (fun p => some p.2), log)) (hG : ∀ a ∈ log, G a) (hS : RS S s) :
    ∃ e' s', q = some (x, e', s') ∧ RE n (envK vals 0) (maskE live e') ∧ RS (mkS N l) s' := by
  have key : ∀ (y : Ex) (E' : FE) (S' : FS), seenOf y (keepE E' live) S' n (l.map (·.1)) = some (x, vals, N, l.map (fun p => some p.2), log) → (GoodL G S' → RS S s → ∃ e' s', q = some (y, e', s') ∧ RE n E' e' ∧ RS S' s') →
      ∃ e' s', q = some (x, e', s') ∧ RE n (envK vals 0) (maskE live e') ∧ RS (mkS N l) s' := by
    intro y E' S' hs h2
    simp only [seenOf, Option.some.injEq, Prod.mk.injEq, List.map_map] at hs
    obtain ⟨rfl, hv, hN, hl, rfl⟩ := hs
    obtain ⟨e', s', q1, q2, q3⟩ := h2 hG hS
    have q2 := keep_ok (l := live) q2 hlive
    refine ⟨e', s', q1, ⟨q2.len, q2.le, fun i hi => ?_⟩, mkS_ok q3 hN (map_at hl)⟩
    have hvl : vals.length = n := by rw [← hv]; simp
    have hle := q2.le
    rw [envK_at vals 0 i (by omega) hi, if_pos (Nat.zero_le _), Nat.sub_zero, List.getD_eq_getElem?_getD, ← hv, List.getElem?_map]
    by_cases hin : i < n
    · rw [List.getElem?_range hin]
      exact q2.fe i
    · rw [List.getElem?_eq_none (by simp; omega)]
      exact (at_ge (by rw [q2.len]; omega)).symm
  cases r with
  | bad => cases hs
  | nrm E' S' => exact key .nrm E' S' hs h.2.2
  | exit i E' S' => exact key (.exit i) E' S' hs h.2.2
  | ret E' S' => exact key .ret E' S' hs h.2.2
theorem mask_mask : ∀ (l : List Bool) (e : Env), maskE l (maskE l e) = maskE l e := by
  intro l
  induction l with
  | nil => intro e; cases e <;> rfl
  | cons b l ih => intro e; cases e with
    | nil => rfl
    | cons v e => simp only [maskE, ih]; cases b <;> rfl
theorem seqR_assoc (a : Out) (f g : Env → St → Out) : seqR (seqR a f) g = seqR a fun e s => seqR (f e s) g := by
  cases a with
  | none => rfl
  | some p => obtain ⟨x, e, s⟩ := p; cases x <;> rfl
end Go.Ab
