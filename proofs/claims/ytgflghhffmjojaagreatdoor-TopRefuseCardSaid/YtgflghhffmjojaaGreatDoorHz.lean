/- The quick evaluator with unknowns: what is written down of functions, what was said, whole runs. No conditions. -/
import Derived.Test.YtgflghhffmjojaaGreatDoorHo
import Derived.Test.YtgflghhffmjojaaGreatDoorAbX
set_option linter.unusedSimpArgs false
set_option linter.unusedVariables false
set_option linter.unusedSectionVars false
set_option maxRecDepth 100000
namespace Go.Ab
open Go
/-! ### What is written down of functions -/
/-- Without its ticket. -/
def dryF : AV → AV
  | .sl cs n _ => .sl cs n none
  | .clo f [.hs z b v w] => if Nat.ble bigN f then .clo f [] else .clo f [.hs z b v w]
  | v => v
theorem dry_sv (g : Sg) (v : AV) : dry1 (sv g v) = sv g (dryF v) := by
  have leaf : ∀ i, dry1 (g.L i) = g.L i := fun i => by
    have := g.ok i
    cases hq : g.L i <;> first | rfl | skip
    rename_i cs n tk
    rw [hq] at this
    cases tk with
    | none => rfl
    | some t => cases this
  cases v <;> first | rfl | skip
  rename_i f cs
  by_cases hf : f < bigN
  · have hb : Nat.ble bigN f = false := by
      cases h : Nat.ble bigN f with
      | false => rfl
      | true => exact absurd (Nat.le_of_ble_eq_true h) (by omega)
    have : dryF (.clo f cs) = .clo f cs := by
      unfold dryF
      split <;> first | rfl | skip
      · rename_i h; cases h
      · rename_i h
        cases h
        rw [hb]; rfl
    rw [this]
    simp only [sv, if_pos hf]; rfl
  · have hb : Nat.ble bigN f = true := le_ble (by omega)
    have e : ∀ l, sv g (.clo f l) = lfT g (g.L (f - bigN)) l := fun l => by simp only [sv, if_neg hf]
    have noT : ∀ l, (∀ z b u w, l ≠ [.hs z b u w]) → lfT g (g.L (f - bigN)) l = g.L (f - bigN) := by
      intro l hl
      unfold lfT
      split
      · exact absurd rfl (hl _ _ _ _)
      · rfl
    by_cases hc : ∃ z b u w, cs = [.hs z b u w]
    · obtain ⟨z, b, u, w, rfl⟩ := hc
      have h1 : dryF (.clo f [.hs z b u w]) = .clo f [] := by simp only [dryF, hb, if_true]
      rw [h1, e, e, noT [] (fun _ _ _ _ h => by cases h)]
      have := g.ok (f - bigN)
      cases hq : g.L (f - bigN) <;> rw [hq] at this <;> first | rfl | skip
      rename_i c2 n tk
      cases tk with
      | none => rfl
      | some t => cases this
    · have hc' : ∀ z b u w, cs ≠ [.hs z b u w] := fun z b u w h => hc ⟨z, b, u, w, h⟩
      have h1 : dryF (.clo f cs) = .clo f cs := by
        unfold dryF
        split <;> first | rfl | skip
        · rename_i h; cases h
        · rename_i h; cases h; exact absurd rfl (hc' _ _ _ _)
      rw [h1, e, noT cs hc']
      exact leaf _
theorem drys_sv (g : Sg) : ∀ l : List AV, (svL g l).map dry1 = svL g (l.map dryF)
  | [] => rfl
  | v :: l => by simp only [svL, List.map_cons, dry_sv, drys_sv g l]
noncomputable def luA : List (List AV × AV) → List AV → FS → FR
  | [], _, _ => .bad
  | p :: l, args, S => @Bool.rec (fun _ => FR) (luA l args S) (.ok p.2 S 2) (sameL p.1 args)
theorem luA_ok : ∀ {l : List (List AV × AV)} {args : List AV} {S : FS} {v : AV} {S' : FS} {k : Nat}, luA l args S = .ok v S' k → S' = S ∧ (args, v) ∈ l := by
  intro l
  induction l with
  | nil => intro args S v S' k h; cases h
  | cons p l ih =>
    intro args S v S' k h
    have h : @Bool.rec (fun _ => FR) (luA l args S) (.ok p.2 S 2) (sameL p.1 args) = .ok v S' k := h
    cases hq : sameL p.1 args with
    | true =>
      rw [hq] at h
      cases h
      exact ⟨rfl, by rw [← sameL_eq _ _ hq]; simp⟩
    | false =>
      rw [hq] at h
      obtain ⟨h1, h2⟩ := ih h
      exact ⟨h1, List.mem_cons_of_mem _ h2⟩
abbrev MT := List (Nat × List (List AV × AV))
noncomputable def mLu : MT → Nat → Option (List (List AV × AV))
  | [], _ => none
  | p :: l, f => @Bool.rec (fun _ => Option (List (List AV × AV))) (mLu l f) (some p.2) (Nat.beq p.1 f)
theorem mLu_ok : ∀ {R : MT} {f : Nat} {l : List (List AV × AV)}, mLu R f = some l → (f, l) ∈ R := by
  intro R
  induction R with
  | nil => intro f l h; cases h
  | cons p R ih =>
    intro f l h
    have h : @Bool.rec (fun _ => Option (List (List AV × AV))) (mLu R f) (some p.2) (Nat.beq p.1 f) = some l := h
    cases hq : Nat.beq p.1 f with
    | true =>
      rw [hq] at h
      cases h
      have := Nat.eq_of_beq_eq_true hq
      subst this
      exact List.mem_cons_self
    | false => rw [hq] at h; exact List.mem_cons_of_mem _ (ih h)
theorem mLu_keys {R : MT} {f : Nat} : (mLu R f).isSome = (R.map Prod.fst).contains f := by
  induction R with
  | nil => rfl
  | cons p R ih =>
    show (@Bool.rec (fun _ => Option (List (List AV × AV))) (mLu R f) (some p.2) (Nat.beq p.1 f)).isSome = _
    rw [List.map_cons, List.contains_cons]
    cases hq : Nat.beq p.1 f with
    | true =>
      have := Nat.eq_of_beq_eq_true hq
      simp [this]
    | false =>
      have := Nat.ne_of_beq_eq_false hq
      simp only
      rw [ih]
      have : (f == p.1) = false := by simp; exact fun h => this h.symm
      rw [this]; rfl
noncomputable def mX (R : MT) (X : Nat → Option (List AV → FS → FR)) (f : Nat) : Option (List AV → FS → FR) :=
  @Option.rec (List (List AV × AV)) (fun _ => Option (List AV → FS → FR) → Option (List AV → FS → FR)) (fun r => r) (fun l _ => some fun args S => luA l (args.map dryF) S) (mLu R f) (X f)
/-! ### What was said -/
def sameOpt : Option AV → Option AV → Bool
  | none, none => true
  | some a, some b => same a b
  | _, _ => false
theorem sameOpt_eq {a b : Option AV} (h : sameOpt a b = true) : a = b := by
  cases a <;> cases b <;> first | rfl | (cases h; done) | exact congrArg some (same_eq _ _ h)
def eqkB : EqK → EqK → Bool
  | .flat (.many a), .flat (.many b) => decide (a = b)
  | .flat (.one u), .flat (.one w) => decide (u = w)
  | .ptr, .ptr => true
  | .slc, .slc => true
  | _, _ => false
theorem eqkB_eq {a b : EqK} (h : eqkB a b = true) : a = b := by
  unfold eqkB at h
  split at h <;> first | rfl | (cases h; done) | (have := of_decide_eq_true h; subst this; rfl)
def ntB : Nt → Nt → Bool
  | .bin a x y t, .bin a' x' y' t' => decide (a = a') && (same x x' && (same y y' && same t t'))
  | .un a x t, .un a' x' t' => decide (a = a') && (same x x' && same t t')
  | .conv a x t, .conv a' x' t' => decide (a = a') && (same x x' && same t t')
  | .s2b x t, .s2b x' t' => same x x' && same t t'
  | .eqv n q x y t, .eqv n' q' x' y' t' => n == n' && (eqkB q q' && (same x x' && (same y y' && same t t')))
  | .lens x t, .lens x' t' => same x x' && same t t'
  | .len x t, .len x' t' => same x x' && same t t'
  | .mn x t, .mn x' t' => sameL x x' && same t t'
  | .mx x t, .mx x' t' => sameL x x' && same t t'
  | .ixs x y t, .ixs x' y' t' => same x x' && (same y y' && same t t')
  | .sls x a b t, .sls x' a' b' t' => same x x' && (sameOpt a a' && (sameOpt b b' && same t t'))
  | .slc z x a b t, .slc z' x' a' b' t' => z == z' && (same x x' && (sameOpt a a' && (sameOpt b b' && same t t')))
  | .ixa z x y t, .ixa z' x' y' t' => z == z' && (same x x' && (same y y' && same t t'))
  | .load z x t, .load z' x' t' => z == z' && (same x x' && same t t')
  | .app z n x y t, .app z' n' x' y' t' => z == z' && (n == n' && (same x x' && (same y y' && same t t')))
  | _, _ => false
theorem ntB_eq {u w : Nt} (h : ntB u w = true) : u = w := by
  unfold ntB at h
  split at h <;> first
  | (cases h; done)
  | (simp only [Bool.and_eq_true, decide_eq_true_eq, beq_iff_eq] at h
     first
     | (obtain ⟨h1, h2, h3, h4⟩ := h; subst h1; rw [same_eq _ _ h2, same_eq _ _ h3, same_eq _ _ h4])
     | (obtain ⟨h1, h2, h3⟩ := h; subst h1; rw [same_eq _ _ h2, same_eq _ _ h3])
     | (obtain ⟨h1, h2⟩ := h; rw [same_eq _ _ h1, same_eq _ _ h2])
     | (obtain ⟨h1, h2⟩ := h; rw [sameL_eq _ _ h1, same_eq _ _ h2])
     | (obtain ⟨h1, h2, h3⟩ := h; rw [same_eq _ _ h1, same_eq _ _ h2, same_eq _ _ h3])
     | (obtain ⟨h1, h2, h3, h4, h5⟩ := h; subst h1; rw [eqkB_eq h2, same_eq _ _ h3, same_eq _ _ h4, same_eq _ _ h5])
     | (obtain ⟨h1, h2, h3, h4⟩ := h; rw [same_eq _ _ h1, sameOpt_eq h2, sameOpt_eq h3, same_eq _ _ h4])
     | (obtain ⟨h1, h2, h3, h4, h5⟩ := h; subst h1; rw [same_eq _ _ h2, sameOpt_eq h3, sameOpt_eq h4, same_eq _ _ h5])
     | (obtain ⟨h1, h2, h3, h4, h5⟩ := h; subst h1 h2; rw [same_eq _ _ h3, same_eq _ _ h4, same_eq _ _ h5]))
/-- All that was said is among these. -/
def saidIn (U : List Nt) (l : List Nt) : Bool := l.all fun a => U.any (ntB a)
theorem said_ok {U l : List Nt} (h : saidIn U l = true) {P : Nt → Prop} (hU : ∀ a ∈ U, P a) : ∀ a ∈ l, P a := by
  intro a ha
  have := List.all_eq_true.1 h a ha
  obtain ⟨b, h1, h2⟩ := List.any_eq_true.1 this
  rw [ntB_eq h2]
  exact hU b h1
/-- A run's answer, if all that was said on its way is among these. -/
noncomputable def FR.said (U : List Nt) (r : FR) : Option AV := match r with
  | .ok v S _ => @Bool.rec (fun _ => Option AV) none (some v) (saidIn U S.log.notes)
  | .bad => none
theorem said_run {U : List Nt} {r : FR} {v : AV} (h : r.said U = some v) : ∃ S' k, r = .ok v S' k ∧ saidIn U S'.log.notes = true := by
  cases r with
  | bad => cases h
  | ok w S' k =>
    have h : @Bool.rec (fun _ => Option AV) none (some w) (saidIn U S'.log.notes) = some v := h
    cases hq : saidIn U S'.log.notes with
    | false => rw [hq] at h; cases h
    | true => rw [hq] at h; cases h; exact ⟨S', k, rfl, hq⟩
/-! ### From nothing -/
def FS.none' (o : List AV) : FS := ⟨.nil, 0, 0, ⟨[], o⟩⟩
theorem at_nilH (b : Nat) : (hgN b).f .nil = none := by
  unfold hgN
  rw [hgF_f]
  have : ∀ p : List D8, getP p .nil = none := by
    intro p
    induction p with
    | nil => rfl
    | cons d p ih => show getP p (chB d .nil) = none; cases d <;> exact ih
  exact this _
/-- The unknowns told, blocks as they are. -/
def Sg.of (L : Nat → AV) (h : ∀ i, lfOk (L i) = true) : Sg := ⟨L, fun n => n, 0, 0, fun j => rfl, h⟩
theorem rt_nil (L : Nat → AV) (h : ∀ i, lfOk (L i) = true) (o : List AV) : RT (Sg.of L h) (FS.none' o) St.nil := by
  have q : ∀ b, (FS.none' o).at b = none := fun b => at_nilH b
  exact { nx := rfl, n0 := Nat.le_refl _, at_ := (fun b x hb => by rw [q] at hb; cases hb), lt := (fun b x hb => by rw [q] at hb; cases hb), inj := (fun a b x y ha _ _ => by rw [q] at ha; cases ha), wf := (fun j _ => rfl), ts := (fun b x hb => by rw [q] at hb; cases hb) }
end Go.Ab
