/- What a call can reach: loaded functions hold no blocks. No conditions. -/
import Derived.Test.YtochnineebgbgaaDoorFoo2
import Derived.Test.YtochnineebgbgaaDoorAbE
set_option linter.unusedSimpArgs false
set_option linter.unusedVariables false
namespace Go.Ab
open Go
theorem toAV_flat {v : Value} {x : AV} (h : toAV v = some x) : flat x = true := by
  unfold toAV at h
  split at h <;> first | (cases h; done) | (cases h; rfl)
theorem toAVs_flat : ∀ {vs : List Value} {xs : List AV}, toAVs vs = some xs → flatL xs = true := by
  intro vs
  induction vs with
  | nil => intro xs h; cases h; rfl
  | cons v vs ih =>
    intro xs h
    simp only [toAVs] at h
    split at h
    · rename_i x ys h1 h2
      cases h
      simp only [flatL, Bool.and_eq_true]
      exact ⟨toAV_flat h1, ih h2⟩
    · cases h
theorem toAVa_flat {v : Value} {x : AV} (h : toAVa v = some x) : flat x = true := by
  unfold toAVa at h
  split at h
  · obtain ⟨cs, h1, rfl⟩ := Option.map_eq_some_iff.1 h
    exact toAVs_flat h1
  · exact toAV_flat h
section
variable {P : Program}
theorem cOpd_ok {x : Operand} {y : Opd} (h : cOpd x = some y) : okO y = true := by
  unfold cOpd at h
  split at h
  · cases h; rfl
  · obtain ⟨v, h1, rfl⟩ := Option.map_eq_some_iff.1 h
    exact toAVa_flat h1
  · cases h; rfl
  · cases h
theorem cParts_ok {place : Nat → Option (Nat × Nat)} : ∀ {ps : List (Nat × Operand)} {l : List (Nat × Nat × Opd)}, cParts place ps = some l → (l.all fun p => okO p.2.2) = true := by
  intro ps
  induction ps with
  | nil => intro l h; cases h; rfl
  | cons p ps ih =>
    obtain ⟨i, x⟩ := p
    intro l h
    simp only [cParts] at h
    split at h
    · rename_i off size y l' h1 h2 h3
      cases h
      simp only [List.all_cons, Bool.and_eq_true]
      exact ⟨cOpd_ok h2, ih h3⟩
    · cases h
theorem cArgs_ok : ∀ {xs : List Operand} {ts : List TypeId} {l : List (Nat × Opd)}, cArgs P xs ts = some l → (l.all fun p => okO p.2) = true := by
  intro xs
  induction xs with
  | nil => intro ts l h; simp only [cArgs] at h; cases h; rfl
  | cons x xs ih =>
    intro ts l h
    simp only [cArgs] at h
    split at h
    · rename_i y ys h1 h2
      cases h
      simp only [List.all_cons, Bool.and_eq_true]
      exact ⟨cOpd_ok h1, ih h2⟩
    · cases h
theorem zeroOf_flat {t : TypeId} {x : AV} (h : zeroOf P t = some x) : flat x = true := by
  unfold zeroOf at h
  split at h
  · exact toAVa_flat h
  · cases h
theorem zeroCells_flat {t : TypeId} {zs : List AV} (h : zeroCells' P t = some zs) : flatL zs = true := by
  obtain ⟨x, h1, rfl⟩ := Option.map_eq_some_iff.1 h
  have := zeroOf_flat h1
  unfold zcells
  split
  · exact this
  · simp only [flatL, this, Bool.and_self]
theorem flatL_app {l m : List AV} (h : flatL l = true) (g : flatL m = true) : flatL (l ++ m) = true := by
  induction l with
  | nil => exact g
  | cons a l ih =>
    simp only [flatL, Bool.and_eq_true, List.cons_append] at h ⊢
    exact ⟨h.1, ih h.2⟩
theorem rep_flat {zs : List AV} (h : flatL zs = true) (n : Nat) : flatL (List.replicate n zs).flatten = true := by
  induction n with
  | zero => rfl
  | succ n ih => rw [List.replicate_succ, List.flatten_cons]; exact flatL_app h ih
set_option maxHeartbeats 4000000 in
theorem cOp_ok {oks : List (Nat × EqF)} {ht : List TypeId} {o : Oper} {m : MOp} (h : cOp P oks ht o = some m) : okM m = true := by
  unfold cOp at h
  repeat' split at h
  all_goals first
    | (cases h; done)
    | (obtain ⟨y, hy, rfl⟩ := Option.map_eq_some_iff.1 h; first | exact cOpd_ok hy | exact zeroCells_flat hy | exact cArgs_ok hy | rfl)
    | (cases h; simp only [okM, Bool.and_eq_true]; first
        | exact cOpd_ok (by assumption)
        | exact ⟨cOpd_ok (by assumption), cOpd_ok (by assumption)⟩
        | exact ⟨⟨cOpd_ok (by assumption), cOpd_ok (by assumption)⟩, cOpd_ok (by assumption)⟩
        | exact ⟨zeroCells_flat (by assumption), cParts_ok (by assumption)⟩
        | exact ⟨rep_flat (zeroCells_flat (by assumption)) _, cParts_ok (by assumption)⟩
        | exact ⟨⟨zeroCells_flat (by assumption), cOpd_ok (by assumption)⟩, cOpd_ok (by assumption)⟩
        | exact ⟨zeroOf_flat (by assumption), cOpd_ok (by assumption)⟩)
    | (cases h; rfl)
theorem cInss_ok {oks : List (Nat × EqF)} {ht : List TypeId} {ops : Array Oper} : ∀ {os : List Oper} {is : List MIns}, cInss P oks ht ops os = some is → (is.all fun i => okM i.op) = true := by
  intro os
  induction os with
  | nil => intro is h; cases h; rfl
  | cons o os ih =>
    intro is h
    simp only [cInss] at h
    split at h
    · rename_i i is' h1 h2
      cases h
      simp only [List.all_cons, Bool.and_eq_true]
      refine ⟨?_, ih h2⟩
      unfold cIns at h1
      split at h1
      · rename_i m hm
        split at h1
        · cases h1; exact cOp_ok hm
        · split at h1
          · cases h1; exact cOp_ok hm
          · cases h1
      · cases h1
    · cases h
theorem cCode_ok {oks : List (Nat × EqF)} {ht : List TypeId} : ∀ c : Code, okC (cCode P oks ht c) = true := by
  intro c
  induction c with
  | skip => rfl
  | region p ops draw =>
    simp only [cCode]
    split
    · rename_i is h1
      split
      · split
        · exact cInss_ok h1
        · rfl
      · exact cInss_ok h1
    · rfl
  | seq a b iha ihb => simp only [cCode, okC, iha, ihb, Bool.and_self]
  | cond c a b iha ihb =>
    simp only [cCode]
    split
    · simp only [okC, iha, ihb, Bool.and_self]
    · rfl
  | block id a ih => simpa only [cCode, okC] using ih
  | loop a ih => simpa only [cCode, okC] using ih
  | _ => first | rfl | (simp only [cCode]; rfl)
theorem mark_ok (n rets : Nat) : ∀ (c : MC) (out : Nat) (ex : List (Nat × Nat)), okC c = true → okC (mark n rets c out ex) = true := by
  intro c
  induction c with
  | seq a b iha ihb =>
    intro out ex h
    simp only [okC, Bool.and_eq_true] at h
    simp only [mark, okC, Bool.and_eq_true]
    exact ⟨iha _ _ h.1, ihb _ _ h.2⟩
  | cond c a b iha ihb =>
    intro out ex h
    simp only [okC, Bool.and_eq_true] at h
    simp only [mark, okC, Bool.and_eq_true]
    exact ⟨iha _ _ h.1, ihb _ _ h.2⟩
  | block id a ih => intro out ex h; exact ih _ _ h
  | loop l a ih => intro out ex h; exact ih _ _ h
  | _ => intro out ex h; exact h
theorem table_ok {f : Nat} {m : MFun} (h : tableOf P f = some m) : okC m.body = true := by
  unfold tableOf at h
  split at h
  · split at h
    · cases h
    · unfold cFun at h
      split at h
      · cases h; exact mark_ok _ _ _ _ _ (cCode_ok _)
      · cases h
  · cases h
end
end Go.Ab
