/- Controls' bytes: unlike controls have unlike bytes. No conditions. -/
import Derived.Test.YthcblggiojpmcaaDoorCtlPut
set_option linter.unusedSimpArgs false
namespace Go.Proofs.YthcblggiojpmcaaDoor
open Go Go.Ab
theorem code_odd (k : Int) (h1 : 1 ≤ k) (h2 : k ≤ 7) : code k % 4 = 3 ∧ (code k + 16) % 4 = 3 := by
  unfold code
  repeat' split
  all_goals decide
theorem code_inj (k l : Int) (h1 : 1 ≤ k) (h2 : k ≤ 7) (g1 : 1 ≤ l) (g2 : l ≤ 7) (p q : Bool) (h : code k + (if p = true then 16 else 0) = code l + (if q = true then 16 else 0)) : k = l ∧ p = q := by
  have e1 : k = 1 ∨ k = 2 ∨ k = 3 ∨ k = 4 ∨ k = 5 ∨ k = 6 ∨ k = 7 := by omega
  have e2 : l = 1 ∨ l = 2 ∨ l = 3 ∨ l = 4 ∨ l = 5 ∨ l = 6 ∨ l = 7 := by omega
  rcases e1 with rfl | rfl | rfl | rfl | rfl | rfl | rfl <;> rcases e2 with rfl | rfl | rfl | rfl | rfl | rfl | rfl <;> revert h <;> cases p <;> cases q <;> decide
theorem num_inj (c d : Ct) (hc : c.may = true) (hd : d.may = true) (h : c.num = d.num) : c = d := by
  cases c with
  | n => simp [Ct.may] at hc
  | i nr ns pf =>
    simp only [Ct.may, Bool.and_eq_true] at hc
    obtain ⟨a1, a2⟩ := few_iff hc.1
    obtain ⟨a3, a4⟩ := few_iff hc.2
    cases d with
    | n => simp [Ct.may] at hd
    | i nr' ns' pf' =>
      simp only [Ct.may, Bool.and_eq_true] at hd
      obtain ⟨b1, b2⟩ := few_iff hd.1
      obtain ⟨b3, b4⟩ := few_iff hd.2
      simp only [Ct.num] at h
      have : nr = nr' ∧ ns = ns' ∧ pf = pf' := by
        cases pf <;> cases pf' <;> simp at h ⊢ <;> omega
      obtain ⟨rfl, rfl, rfl⟩ := this
      rfl
    | s kind nr' pf' =>
      simp only [Ct.may, Bool.and_eq_true] at hd
      obtain ⟨b1, b2⟩ := few_iff hd.1
      obtain ⟨b3, b4⟩ := few_iff hd.2
      simp only [Ct.num] at h
      exfalso
      cases pf <;> cases pf' <;> simp at h <;> omega
    | u kind pf' =>
      simp only [Ct.may, Bool.and_eq_true, decide_eq_true_eq] at hd
      have hk := code_odd kind hd.1 hd.2
      simp only [Ct.num] at h
      exfalso
      cases pf <;> cases pf' <;> simp at h <;> omega
  | s kind nr pf =>
    simp only [Ct.may, Bool.and_eq_true] at hc
    obtain ⟨a1, a2⟩ := few_iff hc.1
    obtain ⟨a3, a4⟩ := few_iff hc.2
    cases d with
    | n => simp [Ct.may] at hd
    | i nr' ns' pf' =>
      simp only [Ct.may, Bool.and_eq_true] at hd
      obtain ⟨b1, b2⟩ := few_iff hd.1
      obtain ⟨b3, b4⟩ := few_iff hd.2
      simp only [Ct.num] at h
      exfalso
      cases pf <;> cases pf' <;> simp at h <;> omega
    | s kind' nr' pf' =>
      simp only [Ct.may, Bool.and_eq_true] at hd
      obtain ⟨b1, b2⟩ := few_iff hd.1
      obtain ⟨b3, b4⟩ := few_iff hd.2
      simp only [Ct.num] at h
      have : nr = nr' ∧ kind = kind' ∧ pf = pf' := by
        cases pf <;> cases pf' <;> simp at h ⊢ <;> omega
      obtain ⟨rfl, rfl, rfl⟩ := this
      rfl
    | u kind' pf' =>
      simp only [Ct.may, Bool.and_eq_true, decide_eq_true_eq] at hd
      have hk := code_odd kind' hd.1 hd.2
      simp only [Ct.num] at h
      exfalso
      cases pf <;> cases pf' <;> simp at h <;> omega
  | u kind pf =>
    simp only [Ct.may, Bool.and_eq_true, decide_eq_true_eq] at hc
    have hk := code_odd kind hc.1 hc.2
    cases d with
    | n => simp [Ct.may] at hd
    | i nr' ns' pf' =>
      simp only [Ct.may, Bool.and_eq_true] at hd
      obtain ⟨b1, b2⟩ := few_iff hd.1
      obtain ⟨b3, b4⟩ := few_iff hd.2
      simp only [Ct.num] at h
      exfalso
      cases pf <;> cases pf' <;> simp at h <;> omega
    | s kind' nr' pf' =>
      simp only [Ct.may, Bool.and_eq_true] at hd
      obtain ⟨b1, b2⟩ := few_iff hd.1
      obtain ⟨b3, b4⟩ := few_iff hd.2
      simp only [Ct.num] at h
      exfalso
      cases pf <;> cases pf' <;> simp at h <;> omega
    | u kind' pf' =>
      simp only [Ct.may, Bool.and_eq_true, decide_eq_true_eq] at hd
      obtain ⟨rfl, rfl⟩ := code_inj kind kind' hc.1 hc.2 hd.1 hd.2 pf pf' h
      rfl
theorem eqScL_i (ks : List SK) (a b : Int) (xs ys : List AV) : eqScL (.i :: ks) (.int .i64 a :: xs) (.int .i64 b :: ys) = if a = b then eqScL ks xs ys else some false := by
  simp only [eqScL, eqSc, if_true]
  by_cases h : a = b
  · subst h; simp
  · have : (a == b) = false := beq_eq_false_iff_ne.2 h
    simp [this, h]
theorem eqScL_b (a b : Bool) : eqScL [.b] [.bool a] [.bool b] = some (a == b) := by
  simp only [eqScL, eqSc]
  cases a <;> cases b <;> rfl
/-- What '==' says of two controls. -/
theorem ct_eq (c d : Ct) : eqAV (.ifc oks) c.av d.av = some (decide (c = d)) := by
  have e64 : eqOf oks 64 = some (.many [.i, .i, .b]) := rfl
  have e84 : eqOf oks 84 = some (.many [.i, .i, .b]) := rfl
  have e86 : eqOf oks 86 = some (.many [.i, .b]) := rfl
  cases c with
  | n => cases d <;> simp [Ct.av, eqAV]
  | i nr ns pf =>
    cases d with
    | i nr' ns' pf' =>
      simp only [Ct.av, eqAV, if_true, e64, eqFl, eqScL_i, eqScL_b, Ct.i.injEq]
      by_cases h1 : nr = nr' <;> by_cases h2 : ns = ns' <;> cases pf <;> cases pf' <;> simp [h1, h2]
    | _ => simp [Ct.av, eqAV]
  | s nr ns pf =>
    cases d with
    | s nr' ns' pf' =>
      simp only [Ct.av, eqAV, if_true, e84, eqFl, eqScL_i, eqScL_b, Ct.s.injEq]
      by_cases h1 : nr = nr' <;> by_cases h2 : ns = ns' <;> cases pf <;> cases pf' <;> simp [h1, h2]
    | _ => simp [Ct.av, eqAV]
  | u nr pf =>
    cases d with
    | u nr' pf' =>
      simp only [Ct.av, eqAV, if_true, e86, eqFl, eqScL_i, eqScL_b, Ct.u.injEq]
      by_cases h1 : nr = nr' <;> cases pf <;> cases pf' <;> simp [h1]
    | _ => simp [Ct.av, eqAV]
end Go.Proofs.YthcblggiojpmcaaDoor
