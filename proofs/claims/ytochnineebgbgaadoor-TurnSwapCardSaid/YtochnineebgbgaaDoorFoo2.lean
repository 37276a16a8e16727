/- What a call can reach: operations that turn the state, code, functions. No conditions. -/
import Derived.Test.YtochnineebgbgaaDoorFoo
set_option linter.unusedSimpArgs false
set_option linter.unusedVariables false
namespace Go.Ab
open Go
section
variable {C : Nat → Prop} {gl : Nat → AV} {e : Env} {s0 : St}
theorem newsOf_in {s : St} (hs : Fp C s0 s) {size : Nat} {x : AV} {news : List AV} {m : Nat} (hx : inV C x) (h : newsOf size s x = some (news, m)) : inL C news := by
  unfold newsOf at h
  split at h
  · cases h; trivial
  · split at h
    · cases h; exact hx.1
    · cases h
  · split at h
    · cases h; exact bytes_in _
    · cases h
  · split at h
    · rename_i z cs hc
      split at h
      · cases h; exact inL_take (inL_drop (hs.cells _ _ _ hx hc) _) _
      · cases h
    · cases h
  · cases h
theorem appS_in {s s' : St} (hs : Fp C s0 s) {size bytes m : Nat} {x v : AV} {news : List AV} (hx : inV C x) (hn : inL C news) (h : appS size bytes s x news m = some (v, s')) : inV C v ∧ Fp C s0 s' := by
  unfold appS at h
  split at h
  · split at h
    · cases h; exact ⟨trivial, hs⟩
    · split at h
      · cases h; exact ⟨⟨hn, hs.new _ hs.le⟩, hs.mk' trivial⟩
      · cases h
  · split at h
    · rename_i hc
      split at h
      · cases h; exact ⟨⟨inL_app hx.1 hn, hx.2⟩, hs.upd hx.2 hc trivial⟩
      · cases h
    · cases h
  · cases h
theorem appH_in {s s' : St} (hs : Fp C s0 s) {size bytes m : Nat} {x v : AV} {news : List AV} (hx : inV C x) (hn : inL C news) (h : appH size bytes s x news m = some (v, s')) : inV C v ∧ Fp C s0 s' := by
  unfold appH at h
  split at h
  · split at h
    · cases h
    · split at h
      · cases h; exact ⟨hs.new _ hs.le, hs.mk' hn⟩
      · cases h
  · split at h
    · rename_i z cs hc
      split at h
      · cases h
        exact ⟨hs.new _ hs.le, (hs.upd (q := .dead) hx hc trivial).mk' (inL_app (hs.cells _ _ _ hx hc) hn)⟩
      · cases h
    · cases h
  · cases h
theorem rep_in {zs : List AV} (h : inL C zs) (n : Nat) : inL C (List.replicate n zs).flatten := inL_iff.2 fun v hv => by
  obtain ⟨l, hl, hv⟩ := List.mem_flatten.1 hv
  rw [(List.mem_replicate.1 hl).2] at hv
  exact inL_iff.1 h v hv
theorem evW_in (hg : ∀ g, inV C (gl g)) (he : inL C e) {s s' : St} (hs : Fp C s0 s) {m : MOp} (hm : okM m = true) {v : AV} (h : evW gl e s m = some (v, s')) : inV C v ∧ Fp C s0 s' := by
  unfold evW at h
  split at h
  · rename_i n x w
    simp only [okM, Bool.and_eq_true] at hm
    have hx := opd_in hg he (C := C) hm.1
    split at h
    · rename_i b o hb; rw [hb] at hx
      split at h
      · rename_i z cs hc
        split at h
        · rename_i vs hvs
          split at h
          · split at h
            · rename_i cs' hcs
              cases h
              exact ⟨trivial, hs.upd hx hc (storeL_in (hs.cells _ _ _ hx hc) (cellsOf_in (opd_in hg he hm.2) hvs) hcs)⟩
            · cases h
          · cases h
        · cases h
      · cases h
    · cases h
  · split at h
    · split at h
      · cases h; exact ⟨⟨bytes_in _, trivial⟩, hs⟩
      · cases h
    · cases h
  · split at h
    · split at h
      · cases h; exact ⟨hs.new _ hs.le, hs.mk' (bytes_in _)⟩
      · cases h
    · cases h
  · rename_i x
    have hx := opd_in hg he (C := C) (show okO x = true from hm)
    split at h
    · rename_i cs n t u z hb; rw [hb] at hx
      split at h
      · rename_i hc
        split at h
        · cases h; exact ⟨⟨hx.1, trivial⟩, hs.upd hx.2 hc trivial⟩
        · cases h
      · cases h
    · cases h
  · simp only [okM, Bool.and_eq_true] at hm
    have hx := opd_in hg he (C := C) hm.1
    have hy := opd_in hg he (C := C) hm.2
    split at h
    · rename_i news m' hn
      have := newsOf_in hs hy hn
      split at h
      · exact appH_in hs hx this h
      · exact appS_in hs hx this h
    · cases h
  · simp only [okM, Bool.and_eq_true] at hm
    split at h
    · rename_i cs hc
      have := fill_in hg he hm.2 (flatL_in _ hm.1) hc
      split at h
      · cases h; exact ⟨hs.new _ hs.le, hs.mk' this⟩
      · cases h; exact ⟨⟨this, hs.new _ hs.le⟩, hs.mk' trivial⟩
    · cases h
  · simp only [okM, Bool.and_eq_true] at hm
    split at h
    · rename_i cs hc
      cases h
      exact ⟨⟨fill_in hg he hm.2 (flatL_in _ hm.1) hc, trivial⟩, hs⟩
    · cases h
  · cases h; exact ⟨hs.new _ hs.le, hs.mk' (flatL_in _ hm)⟩
  · split at h
    · rename_i cs hc
      cases h
      exact ⟨hs.new _ hs.le, hs.mk' (cellsOf_in (opd_in hg he hm) hc)⟩
    · cases h
  · simp only [okM, Bool.and_eq_true] at hm
    split at h
    · split at h
      · cases h; exact ⟨hs.new _ hs.le, hs.mk' (rep_in (flatL_in _ hm.1.1) _)⟩
      · cases h
    · cases h
  · simp only [okM, Bool.and_eq_true] at hm
    have hx := opd_in hg he (C := C) hm.1
    have hy := opd_in hg he (C := C) hm.2
    split at h
    · rename_i z b o n hb; rw [hb] at hx
      split at h
      · rename_i news m' z' cs hn hc
        split at h
        · split at h
          · rename_i cs' hcs
            cases h
            exact ⟨trivial, hs.upd hx hc (storeL_in (hs.cells _ _ _ hx hc) (inL_take (newsOf_in hs hy hn) _) hcs)⟩
          · cases h
        · cases h
      · cases h
    · cases h
  · split at h
    · cases h; exact ⟨hs.new _ hs.le, hs.mk' trivial⟩
    · cases h
  · rename_i x
    have hx := opd_in hg he (C := C) (show okO x = true from hm)
    split at h
    · rename_i b hb; rw [hb] at hx
      split at h
      · rename_i hc
        split at h
        · cases h; exact ⟨⟨trivial, trivial, trivial, trivial⟩, hs.upd hx hc trivial⟩
        · cases h; exact ⟨⟨trivial, trivial⟩, hs⟩
      · cases h
    · cases h
  · cases h
/-- Calls that reach no further. -/
def Reach (C : Nat → Prop) (s0 : St) (call : Calls') : Prop := ∀ f args s v s', call f args s = some (v, s') → inL C args → Fp C s0 s → inV C v ∧ Fp C s0 s'
variable {call : Calls'}
theorem ev1_in (hc : Reach C s0 call) (hg : ∀ g, inV C (gl g)) (he : inL C e) {s s' : St} (hs : Fp C s0 s) {m : MOp} (hm : okM m = true) {v : AV} {n : Nat} (h : ev1 gl call e s m = some (v, s', n)) : inV C v ∧ Fp C s0 s' := by
  unfold ev1 at h
  split at h
  · rename_i w hw; cases h; exact ⟨evP_in hg he hm hw, hs⟩
  · split at h
    · rename_i w hw; cases h; exact ⟨evR_in hg he hs hm hw, hs⟩
    · split at h
      · split at h
        · rename_i vs s1 h1
          obtain ⟨q1, q2⟩ := freezeL_in hg he hm hs h1
          split at h
          · rename_i w s2 h2; cases h; exact hc _ _ _ _ _ h2 q1 q2
          · cases h
        · cases h
      · split at h
        · rename_i w s2 h2; cases h; exact evW_in hg he hs hm h2
        · cases h
theorem put_in (he : inL C e) {v : AV} (hv : inV C v) (d : Option Nat) : inL C (e.put d v) := by
  cases d with
  | none => exact he
  | some d => exact inL_set he hv d
theorem guardR_or {α : Type} {e : Env} {g : Option (Nat × Bool)} {a b : Option α} {r : α} (h : guardR e g a b = some r) : a = some r ∨ b = some r := by
  unfold guardR at h
  split at h
  · exact .inl h
  · split at h
    · split at h
      · exact .inl h
      · exact .inr h
    · exact .inr h
    · cases h
theorem tupE_in : inV C (.tup []) := trivial
theorem evOps_in (hc : Reach C s0 call) (hg : ∀ g, inV C (gl g)) : ∀ {ops : List MIns} {e : Env} {s : St} {e' : Env} {s' : St}, (ops.all fun i => okM i.op) = true → inL C e → Fp C s0 s → evOps gl call ops e s = some (e', s') → inL C e' ∧ Fp C s0 s' := by
  intro ops
  induction ops with
  | nil => intro e s e' s' _ he hs h; cases h; exact ⟨he, hs⟩
  | cons i is ih =>
    intro e s e' s' ho he hs h
    simp only [List.all_cons, Bool.and_eq_true] at ho
    simp only [evOps] at h
    rcases guardR_or h with h | h
    · unfold opR at h
      split at h
      · rename_i v s1 n h1
        obtain ⟨q1, q2⟩ := ev1_in hc hg he hs ho.1 h1
        exact ih ho.2 (put_in he q1 _) q2 h
      · cases h
    · exact ih ho.2 (put_in he tupE_in _) hs h
theorem allocZ_flat {i : MIns} {zs : List AV} (hi : okM i.op = true) (h : allocZ i = some zs) : flatL zs = true := by
  unfold allocZ at h
  split at h
  · rename_i z h1 _
    cases h
    rw [h1] at hi
    exact hi
  · cases h
theorem reserve_in : ∀ {ops : List MIns} {s : St}, (ops.all fun i => okM i.op) = true → Fp C s0 s → Fp C s0 (reserve ops s) := by
  intro ops
  induction ops with
  | nil => intro s _ hs; exact hs
  | cons i is ih =>
    intro s ho hs
    simp only [List.all_cons, Bool.and_eq_true] at ho
    simp only [reserve]
    split
    · rename_i zs hz
      exact ih ho.2 (hs.mk' (flatL_in _ (allocZ_flat ho.1 hz)))
    · exact ih ho.2 hs
theorem evLoud_in (hc : Reach C s0 call) (hg : ∀ g, inV C (gl g)) : ∀ {ops : List MIns} {n : Nat} {e : Env} {s : St} {l : List Rec} {e' : Env} {s' : St} {l' : List Rec}, (ops.all fun i => okM i.op) = true → (∀ j, n ≤ j → C j) → inL C e → Fp C s0 s → evLoud gl call ops n e s l = some (e', s', l') → inL C e' ∧ Fp C s0 s' := by
  intro ops
  induction ops with
  | nil => intro n e s l e' s' l' _ _ he hs h; cases h; exact ⟨he, hs⟩
  | cons i is ih =>
    intro n e s l e' s' l' ho hn he hs h
    simp only [List.all_cons, Bool.and_eq_true] at ho
    simp only [evLoud] at h
    split at h
    · unfold placeR at h
      split at h
      · exact ih ho.2 (fun j hj => hn j (by omega)) (put_in he (v := .ptr n 0) (hn n (Nat.le_refl _)) _) hs h
      · cases h
    · rcases guardR_or h with h | h
      · unfold opR at h
        split at h
        · rename_i v s1 k h1
          obtain ⟨q1, q2⟩ := ev1_in hc hg he hs ho.1 h1
          exact ih ho.2 hn (put_in he q1 _) q2 h
        · cases h
      · exact ih ho.2 hn (put_in he tupE_in _) hs h
/-- Code whose constants hold no blocks. -/
def okC : MC → Bool
  | .reg ops => ops.all fun i => okM i.op
  | .draw ops _ => ops.all fun i => okM i.op
  | .seq a b => okC a && okC b
  | .cond _ a b => okC a && okC b
  | .block _ a => okC a
  | .loop _ a => okC a
  | _ => true
def InOut (C : Nat → Prop) (s0 : St) (r : Out) : Prop := ∀ x e s, r = some (x, e, s) → inL C e ∧ Fp C s0 s
theorem maskE_in : ∀ (l : List Bool) (e : Env), inL C e → inL C (maskE l e) := by
  intro l
  induction l with
  | nil => intro e h; simpa [maskE] using h
  | cons b l ih =>
    intro e h
    cases e with
    | nil => simpa [maskE] using h
    | cons v e =>
      simp only [maskE]
      refine ⟨?_, ih e h.2⟩
      split
      · exact h.1
      · trivial
theorem seqR_in {r : Out} {f : Env → St → Out} (hr : InOut C s0 r) (hf : ∀ e s, inL C e → Fp C s0 s → InOut C s0 (f e s)) : InOut C s0 (seqR r f) := by
  intro x e s h
  unfold seqR at h
  split at h
  · rename_i e1 s1
    obtain ⟨q1, q2⟩ := hr _ _ _ rfl
    exact hf _ _ q1 q2 _ _ _ h
  · cases h; exact hr _ _ _ rfl
  · cases h; exact hr _ _ _ rfl
  · cases h
theorem iter_in {f : Env → St → Out} (l : List Bool) (hf : ∀ e s, inL C e → Fp C s0 s → InOut C s0 (f e s)) : ∀ (k : Nat) (e : Env) (s : St), inL C e → Fp C s0 s → InOut C s0 (iter f l k e s) := by
  intro k
  induction k with
  | zero => intro e s _ _ x e' s' h; cases h
  | succ k ih =>
    intro e s he hs
    exact seqR_in (hf _ _ (maskE_in l e he) hs) ih
theorem evC_in (hc : Reach C s0 call) (hg : ∀ g, inV C (gl g)) (k : Nat) : ∀ (c : MC), okC c = true → ∀ (e : Env) (s : St), inL C e → Fp C s0 s → InOut C s0 (evC gl call k c e s) := by
  intro c
  induction c with
  | skip => intro _ e s he hs x e' s' h; cases h; exact ⟨he, hs⟩
  | reg ops =>
    intro ho e s he hs x e' s' h
    simp only [evC, regR] at h
    split at h
    · rename_i e1 s1 h1; cases h; exact evOps_in hc hg ho he hs h1
    · cases h
  | draw ops bf =>
    intro ho e s he hs x e' s' h
    simp only [evC, drawR] at h
    split at h
    · rename_i e1 s1 l h1
      split at h
      · cases h; exact evLoud_in hc hg ho (fun j hj => hs.new j (Nat.le_trans hs.le hj)) he (reserve_in ho hs) h1
      · cases h
    · cases h
  | seq a b iha ihb =>
    intro ho e s he hs
    simp only [okC, Bool.and_eq_true] at ho
    exact seqR_in (iha ho.1 e s he hs) (fun e s he hs => ihb ho.2 e s he hs)
  | cond x a b iha ihb =>
    intro ho e s he hs y e' s' h
    simp only [okC, Bool.and_eq_true] at ho
    simp only [evC, condR] at h
    split at h
    · exact iha ho.1 e s he hs _ _ _ h
    · exact ihb ho.2 e s he hs _ _ _ h
    · cases h
  | block id a ih =>
    intro ho e s he hs y e' s' h
    have hi := ih ho e s he hs
    simp only [evC, blockR] at h
    split at h
    · rename_i i e1 s1 h1
      split at h
      · cases h; exact hi _ _ _ h1
      · cases h; exact hi _ _ _ h1
    · exact hi _ _ _ h
  | loop l a ih => intro ho e s he hs; exact iter_in l (fun e s he hs => ih ho e s he hs) k e s he hs
  | exit id => intro _ e s he hs x e' s' h; cases h; exact ⟨he, hs⟩
  | ret => intro _ e s he hs x e' s' h; cases h; exact ⟨he, hs⟩
theorem resV_in {e : Env} (he : inL C e) {s s' : St} (hs : Fp C s0 s) {r : MRes} {v : AV} (h : resV e s r = some (v, s')) : inV C v ∧ Fp C s0 s' := by
  cases r with
  | tmp n i => exact freeze_in hs (at_in he i) h
  | cell i n =>
    have hx := at_in (C := C) he i
    simp only [resV] at h
    split at h
    · rename_i b o hb; rw [hb] at hx
      split at h
      · rename_i z cs hc
        split at h
        · rename_i w hw; cases h; exact ⟨cut_in (hs.cells _ _ _ hx hc) hw, hs⟩
        · cases h
      · cases h
    · cases h
theorem resVs_in {e : Env} (he : inL C e) : ∀ {rs : List MRes} {s s' : St} {vs : List AV}, Fp C s0 s → resVs e s rs = some (vs, s') → inL C vs ∧ Fp C s0 s' := by
  intro rs
  induction rs with
  | nil => intro s s' vs hs h; cases h; exact ⟨trivial, hs⟩
  | cons r rs ih =>
    intro s s' vs hs h
    simp only [resVs] at h
    split at h
    · rename_i v s1 h1
      obtain ⟨q1, q2⟩ := resV_in he hs h1
      split at h
      · rename_i vs' s2 h2
        cases h
        obtain ⟨q3, q4⟩ := ih q2 h2
        exact ⟨⟨q1, q3⟩, q4⟩
      · cases h
    · cases h
theorem outR_in {rs : List MRes} {r : Out} (hr : InOut C s0 r) {v : AV} {s' : St} (h : outR rs r = some (v, s')) : inV C v ∧ Fp C s0 s' := by
  unfold outR at h
  split at h
  · cases h
  · rename_i x e s _
    obtain ⟨q1, q2⟩ := hr _ _ _ rfl
    split at h
    · rename_i vs s1 h1
      cases h
      obtain ⟨q3, q4⟩ := resVs_in q1 q2 h1
      refine ⟨?_, q4⟩
      unfold oneOr
      split
      · exact q3.1
      · exact q3
    · cases h
  · cases h
theorem env0_in {n : Nat} {args : List AV} (h : inL C args) : inL C (env0 n args) := inL_app h (inL_iff.2 fun v hv => by
  rw [(List.mem_replicate.1 hv).2]; trivial)
/-- Functions reach no further than their arguments. -/
theorem evF_in' {F : Nat → Option MFun} {ext : Nat → Option (List AV → St → Option (AV × St))} (hF : ∀ f m, F f = some m → okC m.body = true) (hg : ∀ g, inV C (gl g))
    (hx : ∀ f h, ext f = some h → ∀ args s v s', h args s = some (v, s') → inL C args → Fp C s0 s → inV C v ∧ Fp C s0 s') : ∀ k, Reach C s0 (evF gl F ext k) := by
  intro k
  induction k with
  | zero => intro f args s v s' h; cases h
  | succ k ih =>
    intro f args s v s' h ha hs
    simp only [evF] at h
    split at h
    · rename_i g hg'; exact hx f g hg' args s v s' h ha hs
    · split at h
      · cases h
      · rename_i m hm
        exact outR_in (evC_in ih hg k m.body (hF f m hm) _ _ (env0_in ha) hs) h
end
end Go.Ab
