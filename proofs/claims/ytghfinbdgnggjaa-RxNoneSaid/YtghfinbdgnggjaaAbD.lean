/- The evaluator is sound: regions whose operations may come in more orders than one. No conditions. -/
import Derived.Test.YtghfinbdgnggjaaAb11
import Derived.Orders
set_option linter.unusedSimpArgs false
set_option linter.unusedVariables false
namespace Go.Ab
open Go

/-! ### What an operation looks at -/
section
variable {gl : Nat → AV} {e1 e2 : Env}
def Same (e1 e2 : Env) (b : Nat) : Prop := ∀ t, b.testBit t = true → e1.at t = e2.at t
theorem Same.left {a b : Nat} (h : Same e1 e2 (a ||| b)) : Same e1 e2 a := fun t ht => h t (by rw [Nat.testBit_or, ht]; rfl)
theorem Same.right {a b : Nat} (h : Same e1 e2 (a ||| b)) : Same e1 e2 b := fun t ht => h t (by rw [Nat.testBit_or, ht]; simp)
theorem Same.opd {x : Opd} (h : Same e1 e2 (opdB x)) : opd gl e1 x = opd gl e2 x := by
  cases x with
  | s i => exact h i Nat.testBit_two_pow_self
  | c v => rfl
  | g i => rfl
theorem opdBs_acc (l : List Opd) : ∀ (b : Nat) (t : Nat), (l.foldl (fun b x => b ||| opdB x) b).testBit t = (b.testBit t || l.any fun x => (opdB x).testBit t) := by
  induction l with
  | nil => intro b t; simp
  | cons x xs ih => intro b t; simp only [List.foldl_cons, ih, Nat.testBit_or, List.any_cons, Bool.or_assoc]
theorem Same.opds {l : List Opd} (h : Same e1 e2 (opdBs l)) : ∀ x ∈ l, Ab.opd gl e1 x = Ab.opd gl e2 x := by
  intro x hx
  refine Same.opd (fun t ht => h t ?_)
  rw [opdBs, opdBs_acc]
  simp only [Nat.zero_testBit, Bool.false_or, List.any_eq_true]
  exact ⟨x, hx, ht⟩
theorem map_same {l : List Opd} (h : ∀ x ∈ l, opd gl e1 x = opd gl e2 x) : l.map (opd gl e1) = l.map (opd gl e2) := List.map_congr_left h
theorem fill_same {cells : List AV} {ps : List (Nat × Nat × Opd)} (h : ∀ x ∈ ps.map (·.2.2), opd gl e1 x = opd gl e2 x) : fill gl e1 cells ps = fill gl e2 cells ps := by
  induction ps generalizing cells with
  | nil => rfl
  | cons p ps ih =>
    obtain ⟨off, size, x⟩ := p
    have hx := h x (by simp)
    have ih' : ∀ c, fill gl e1 c ps = fill gl e2 c ps := fun c => ih (fun y hy => h y (by simp at hy ⊢; exact .inr hy))
    simp only [fill, hx, ih']
theorem freezeL_same {s : St} {l : List (Nat × Opd)} (h : ∀ x ∈ l.map (·.2), opd gl e1 x = opd gl e2 x) : freezeL gl e1 s l = freezeL gl e2 s l := by
  induction l generalizing s with
  | nil => rfl
  | cons p ps ih =>
    obtain ⟨n, x⟩ := p
    have hx := h x (by simp)
    have ih' : ∀ s, freezeL gl e1 s ps = freezeL gl e2 s ps := fun s => ih (fun y hy => h y (by simp at hy ⊢; exact .inr hy))
    simp only [freezeL, hx, ih']
theorem ev1_same {call : Calls'} {s : St} {m : MOp} (h : Same e1 e2 (reads m)) : ev1 gl call e1 s m = ev1 gl call e2 s m := by
  cases m with
  | pick c a b => have q := Same.opds (gl := gl) h; simp only [ev1, evP, evR, evW, q c (by simp), q a (by simp), q b (by simp)]
  | bin op x y => have q := Same.opds (gl := gl) h; simp only [ev1, evP, evR, evW, q x (by simp), q y (by simp)]
  | eqv n k x y => have q := Same.opds (gl := gl) h; simp only [ev1, evP, evR, evW, q x (by simp), q y (by simp)]
  | ixa n x y => have q := Same.opds (gl := gl) h; simp only [ev1, evP, evR, evW, q x (by simp), q y (by simp)]
  | ixs x y => have q := Same.opds (gl := gl) h; simp only [ev1, evP, evR, evW, q x (by simp), q y (by simp)]
  | ixp l n x y => have q := Same.opds (gl := gl) h; simp only [ev1, evP, evR, evW, q x (by simp), q y (by simp)]
  | ix l n b x y => have q := Same.opds (gl := gl) h; simp only [ev1, evP, evR, evW, q x (by simp), q y (by simp)]
  | store n x y => have q := Same.opds (gl := gl) h; simp only [ev1, evP, evR, evW, q x (by simp), q y (by simp)]
  | cpy n x y => have q := Same.opds (gl := gl) h; simp only [ev1, evP, evR, evW, q x (by simp), q y (by simp)]
  | app hp n b x y => have q := Same.opds (gl := gl) h; simp only [ev1, evP, evR, evW, q x (by simp), q y (by simp)]
  | mks n b z x y => have q := Same.opds (gl := gl) h; simp only [ev1, evP, evR, evW, q x (by simp), q y (by simp)]
  | slc n x l hh =>
    have q := Same.opds (gl := gl) h
    have ql : l.map (opd gl e1) = l.map (opd gl e2) := by cases l <;> simp_all
    have qh : hh.map (opd gl e1) = hh.map (opd gl e2) := by cases hh <;> simp_all
    simp only [ev1, evP, evR, evW, q x (by simp), ql, qh]
  | sls x l hh =>
    have q := Same.opds (gl := gl) h
    have ql : l.map (opd gl e1) = l.map (opd gl e2) := by cases l <;> simp_all
    have qh : hh.map (opd gl e1) = hh.map (opd gl e2) := by cases hh <;> simp_all
    simp only [ev1, evP, evR, evW, q x (by simp), ql, qh]
  | mn l => have q := map_same (Same.opds (gl := gl) h); simp only [ev1, evP, evR, evW, q]
  | mx l => have q := map_same (Same.opds (gl := gl) h); simp only [ev1, evP, evR, evW, q]
  | call f args => have q := freezeL_same (s := s) (Same.opds (gl := gl) h); simp only [ev1, evP, evR, q]
  | build z ps => have q := fill_same (cells := z) (Same.opds (gl := gl) h); simp only [ev1, evP, evR, evW, q]
  | bsl hp n len z ps => have q := fill_same (cells := z) (Same.opds (gl := gl) h); simp only [ev1, evP, evR, evW, q]
  | alloc z => rfl
  | conv c x => have q := Same.opd (gl := gl) (x := x) h; cases c <;> simp only [ev1, evP, evR, evW, q]
  | mv x => have q := Same.opd (gl := gl) (x := x) h; simp only [ev1, evP, evR, evW, q]
  | un op x => have q := Same.opd (gl := gl) (x := x) h; simp only [ev1, evP, evR, evW, q]
  | mki t x => have q := Same.opd (gl := gl) (x := x) h; simp only [ev1, evP, evR, evW, q]
  | lens x => have q := Same.opd (gl := gl) (x := x) h; simp only [ev1, evP, evR, evW, q]
  | fa o x => have q := Same.opd (gl := gl) (x := x) h; simp only [ev1, evP, evR, evW, q]
  | fld o n x => have q := Same.opd (gl := gl) (x := x) h; simp only [ev1, evP, evR, evW, q]
  | load n x => have q := Same.opd (gl := gl) (x := x) h; simp only [ev1, evP, evR, evW, q]
  | nchk x => have q := Same.opd (gl := gl) (x := x) h; simp only [ev1, evP, evR, evW, q]
  | tas t z b x => have q := Same.opd (gl := gl) (x := x) h; simp only [ev1, evP, evR, evW, q]
  | ext i x => have q := Same.opd (gl := gl) (x := x) h; simp only [ev1, evP, evR, evW, q]
  | len x => have q := Same.opd (gl := gl) (x := x) h; simp only [ev1, evP, evR, evW, q]
  | box x => have q := Same.opd (gl := gl) (x := x) h; simp only [ev1, evP, evR, evW, q]
  | rng x => have q := Same.opd (gl := gl) (x := x) h; simp only [ev1, evP, evR, evW, q]
  | nxt x => have q := Same.opd (gl := gl) (x := x) h; simp only [ev1, evP, evR, evW, q]
end

/-- How loud an operation was tells what it did to the state. -/
theorem ev1_loud {gl : Nat → AV} {call : Calls'} {e : Env} {s s' : St} {m : MOp} {v : AV} {n : Nat} (h : ev1 gl call e s m = some (v, s', n)) :
    n ≤ 2 ∧ (n ≠ 2 → s' = s) ∧ (n = 0 → ∀ s2, ev1 gl call e s2 m = some (v, s2, 0)) := by
  unfold ev1 at h
  split at h
  · rename_i v0 hp
    cases h
    exact ⟨by omega, fun _ => rfl, fun _ s2 => by unfold ev1; rw [hp]⟩
  · split at h
    · cases h; exact ⟨by omega, fun _ => rfl, fun h => by omega⟩
    · split at h
      · split at h
        · split at h
          · cases h; exact ⟨by omega, fun h => by omega, fun h => by omega⟩
          · cases h
        · cases h
      · split at h
        · cases h; exact ⟨by omega, fun h => by omega, fun h => by omega⟩
        · cases h

/-! ### The order of the text -/
def wantedE (e : Env) (g : Option (Nat × Bool)) : Prop := g = none ∨ ∃ d b, g = some (d, b) ∧ e.at d = .bool b
def unwantedE (e : Env) (g : Option (Nat × Bool)) : Prop := ∃ d b c, g = some (d, b) ∧ e.at d = .bool c ∧ (c == b) = false
structure StepAt (gl : Nat → AV) (call : Calls') (Es : Nat → Env) (Ss : Nat → St) (Vs : Nat → AV) (Ls : Nat → Nat) (j : Nat) (i : MIns) : Prop where
  env : Es (j + 1) = (Es j).put i.dst (Vs j)
  way : (unwantedE (Es j) i.guard ∧ Vs j = .undef ∧ Ss (j + 1) = Ss j ∧ Ls j = 0) ∨ (wantedE (Es j) i.guard ∧ ev1 gl call (Es j) (Ss j) i.op = some (Vs j, Ss (j + 1), Ls j))
theorem trace_loud {gl : Nat → AV} {call : Calls'} {e' : Env} {s' : St} {l : List Nat} : ∀ (is : List MIns) (e : Env) (s : St) (acc : List Nat), evLoud gl call is e s acc = some (e', s', l) →
    ∃ (Es : Nat → Env) (Ss : Nat → St) (Vs : Nat → AV) (Ls : Nat → Nat), Es 0 = e ∧ Ss 0 = s ∧ Es is.length = e' ∧ Ss is.length = s' ∧ l = acc.reverse ++ (List.range is.length).map Ls ∧ ∀ j i, is[j]? = some i → StepAt gl call Es Ss Vs Ls j i := by
  intro is
  induction is with
  | nil =>
    intro e s acc h
    simp only [evLoud] at h
    cases h
    exact ⟨fun _ => e', fun _ => s', fun _ => .undef, fun _ => 0, rfl, rfl, rfl, rfl, by simp, fun j i hj => by simp at hj⟩
  | cons i is ih =>
    intro e s acc h
    simp only [evLoud] at h
    have fin : ∀ (v : AV) (s1 : St) (n : Nat), evLoud gl call is (e.put i.dst v) s1 (n :: acc) = some (e', s', l) →
        ((unwantedE e i.guard ∧ v = .undef ∧ s1 = s ∧ n = 0) ∨ (wantedE e i.guard ∧ ev1 gl call e s i.op = some (v, s1, n))) →
        ∃ (Es : Nat → Env) (Ss : Nat → St) (Vs : Nat → AV) (Ls : Nat → Nat), Es 0 = e ∧ Ss 0 = s ∧ Es (i :: is).length = e' ∧ Ss (i :: is).length = s' ∧ l = acc.reverse ++ (List.range (i :: is).length).map Ls ∧ ∀ j i', (i :: is)[j]? = some i' → StepAt gl call Es Ss Vs Ls j i' := by
      intro v s1 n hev hway
      obtain ⟨Es, Ss, Vs, Ls, h1, h2, h3, h4, h5, h6⟩ := ih _ _ _ hev
      refine ⟨fun | 0 => e | k + 1 => Es k, fun | 0 => s | k + 1 => Ss k, fun | 0 => v | k + 1 => Vs k, fun | 0 => n | k + 1 => Ls k, rfl, rfl, h3, h4, ?_, fun j i' hj => ?_⟩
      · rw [h5, List.length_cons, List.range_succ_eq_map]
        simp
      · cases j with
        | zero =>
          simp at hj
          subst hj
          refine ⟨h1, ?_⟩
          rcases hway with ⟨a, b, c, d⟩ | ⟨a, b⟩
          · exact .inl ⟨a, b, by show Ss 0 = s; rw [h2, c], d⟩
          · exact .inr ⟨a, by show ev1 gl call e s i.op = some (v, Ss 0, n); rw [h2]; exact b⟩
        | succ j =>
          have := h6 j i' (by simpa using hj)
          exact ⟨this.env, this.way⟩
    unfold guardR at h
    split at h
    · rename_i hg
      unfold opR at h
      split at h
      · rename_i v s1 n hev
        exact fin v s1 n h (.inr ⟨.inl hg, hev⟩)
      · cases h
    · rename_i d b hg
      split at h
      · rename_i c hc
        split at h
        · rename_i hcb
          unfold opR at h
          split at h
          · rename_i v s1 n hev
            have : c = b := by simpa using hcb
            subst this
            exact fin v s1 n h (.inr ⟨.inr ⟨d, c, hg, hc⟩, hev⟩)
          · cases h
        · rename_i hcb
          exact fin .undef s 0 h (.inl ⟨⟨d, b, c, hg, hc, by simpa using hcb⟩, rfl, rfl, rfl⟩)
      · cases h

/-! ### Any order -/
section
variable {gl : Nat → AV} {call : Calls'} (is : List MIns) (Es : Nat → Env) (Ss : Nat → St) (Vs : Nat → AV) (Ls : Nat → Nat) (e0 : Env)
/-- The frame when these have been run. -/
def envL (L : Nat → Bool) : Nat → Env
  | 0 => e0
  | k + 1 => match is[k]? with
    | some i => if L k then (envL L k).put i.dst (Vs k) else envL L k
    | none => envL L k
/-- Where the state stands when these have been run. -/
def kOf (L : Nat → Bool) : Nat → Nat
  | 0 => 0
  | k + 1 => if L k && Ls k == 2 then k + 1 else kOf L k
end

theorem put_len (e : Env) (d : Option Nat) (v : AV) : List.length (e.put d v) = List.length e := by cases d <;> simp [Env.put]
theorem put_at_ne (e : Env) (d : Option Nat) (v : AV) (t : Nat) (h : d ≠ some t) : (e.put d v).at t = e.at t := by
  cases d with
  | none => rfl
  | some d =>
    have : d ≠ t := fun q => h (by rw [q])
    simp [Env.put, Env.at, List.getElem?_set, this]
theorem put_at_same (e f : Env) (d : Option Nat) (v : AV) (t : Nat) (hl : List.length e = List.length f) (h : d = some t) : (e.put d v).at t = (f.put d v).at t := by
  subst h
  simp [Env.put, Env.at, List.getElem?_set, hl]

section
variable {gl : Nat → AV} {call : Calls'} {is : List MIns} {Es : Nat → Env} {Ss : Nat → St} {Vs : Nat → AV} {Ls : Nat → Nat}
theorem envL_len (e0 : Env) (L : Nat → Bool) : ∀ k, List.length (envL is Vs e0 L k) = List.length e0 := by
  intro k
  induction k with
  | zero => rfl
  | succ k ih =>
    simp only [envL]
    split
    · split
      · rw [put_len, ih]
      · exact ih
    · exact ih
theorem Es_len (hst : ∀ j i, is[j]? = some i → StepAt gl call Es Ss Vs Ls j i) : ∀ k, k ≤ is.length → List.length (Es k) = List.length (Es 0) := by
  intro k
  induction k with
  | zero => intro _; rfl
  | succ k ih =>
    intro hk
    have hi : is[k]? = some is[k] := List.getElem?_eq_getElem (by omega)
    rw [(hst k _ hi).env, put_len, ih (by omega)]
/-- A slot: where all that wrote it before j has been run, and none other, it holds what it held before j. -/
theorem envL_at (hst : ∀ j i, is[j]? = some i → StepAt gl call Es Ss Vs Ls j i) (L : Nat → Bool) (j t : Nat) (hj : j ≤ is.length)
    (hL : ∀ i x, is[i]? = some x → x.dst = some t → L i = decide (i < j)) : ∀ k, k ≤ is.length → (envL is Vs (Es 0) L k).at t = (Es (min k j)).at t := by
  intro k
  induction k with
  | zero => intro _; simp [envL]
  | succ k ih =>
    intro hk
    have hi : is[k]? = some is[k] := List.getElem?_eq_getElem (by omega)
    have hs := (hst k _ hi).env
    have ih' := ih (by omega)
    simp only [envL, hi]
    by_cases hd : is[k].dst = some t
    · have hLk := hL k _ hi hd
      by_cases hkj : k < j
      · rw [hLk, decide_eq_true hkj, if_pos rfl, Nat.min_eq_left (by omega), hs]
        refine put_at_same _ _ _ _ _ ?_ hd
        rw [envL_len, Es_len hst k (by omega)]
      · rw [hLk, decide_eq_false hkj]
        simp only [Bool.false_eq_true, if_false]
        rw [ih', Nat.min_eq_right (by omega), Nat.min_eq_right (by omega)]
    · have h1 : (if L k = true then (envL is Vs (Es 0) L k).put is[k].dst (Vs k) else envL is Vs (Es 0) L k).at t = (envL is Vs (Es 0) L k).at t := by
        split
        · exact put_at_ne _ _ _ _ hd
        · rfl
      rw [h1, ih']
      by_cases hkj : k < j
      · rw [Nat.min_eq_left (by omega), Nat.min_eq_left (by omega), hs, put_at_ne _ _ _ _ hd]
      · rw [Nat.min_eq_right (by omega), Nat.min_eq_right (by omega)]
/-- The state: where all that turned it before j has been run, and none other. -/
theorem kOf_at (hst : ∀ j i, is[j]? = some i → StepAt gl call Es Ss Vs Ls j i) (L : Nat → Bool) (j : Nat) (hj : j ≤ is.length)
    (hL : ∀ i, i < is.length → Ls i = 2 → L i = decide (i < j)) : ∀ k, k ≤ is.length → Ss (kOf Ls L k) = Ss (min k j) := by
  intro k
  induction k with
  | zero => intro _; simp [kOf]
  | succ k ih =>
    intro hk
    have hi : is[k]? = some is[k] := List.getElem?_eq_getElem (by omega)
    have ih' := ih (by omega)
    simp only [kOf]
    by_cases h2 : Ls k = 2
    · have hLk := hL k (by omega) h2
      by_cases hkj : k < j
      · rw [hLk, decide_eq_true hkj, h2]
        simp only [Bool.true_and, beq_self_eq_true, if_true]
        rw [Nat.min_eq_left (by omega)]
      · rw [hLk, decide_eq_false hkj]
        simp only [Bool.false_and, Bool.false_eq_true, if_false]
        rw [ih', Nat.min_eq_right (by omega), Nat.min_eq_right (by omega)]
    · have : (L k && Ls k == 2) = false := by simp [h2]
      rw [this]
      simp only [Bool.false_eq_true, if_false]
      rw [ih']
      by_cases hkj : k < j
      · rw [Nat.min_eq_left (by omega), Nat.min_eq_left (by omega)]
        have hway := (hst k _ hi).way
        rcases hway with ⟨_, _, h, _⟩ | ⟨_, h⟩
        · exact h.symm
        · exact ((ev1_loud h).2.1 h2).symm
      · rw [Nat.min_eq_right (by omega), Nat.min_eq_right (by omega)]
end

/-! ### A region drawn from -/
theorem cInss_get {P : Program} {oks : List (Nat × EqF)} {ht : List TypeId} {ops : Array Oper} : ∀ (l : List Oper) (is : List MIns), cInss P oks ht ops l = some is →
    is.length = l.length ∧ ∀ (j : Nat) (o : Oper), l[j]? = some o → ∃ i, is[j]? = some i ∧ cIns P oks ht ops o = some i := by
  intro l
  induction l with
  | nil => intro is h; simp only [cInss] at h; cases h; exact ⟨rfl, fun j o hj => by simp at hj⟩
  | cons o os ih =>
    intro is h
    simp only [cInss] at h
    split at h
    · rename_i i is' hi his
      cases h
      obtain ⟨h1, h2⟩ := ih _ his
      refine ⟨by simp [h1], fun j o' hj => ?_⟩
      cases j with
      | zero => simp at hj; subst hj; exact ⟨i, by simp, hi⟩
      | succ j => simpa using h2 j o' (by simpa using hj)
    · cases h
theorem bfMask_bit {bf : List Nat} {k : Nat} : ∀ (es : List Edge), (bfMask bf es).testBit k = true → ∃ e ∈ es, Region.binds .any e = true ∧ (k = e.on ∨ (bf.getD e.on 0).testBit k = true) := by
  intro es
  induction es with
  | nil => intro h; simp [bfMask] at h
  | cons e es ih =>
    intro h
    simp only [bfMask] at h
    split at h
    · rename_i hb
      rw [Nat.testBit_or, Nat.testBit_or, Bool.or_eq_true, Bool.or_eq_true] at h
      rcases h with (h | h) | h
      · obtain ⟨e', h1, h2⟩ := ih h; exact ⟨e', List.mem_cons_of_mem _ h1, h2⟩
      · rw [Nat.testBit_two_pow] at h
        exact ⟨e, List.mem_cons_self, hb, .inl (of_decide_eq_true h).symm⟩
      · exact ⟨e, List.mem_cons_self, hb, .inr h⟩
    · obtain ⟨e', h1, h2⟩ := ih h; exact ⟨e', List.mem_cons_of_mem _ h1, h2⟩
theorem or_eq_bit {a b k : Nat} (h : (a ||| b) = b) (ha : a.testBit k = true) : b.testBit k = true := by
  rw [← h, Nat.testBit_or, ha]; rfl
theorem and_zero_bit {a b k : Nat} (h : a &&& b = 0) (ha : a.testBit k = true) (hb : b.testBit k = true) : False := by
  have : (a &&& b).testBit k = true := by rw [Nat.testBit_and, ha, hb]; rfl
  rw [h] at this
  simp at this
theorem countP_lt {α : Type} {l : List α} {p q : α → Bool} (hle : ∀ x, q x = true → p x = true) {j : α} (hj : j ∈ l) (hp : p j = true) (hq : q j = false) : l.countP q < l.countP p := by
  induction l with
  | nil => cases hj
  | cons x xs ih =>
    rw [List.countP_cons, List.countP_cons]
    have hm : xs.countP q ≤ xs.countP p := List.countP_mono_left (fun y _ hy => hle y hy)
    rcases List.mem_cons.1 hj with rfl | hj
    · rw [hp, hq]; simp; omega
    · have := ih hj
      cases hx : q x with
      | true => rw [hle x hx]; simp; omega
      | false => cases p x <;> simp <;> omega
theorem dst_bit {i : MIns} {t : Nat} (h : i.dst = some t) : (dstB i).testBit t = true := by
  unfold dstB; rw [h]; exact Nat.testBit_two_pow_self
theorem envL_congr {is : List MIns} {Vs : Nat → AV} {e0 : Env} {L L' : Nat → Bool} {j t : Nat} (hL : ∀ i, i ≠ j → L' i = L i) (hd : ∀ i, is[j]? = some i → i.dst ≠ some t) : ∀ k, (envL is Vs e0 L' k).at t = (envL is Vs e0 L k).at t := by
  intro k
  induction k with
  | zero => rfl
  | succ k ih =>
    simp only [envL]
    cases hi : is[k]? with
    | none => exact ih
    | some i =>
      by_cases hk : k = j
      · subst hk
        have hd' := hd i hi
        have h1 : ∀ L : Nat → Bool, (if L k = true then (envL is Vs e0 L k).put i.dst (Vs k) else envL is Vs e0 L k).at t = (envL is Vs e0 L k).at t := by
          intro L
          split
          · exact put_at_ne _ _ _ _ hd'
          · rfl
        show (if L' k = true then _ else _ : Env).at t = (if L k = true then _ else _ : Env).at t
        rw [h1, h1, ih]
      · show (if L' k = true then _ else _ : Env).at t = (if L k = true then _ else _ : Env).at t
        rw [hL k hk]
        split
        · by_cases hd' : i.dst = some t
          · exact put_at_same _ _ _ _ _ (by rw [envL_len, envL_len]) hd'
          · rw [put_at_ne _ _ _ _ hd', put_at_ne _ _ _ _ hd', ih]
        · exact ih
theorem kOf_congr {Ls : Nat → Nat} {L L' : Nat → Bool} {j : Nat} (hL : ∀ i, i ≠ j → L' i = L i) (hj : Ls j ≠ 2) : ∀ k, kOf Ls L' k = kOf Ls L k := by
  intro k
  induction k with
  | zero => rfl
  | succ k ih =>
    simp only [kOf, ih]
    by_cases hk : k = j
    · subst hk
      have : (Ls k == 2) = false := by simpa using hj
      simp [this]
    · rw [hL k hk]
theorem RelE.congr {G : Gh} {gl : Nat → AV} {e f : Env} {a : Act} (h : RelE G gl e a) (hl : List.length f = List.length e) (hat : ∀ t, f.at t = e.at t) : RelE G gl f a :=
  ⟨fun i => by rw [hat]; exact h.at_ i, by rw [hl]; exact h.size, h.glob⟩

section
variable {P : Program} {w0 : World} {gl : Nat → AV}
theorem draw_sound {ht : List TypeId} {ops : Array Oper} {call : Calls'} (hcall : CallOk P gl w0 call) (hm : P.follows .mixedOrders = true) {is : List MIns}
    (hc : cInss P (eqOks P) ht ops ops.toList = some is) {bf : List Nat} (hb : bfOk ops.toList bf = true) (hs : slotsOk is bf = true)
    {e e' : Env} {s s' : St} {l : List Nat} (h : evLoud gl call is e s [] = some (e', s', l)) (hcalm : calm bf l = true)
    {G : Gh} {a : Act} {w : World} (hE : RelE G gl e a) (hS : RelS G w0 s w) {Q : Exit → Act → World → Prop} {id : Nat}
    (hQ : ∀ G' a' w', G.le G' → RelE G' gl e' a' → RelS G' w0 s' w' → a'.defers = a.defers → Q .normal a' w') : (Code.region id ops true).wp P Q a w := by
  obtain ⟨Es, Ss, Vs, Ls, h1, h2, h3, h4, h5, h6⟩ := trace_loud is e s [] h
  obtain ⟨hlen, hget⟩ := cInss_get _ _ hc
  have hlen : is.length = ops.size := by simpa using hlen
  have hget : ∀ j o, ops[j]? = some o → ∃ i, is[j]? = some i ∧ cIns P (eqOks P) ht ops o = some i := fun j o hj => hget j o (by simpa using hj)
  have hl : l = (List.range ops.size).map Ls := by rw [h5, hlen]; rfl
  have hcp : ∀ i j, i < j → j < ops.size → (bf.getD j 0).testBit i = true ∨ Ls i + Ls j < 3 ∨ Ls i = 0 ∨ Ls j = 0 := by
    intro i j hij hj
    unfold calm at hcalm
    rw [List.all_eq_true] at hcalm
    have q1 := hcalm j (List.mem_range.2 (by rw [hl]; simpa using hj))
    rw [List.all_eq_true] at q1
    have q2 := q1 i (List.mem_range.2 hij)
    have gi : l.getD i 0 = Ls i := by rw [hl]; simp [List.getElem?_map, List.getElem?_range (show i < ops.size by omega)]
    have gj : l.getD j 0 = Ls j := by rw [hl]; simp [List.getElem?_map, List.getElem?_range hj]
    unfold calmPair at q2
    rw [gi, gj] at q2
    simp only [Bool.or_eq_true, decide_eq_true_eq, beq_iff_eq] at q2
    rcases q2 with ((q | q) | q) | q
    · exact .inl q
    · exact .inr (.inl q)
    · exact .inr (.inr (.inl q))
    · exact .inr (.inr (.inr q))
  have hsl : ∀ i j x y, i < j → is[i]? = some x → is[j]? = some y → (bf.getD j 0).testBit i = true ∨ (dstB x &&& slotsI y = 0 ∧ dstB y &&& slotsI x = 0) := by
    intro i j x y hij hx hy
    have hj : j < is.length := (List.getElem?_eq_some_iff.1 hy).1
    unfold slotsOk at hs
    rw [List.all_eq_true] at hs
    have q1 := hs j (List.mem_range.2 hj)
    rw [List.all_eq_true] at q1
    have q2 := q1 i (List.mem_range.2 hij)
    rw [hx, hy] at q2
    simp only [Bool.or_eq_true, Bool.and_eq_true, beq_iff_eq] at q2
    exact q2
  have hbf : ∀ j o, ops[j]? = some o → (∀ k, (bf.getD j 0).testBit k = true → ∃ e ∈ o.after.toList, Region.binds .any e = true ∧ (k = e.on ∨ (bf.getD e.on 0).testBit k = true)) ∧ ∀ e ∈ o.after.toList, Region.binds .any e = true → e.on < j := by
    intro j o hj
    have hjl : j < ops.size := (Array.getElem?_eq_some_iff.1 hj).1
    unfold bfOk at hb
    rw [List.all_eq_true] at hb
    have q := hb j (List.mem_range.2 (by simpa using hjl))
    rw [show ops.toList[j]? = some o by simpa using hj] at q
    simp only [Bool.and_eq_true, beq_iff_eq, List.all_eq_true, Bool.or_eq_true, Bool.not_eq_true', decide_eq_true_eq] at q
    refine ⟨fun k hk => bfMask_bit _ (or_eq_bit q.1 hk), fun e he hbd => ?_⟩
    rcases q.2 e he with hn | hn
    · rw [hbd] at hn; cases hn
    · exact hn
  have key : ∀ (fuel : Nat) (listed : Array Bool) (G1 : Gh) (a1 : Act) (w1 : World), listed.size = ops.size →
      (∀ j k, listed.getD j false = true → (bf.getD j 0).testBit k = true → listed.getD k false = true) →
      (List.range ops.size).countP (fun i => !listed.getD i false) ≤ fuel → G.le G1 →
      RelE G1 gl (envL is Vs (Es 0) (fun i => listed.getD i false) ops.size) a1 → RelS G1 w0 (Ss (kOf Ls (fun i => listed.getD i false) ops.size)) w1 → a1.defers = a.defers →
      wpAny P .any ops Q fuel listed a1 w1 := by
    intro fuel
    induction fuel with
    | zero =>
      intro listed G1 a1 w1 hsz hcl hcnt hG hE1 hS1 hd
      have hall : ∀ i, i < ops.size → listed.getD i false = true := by
        intro i hi
        have q := List.countP_eq_zero.1 (Nat.le_zero.1 hcnt) i (List.mem_range.2 hi)
        simpa using q
      refine ⟨?_, ?_⟩
      · unfold Region.ready
        rw [List.filter_eq_nil_iff]
        intro i hi
        have hi := List.mem_range.1 hi
        have q := hall i hi
        have : listed.getD i true = true := by
          rw [Array.getD_eq_getD_getElem?] at q ⊢
          rw [Array.getElem?_eq_getElem (by omega)] at q ⊢
          exact q
        simp [this]
      · refine hQ G1 a1 w1 hG (hE1.congr ?_ fun t => ?_) ?_ hd
        · rw [envL_len, ← h3, Es_len h6 _ (Nat.le_refl _)]
        · have q := envL_at h6 (fun i => listed.getD i false) is.length t (Nat.le_refl _) (fun i x hx hdx => by
            have hil : i < is.length := (List.getElem?_eq_some_iff.1 hx).1
            simp only [hall i (by omega), decide_eq_true hil]) ops.size (by omega)
          rw [q, ← hlen, Nat.min_self, h3]
        · have q := kOf_at h6 (fun i => listed.getD i false) is.length (Nat.le_refl _) (fun i hi _ => by
            simp only [hall i (by omega), decide_eq_true hi]) ops.size (by omega)
          rw [← h4, hlen, show Ss ops.size = Ss (min ops.size is.length) by rw [hlen, Nat.min_self], ← q]
          exact hS1
    | succ fuel ih =>
      intro listed G1 a1 w1 hsz hcl hcnt hG hE1 hS1 hd
      have hdef : ∀ i, i < ops.size → listed.getD i true = listed.getD i false := by
        intro i hi
        rw [Array.getD_eq_getD_getElem?, Array.getD_eq_getD_getElem?, Array.getElem?_eq_getElem (by omega)]
        rfl
      refine ⟨fun hnil => ?_, fun j hj => ?_⟩
      · -- none is ready: all are listed
        have hall : ∀ i, i < ops.size → listed.getD i false = true := by
          intro i
          induction i using Nat.strongRecOn with
          | _ i ihi =>
            intro hi
            cases hli : listed.getD i false with
            | true => rfl
            | false =>
              exfalso
              have ho : ops[i]? = some ops[i] := Array.getElem?_eq_getElem hi
              have : i ∈ Region.ready .any ops listed := mem_ready.2 ⟨by rw [hdef i hi, hli], ops[i], ho, fun e he hbd => ihi e.on ((hbf i _ ho).2 e (by simpa using he) hbd) (by
                have := (hbf i _ ho).2 e (by simpa using he) hbd
                omega)⟩
              rw [hnil] at this
              cases this
        refine hQ G1 a1 w1 hG (hE1.congr ?_ fun t => ?_) ?_ hd
        · rw [envL_len, ← h3, Es_len h6 _ (Nat.le_refl _)]
        · have q := envL_at h6 (fun i => listed.getD i false) is.length t (Nat.le_refl _) (fun i x hx hdx => by
            have hil : i < is.length := (List.getElem?_eq_some_iff.1 hx).1
            simp only [hall i (by omega), decide_eq_true hil]) ops.size (by omega)
          rw [q, ← hlen, Nat.min_self, h3]
        · have q := kOf_at h6 (fun i => listed.getD i false) is.length (Nat.le_refl _) (fun i hi _ => by
            simp only [hall i (by omega), decide_eq_true hi]) ops.size (by omega)
          rw [← h4, hlen, show Ss ops.size = Ss (min ops.size is.length) by rw [hlen, Nat.min_self], ← q]
          exact hS1
      · -- the next one
        obtain ⟨hj0, o, ho, hbind⟩ := mem_ready.1 hj
        have hjl : j < ops.size := (Array.getElem?_eq_some_iff.1 ho).1
        have hj0 : listed.getD j false = false := by rw [← hdef j hjl]; exact hj0
        obtain ⟨i, hi, hci⟩ := hget j o ho
        obtain ⟨p1, p2, p3⟩ := cIns_parts hci
        have hbefore : ∀ k, (bf.getD j 0).testBit k = true → listed.getD k false = true := by
          intro k hk
          obtain ⟨ed, he1, he2, he3⟩ := (hbf j o ho).1 k hk
          have hl1 := hbind ed (by simpa using he1) he2
          rcases he3 with rfl | he3
          · exact hl1
          · exact hcl _ _ hl1 he3
        -- whose slots touch those of j
        have hwr : ∀ t, (slotsI i).testBit t = true → ∀ k x, is[k]? = some x → x.dst = some t → k ≠ j → listed.getD k false = decide (k < j) := by
          intro t ht k x hx hdx hkj
          rcases Nat.lt_or_gt_of_ne hkj with hlt | hgt
          · rw [decide_eq_true hlt]
            rcases hsl k j x i hlt hx hi with q | q
            · exact hbefore k q
            · exact (and_zero_bit q.1 (dst_bit hdx) ht).elim
          · rw [decide_eq_false (by omega)]
            rcases hsl j k i x hgt hi hx with q | q
            · cases hlk : listed.getD k false with
              | false => rfl
              | true => rw [hcl k j hlk q] at hj0; cases hj0
            · exact (and_zero_bit q.2 (dst_bit hdx) ht).elim
        have hat : ∀ t, (slotsI i).testBit t = true → (envL is Vs (Es 0) (fun i => listed.getD i false) ops.size).at t = (Es j).at t := by
          intro t ht
          have q := envL_at h6 (fun i => listed.getD i false) j t (by omega) (fun k x hx hdx => by
            by_cases hkj : k = j
            · subst hkj; simp only [hj0]; simp
            · exact hwr t ht k x hx hdx hkj) ops.size (by omega)
          rw [q, Nat.min_eq_right (by omega)]
        have hstep := h6 j i hi
        -- what comes behind
        have hnext : ∀ (G' : Gh) (v' : Value) (w' : World), G1.le G' → RelV G' (Vs j) v' →
            RelS G' w0 (Ss (kOf Ls (fun i => (listed.setIfInBounds j true).getD i false) ops.size)) w' →
            wpAny P .any ops Q fuel (listed.setIfInBounds j true) (a1.put o.dst v') w' := by
          intro G' v' w' hG' hv hs'
          have hne : ∀ k, k ≠ j → (listed.setIfInBounds j true).getD k false = listed.getD k false := fun k hk => getD_set_ne false (Ne.symm hk)
          have hjt : (listed.setIfInBounds j true).getD j false = true := by
            simp [show j < listed.size by omega]
          refine ih _ G' _ _ (by simpa using hsz) (fun j2 k hj2 hk => ?_) ?_ (hG.trans hG') ?_ hs' (by rw [put_defers]; exact hd)
          · apply getD_set_true
            by_cases e2 : j2 = j
            · subst e2; exact hbefore k hk
            · rw [hne j2 e2] at hj2; exact hcl j2 k hj2 hk
          · have := countP_lt (l := List.range ops.size) (p := fun i => !listed.getD i false) (q := fun i => !(listed.setIfInBounds j true).getD i false) (fun x hx => by
              by_cases e2 : x = j
              · subst e2; simp only [hj0]; rfl
              · simp only [hne x e2] at hx; exact hx) (j := j) (List.mem_range.2 hjl) (by simp only [hj0]; rfl) (by simp only [hjt]; rfl)
            omega
          · refine ((hE1.mono hG').put o.dst hv).congr ?_ fun t => ?_
            · rw [put_len, envL_len, envL_len]
            · by_cases hdt : i.dst = some t
              · have ht : (slotsI i).testBit t = true := by
                  unfold slotsI
                  rw [Nat.testBit_or, Nat.testBit_or, dst_bit hdt]; simp
                have q := envL_at h6 (fun i => (listed.setIfInBounds j true).getD i false) (j + 1) t (by omega) (fun k x hx hdx => by
                  by_cases hkj : k = j
                  · subst hkj; simp only [hjt]; simp
                  · have q := hwr t ht k x hx hdx hkj
                    simp only [hne k hkj, q]
                    congr 1
                    simp; omega) ops.size (by omega)
                rw [q, Nat.min_eq_right (by omega), hstep.env, ← p2]
                refine put_at_same _ _ _ _ _ ?_ hdt
                rw [envL_len, Es_len h6 _ (by omega)]
              · rw [← p2, put_at_ne _ _ _ _ hdt]
                exact envL_congr (fun k hk => hne k hk) (fun i' hi' => by rw [hi] at hi'; cases hi'; exact hdt) ops.size
        -- the state
        have hk2 : Ls j ≠ 2 → kOf Ls (fun i => (listed.setIfInBounds j true).getD i false) ops.size = kOf Ls (fun i => listed.getD i false) ops.size :=
          fun hne2 => kOf_congr (fun k hk => getD_set_ne false (Ne.symm hk)) hne2 _
        have hgE : ∀ r : Bool, guardR (Es j) i.guard (some true) (some false) = some r → guardR (envL is Vs (Es 0) (fun i => listed.getD i false) ops.size) i.guard (some true) (some false) = some r := by
          intro r hr
          unfold guardR at hr ⊢
          cases hg : i.guard with
          | none => rw [hg] at hr; exact hr
          | some gb =>
            obtain ⟨d, b⟩ := gb
            rw [hg] at hr
            have : (slotsI i).testBit d = true := by
              unfold slotsI
              rw [Nat.testBit_or, hg]
              simp [Nat.testBit_two_pow_self]
            simp only [hat d this]
            exact hr
        unfold wpOp
        simp only [ho]
        rcases hstep.way with ⟨u1, u2, u3, u4⟩ | ⟨u1, u2⟩
        · obtain ⟨d, b, c, g1, g2, g3⟩ := u1
          have hg : guardR (Es j) i.guard (some true) (some false) = some false := by
            rw [g1]; simp only [guardR, g2, g3]; rfl
          rcases guard_sound hE1 p3 (hgE _ hg) with ⟨_, q⟩ | ⟨q, _⟩
          · cases q
          · rw [if_neg (by rw [q]; simp)]
            exact hnext G1 undef w1 (Gh.le_refl G1) (by rw [u2]; exact .undef _) (by rw [hk2 (by omega)]; exact hS1)
        · have hg : guardR (Es j) i.guard (some true) (some false) = some true := by
            rcases u1 with g1 | ⟨d, b, g1, g2⟩
            · rw [g1]; rfl
            · rw [g1]; simp only [guardR, g2]; simp
          rcases guard_sound hE1 p3 (hgE _ hg) with ⟨q, _⟩ | ⟨_, q⟩
          · rw [if_pos q]
            left
            have hsame : Same (envL is Vs (Es 0) (fun i => listed.getD i false) ops.size) (Es j) (reads i.op) := fun t ht => hat t (by
              unfold slotsI
              rw [Nat.testBit_or, Nat.testBit_or, ht]; simp)
            obtain ⟨v1, v2, v3⟩ := ev1_loud u2
            by_cases hz : Ls j = 0
            · have hev := v3 hz (Ss (kOf Ls (fun i => listed.getD i false) ops.size))
              rw [← ev1_same hsame] at hev
              exact op_sound hcall p1 hE1 hS1 hev (fun G' v' w' q1 q2 q3 => hnext G' v' w' q1 q2 (by rw [hk2 (by omega)]; exact q3))
            · have hord : ∀ k, k < is.length → k ≠ j → (Ls k = 2 ∨ (Ls k ≠ 0 ∧ Ls j = 2)) → listed.getD k false = decide (k < j) := by
                intro k hk hkj h2
                rcases Nat.lt_or_gt_of_ne hkj with hlt | hgt
                · rw [decide_eq_true hlt]
                  rcases hcp k j hlt hjl with q | q | q | q
                  · exact hbefore k q
                  · omega
                  · omega
                  · omega
                · rw [decide_eq_false (by omega)]
                  rcases hcp j k hgt (by omega) with q | q | q | q
                  · cases hlk : listed.getD k false with
                    | false => rfl
                    | true => rw [hcl k j hlk q] at hj0; cases hj0
                  · omega
                  · omega
                  · omega
              have hst : Ss (kOf Ls (fun i => listed.getD i false) ops.size) = Ss j := by
                have q := kOf_at h6 (fun i => listed.getD i false) j (by omega) (fun k hk h2 => by
                  by_cases hkj : k = j
                  · subst hkj; simp only [hj0]; simp
                  · exact hord k hk hkj (.inl h2)) ops.size (by omega)
                rw [q, Nat.min_eq_right (by omega)]
              rw [hst] at hS1
              have hev := u2
              rw [← ev1_same hsame] at hev
              refine op_sound hcall p1 hE1 hS1 hev (fun G' v' w' q1 q2 q3 => hnext G' v' w' q1 q2 ?_)
              by_cases h2 : Ls j = 2
              · have q := kOf_at h6 (fun i => (listed.setIfInBounds j true).getD i false) (j + 1) (by omega) (fun k hk h2' => by
                  by_cases hkj : k = j
                  · subst hkj; simp [show k < listed.size by omega]
                  · have q := hord k hk hkj (.inl h2')
                    simp only [getD_set_ne false (Ne.symm hkj), q]
                    congr 1
                    simp; omega) ops.size (by omega)
                rw [q, Nat.min_eq_right (by omega)]
                exact q3
              · rw [hk2 h2, hst, ← v2 h2]
                exact q3
          · cases q
  refine wp_region_any hm ?_
  have hL0 : ∀ i, (Array.replicate ops.size false).getD i false = false := by
    intro i
    rw [Array.getD_eq_getD_getElem?, Array.getElem?_replicate]
    split <;> rfl
  have he0 : ∀ k, envL is Vs (Es 0) (fun i => (Array.replicate ops.size false).getD i false) k = Es 0 := by
    intro k
    induction k with
    | zero => rfl
    | succ k ih =>
      simp only [envL, hL0, Bool.false_eq_true, if_false] at ih ⊢
      cases is[k]? <;> exact ih
  have hk0 : ∀ k, kOf Ls (fun i => (Array.replicate ops.size false).getD i false) k = 0 := by
    intro k
    induction k with
    | zero => rfl
    | succ k ih => simp only [kOf, hL0, Bool.false_and, Bool.false_eq_true, if_false] at ih ⊢; exact ih
  refine key ops.size _ G a _ (by simp) (fun j k hj _ => by rw [hL0] at hj; cases hj) ?_ (Gh.le_refl G) (by rw [he0, h1]; exact hE) (by rw [hk0, h2]; exact hS.drew) rfl
  exact Nat.le_trans List.countP_le_length (by simp)
end

end Go.Ab
