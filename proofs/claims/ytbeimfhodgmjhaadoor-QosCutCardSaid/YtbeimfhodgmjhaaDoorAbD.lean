/- The evaluator is sound: regions whose operations may come in more orders than one. No conditions. -/
import Derived.Test.YtbeimfhodgmjhaaDoorAb11
import Derived.Orders
set_option linter.unusedSimpArgs false
set_option linter.unusedVariables false
namespace Go.Ab
open Go

/-! ### What an operation looks at -/
section
variable {gl : Nat → AV} {e1 e2 : Env}
def Same (e1 e2 : Env) (b : Nat) : Prop := ∀ t, b.testBit t = true → e1.at t = e2.at t
theorem Same.left {a b : Nat} (h : Same e1 e2 (a ||| b)) : Same e1 e2 a := fun t ht => h t (by rw [Nat.testBit_or, ht]; rfl)
theorem Same.right {a b : Nat} (h : Same e1 e2 (a ||| b)) : Same e1 e2 b := fun t ht => h t (by rw [Nat.testBit_or, ht]; simp)
theorem Same.opd {x : Opd} (h : Same e1 e2 (opdB x)) : opd gl e1 x = opd gl e2 x := by
  cases x with
  | s i => exact h i Nat.testBit_two_pow_self
  | c v => rfl
  | g i => rfl
theorem opdBs_acc (l : List Opd) : ∀ (b : Nat) (t : Nat), (l.foldl (fun b x => b ||| opdB x) b).testBit t = (b.testBit t || l.any fun x => (opdB x).testBit t) := by
  induction l with
  | nil => intro b t; simp
  | cons x xs ih => intro b t; simp only [List.foldl_cons, ih, Nat.testBit_or, List.any_cons, Bool.or_assoc]
theorem Same.opds {l : List Opd} (h : Same e1 e2 (opdBs l)) : ∀ x ∈ l, Ab.opd gl e1 x = Ab.opd gl e2 x := by
  intro x hx
  refine Same.opd (fun t ht => h t ?_)
  rw [opdBs, opdBs_acc]
  simp only [Nat.zero_testBit, Bool.false_or, List.any_eq_true]
  exact ⟨x, hx, ht⟩
theorem map_same {l : List Opd} (h : ∀ x ∈ l, opd gl e1 x = opd gl e2 x) : l.map (opd gl e1) = l.map (opd gl e2) := List.map_congr_left h
theorem fill_same {cells : List AV} {ps : List (Nat × Nat × Opd)} (h : ∀ x ∈ ps.map (·.2.2), opd gl e1 x = opd gl e2 x) : fill gl e1 cells ps = fill gl e2 cells ps := by
  induction ps generalizing cells with
  | nil => rfl
  | cons p ps ih =>
    obtain ⟨off, size, x⟩ := p
    have hx := h x (by simp)
    have ih' : ∀ c, fill gl e1 c ps = fill gl e2 c ps := fun c => ih (fun y hy => h y (by simp at hy ⊢; exact .inr hy))
    simp only [fill, hx, ih']
theorem freezeL_same {s : St} {l : List (Nat × Opd)} (h : ∀ x ∈ l.map (·.2), opd gl e1 x = opd gl e2 x) : freezeL gl e1 s l = freezeL gl e2 s l := by
  induction l generalizing s with
  | nil => rfl
  | cons p ps ih =>
    obtain ⟨n, x⟩ := p
    have hx := h x (by simp)
    have ih' : ∀ s, freezeL gl e1 s ps = freezeL gl e2 s ps := fun s => ih (fun y hy => h y (by simp at hy ⊢; exact .inr hy))
    simp only [freezeL, hx, ih']
theorem ev1_same {call : Calls'} {s : St} {m : MOp} (h : Same e1 e2 (reads m)) : ev1 gl call e1 s m = ev1 gl call e2 s m := by
  cases m with
  | pick c a b => have q := Same.opds (gl := gl) h; simp only [ev1, evP, evR, evW, q c (by simp), q a (by simp), q b (by simp)]
  | bin op x y => have q := Same.opds (gl := gl) h; simp only [ev1, evP, evR, evW, q x (by simp), q y (by simp)]
  | eqv n k x y => have q := Same.opds (gl := gl) h; simp only [ev1, evP, evR, evW, q x (by simp), q y (by simp)]
  | ixa n x y => have q := Same.opds (gl := gl) h; simp only [ev1, evP, evR, evW, q x (by simp), q y (by simp)]
  | ixs x y => have q := Same.opds (gl := gl) h; simp only [ev1, evP, evR, evW, q x (by simp), q y (by simp)]
  | ixp l n x y => have q := Same.opds (gl := gl) h; simp only [ev1, evP, evR, evW, q x (by simp), q y (by simp)]
  | ix l n b x y => have q := Same.opds (gl := gl) h; simp only [ev1, evP, evR, evW, q x (by simp), q y (by simp)]
  | store n x y => have q := Same.opds (gl := gl) h; simp only [ev1, evP, evR, evW, q x (by simp), q y (by simp)]
  | cpy n x y => have q := Same.opds (gl := gl) h; simp only [ev1, evP, evR, evW, q x (by simp), q y (by simp)]
  | app hp n b x y => have q := Same.opds (gl := gl) h; simp only [ev1, evP, evR, evW, q x (by simp), q y (by simp)]
  | mks n b z x y => have q := Same.opds (gl := gl) h; simp only [ev1, evP, evR, evW, q x (by simp), q y (by simp)]
  | slc n x l hh =>
    have q := Same.opds (gl := gl) h
    have ql : l.map (opd gl e1) = l.map (opd gl e2) := by cases l <;> simp_all
    have qh : hh.map (opd gl e1) = hh.map (opd gl e2) := by cases hh <;> simp_all
    simp only [ev1, evP, evR, evW, q x (by simp), ql, qh]
  | sls x l hh =>
    have q := Same.opds (gl := gl) h
    have ql : l.map (opd gl e1) = l.map (opd gl e2) := by cases l <;> simp_all
    have qh : hh.map (opd gl e1) = hh.map (opd gl e2) := by cases hh <;> simp_all
    simp only [ev1, evP, evR, evW, q x (by simp), ql, qh]
  | mn l => have q := map_same (Same.opds (gl := gl) h); simp only [ev1, evP, evR, evW, q]
  | mx l => have q := map_same (Same.opds (gl := gl) h); simp only [ev1, evP, evR, evW, q]
  | call f args => have q := freezeL_same (s := s) (Same.opds (gl := gl) h); simp only [ev1, evP, evR, q]
  | build z ps => have q := fill_same (cells := z) (Same.opds (gl := gl) h); simp only [ev1, evP, evR, evW, q]
  | bsl hp n len z ps => have q := fill_same (cells := z) (Same.opds (gl := gl) h); simp only [ev1, evP, evR, evW, q]
  | alloc z => rfl
  | conv c x => have q := Same.opd (gl := gl) (x := x) h; cases c <;> simp only [ev1, evP, evR, evW, q]
  | mv x => have q := Same.opd (gl := gl) (x := x) h; simp only [ev1, evP, evR, evW, q]
  | un op x => have q := Same.opd (gl := gl) (x := x) h; simp only [ev1, evP, evR, evW, q]
  | mki t x => have q := Same.opd (gl := gl) (x := x) h; simp only [ev1, evP, evR, evW, q]
  | lens x => have q := Same.opd (gl := gl) (x := x) h; simp only [ev1, evP, evR, evW, q]
  | fa o x => have q := Same.opd (gl := gl) (x := x) h; simp only [ev1, evP, evR, evW, q]
  | fld o n x => have q := Same.opd (gl := gl) (x := x) h; simp only [ev1, evP, evR, evW, q]
  | load n x => have q := Same.opd (gl := gl) (x := x) h; simp only [ev1, evP, evR, evW, q]
  | nchk x => have q := Same.opd (gl := gl) (x := x) h; simp only [ev1, evP, evR, evW, q]
  | tas t z b x => have q := Same.opd (gl := gl) (x := x) h; simp only [ev1, evP, evR, evW, q]
  | ext i x => have q := Same.opd (gl := gl) (x := x) h; simp only [ev1, evP, evR, evW, q]
  | len x => have q := Same.opd (gl := gl) (x := x) h; simp only [ev1, evP, evR, evW, q]
  | box x => have q := Same.opd (gl := gl) (x := x) h; simp only [ev1, evP, evR, evW, q]
  | rng x => have q := Same.opd (gl := gl) (x := x) h; simp only [ev1, evP, evR, evW, q]
  | nxt x => have q := Same.opd (gl := gl) (x := x) h; simp only [ev1, evP, evR, evW, q]
end

/-- How loud an operation was tells what it did to the state. -/
theorem ev1_loud {gl : Nat → AV} {call : Calls'} {e : Env} {s s' : St} {m : MOp} {v : AV} {n : Nat} (h : ev1 gl call e s m = some (v, s', n)) :
    n ≤ 2 ∧ (n ≠ 2 → s' = s) ∧ (n = 0 → ∀ s2, ev1 gl call e s2 m = some (v, s2, 0)) := by
  unfold ev1 at h
  split at h
  · rename_i v0 hp
    cases h
    exact ⟨by omega, fun _ => rfl, fun _ s2 => by unfold ev1; rw [hp]⟩
  · split at h
    · cases h; exact ⟨by omega, fun _ => rfl, fun h => by omega⟩
    · split at h
      · split at h
        · split at h
          · cases h; exact ⟨by omega, fun h => by omega, fun h => by omega⟩
          · cases h
        · cases h
      · split at h
        · cases h; exact ⟨by omega, fun h => by omega, fun h => by omega⟩
        · cases h

/-- A loud look is at one block alone. -/
theorem ev1_look {gl : Nat → AV} {call : Calls'} {e : Env} {s s' : St} {m : MOp} {v : AV} (h : ev1 gl call e s m = some (v, s', 1)) :
    ∀ s2, s2.get (blockOf gl e m) = s.get (blockOf gl e m) → ev1 gl call e s2 m = some (v, s2, 1) := by
  intro s2 hs2
  unfold ev1 at h ⊢
  split at h
  · cases h
  · rename_i hp
    split at h
    · rename_i v0 hr
      cases h
      have : evR gl e s2 m = some v := by
        cases m <;> simp only [evR] at hr ⊢ <;> try (cases hr; done)
        · rename_i c x
          cases hx : opd gl e x <;> simp only [hx] at hr ⊢ <;> try (cases hr; done)
          simp only [blockOf, hx] at hs2
          rw [hs2]; exact hr
        · rename_i n x
          cases hx : opd gl e x <;> simp only [hx] at hr ⊢ <;> try (cases hr; done)
          simp only [blockOf, hx] at hs2
          rw [hs2]; exact hr
      simp only [this]
    · split at h
      · split at h
        · split at h
          · cases h
          · cases h
        · cases h
      · split at h
        · cases h
        · cases h
/-! Two values that are one. -/
mutual
theorem same_eq : ∀ (a b : AV), same a b = true → a = b
  | .undef, b, h => by cases b <;> first | rfl | (simp [same] at h; done)
  | .bool a, b, h => by cases b <;> first | (simp [same] at h; done) | (simp [same] at h; rw [h])
  | .int k a, b, h => by cases b <;> first | (simp [same] at h; done) | (simp [same] at h; rw [h.1, h.2])
  | .str a, b, h => by cases b <;> first | (simp [same] at h; done) | (simp [same] at h; rw [h])
  | .nilp, b, h => by cases b <;> first | rfl | (simp [same] at h; done)
  | .ptr a c, b, h => by cases b <;> first | (simp [same] at h; done) | (simp [same] at h; rw [h.1, h.2])
  | .rp a, b, h => by cases b <;> first | (simp [same] at h; done) | (simp only [same] at h; rw [sameL_eq _ _ h])
  | .nils, b, h => by cases b <;> first | rfl | (simp [same] at h; done)
  | .sl a n t, b, h => by
    cases b <;> first | (simp [same] at h; done) | (simp only [same, Bool.and_eq_true, beq_iff_eq] at h; obtain ⟨⟨h1, h2⟩, h3⟩ := h; rw [sameL_eq _ _ h1, h2, h3])
  | .hs a c d f, b, h => by cases b <;> first | (simp [same] at h; done) | (simp [same] at h; obtain ⟨⟨⟨h1, h2⟩, h3⟩, h4⟩ := h; rw [h1, h2, h3, h4])
  | .nili, b, h => by cases b <;> first | rfl | (simp [same] at h; done)
  | .iface t v, b, h => by cases b <;> first | (simp [same] at h; done) | (simp only [same, Bool.and_eq_true, beq_iff_eq] at h; rw [h.1, same_eq _ _ h.2])
  | .agg a, b, h => by cases b <;> first | (simp [same] at h; done) | (simp only [same] at h; rw [sameL_eq _ _ h])
  | .tup a, b, h => by cases b <;> first | (simp [same] at h; done) | (simp only [same] at h; rw [sameL_eq _ _ h])
theorem sameL_eq : ∀ (a b : List AV), sameL a b = true → a = b
  | [], b, h => by cases b <;> first | rfl | (simp [sameL] at h; done)
  | x :: xs, b, h => by cases b <;> first | (simp [sameL] at h; done) | (simp only [sameL, Bool.and_eq_true] at h; rw [same_eq _ _ h.1, sameL_eq _ _ h.2])
end
theorem sameO_eq {a b : Option Obj} (h : sameO a b = true) : a = b := by
  cases a with
  | none => cases b with
    | none => rfl
    | some y => simp [sameO] at h
  | some x => cases b with
    | none => cases x <;> simp [sameO] at h
    | some y =>
      cases x <;> cases y <;> simp only [sameO, Bool.and_eq_true, beq_iff_eq] at h <;> try (cases h; done)
      · rw [h.1, sameL_eq _ _ h.2]
      · rw [h.1, h.2]
      · rw [h.1, h.2]
      · rfl
      · rw [h.1, sameL_eq _ _ h.2]

/-! ### Blocks made ahead of all -/
section
variable {G : Gh} {w0 : World} {s : St} {w : World}
def Gh.hold (G : Gh) (b : Nat) (x : Bool) : Gh := { G with res := fun c => if c = b then x else G.res c }
theorem Gh.hold_le (G : Gh) (b : Nat) (x : Bool) : G.le0 (G.hold b x) := ⟨rfl, fun _ _ _ h => h, fun _ _ h => h, fun _ _ h => h, fun _ _ _ h => h, fun _ _ _ => rfl⟩
theorem RelS.reserve1 (h : RelS G w0 s w) (zs : List AV) : RelS (G.hold s.next true) w0 (s.new (.cells 0 zs)) w := by
  obtain ⟨pl, h⟩ := h
  have hle := G.hold_le s.next true
  have old : ∀ {c : Nat} {q : Obj}, (G.hold s.next true).Live c q → c ≠ s.next ∧ G.Live c q := by
    intro c q hq
    have hne : c ≠ s.next := fun e => by have := hq.2; simp [Gh.hold, e] at this
    refine ⟨hne, hq.1, ?_⟩
    have := hq.2
    simpa [Gh.hold, hne] using this
  refine ⟨pl, h.below, h.base, h.imm, fun b hb => ?_, fun b o hb hd => ?_, fun b c o q hb hc ho hq hp => ?_, fun b v T hT sz u hb => ?_, fun b hb => ?_⟩
  · have hb' : s.next + 1 ≤ b := hb
    obtain ⟨g1, g2, g3, g4⟩ := h.fresh b (by omega)
    exact ⟨by rw [St.get_new_ne _ _ (by omega)]; exact g1, g2, g3, g4⟩
  · obtain ⟨hne, hl⟩ := old hd
    rw [St.get_new_ne _ _ hne] at hb
    obtain ⟨h1, h2⟩ := h.at_ b o hb hl
    exact ⟨h1, h2.keep0 hle rfl (fun _ => rfl)⟩
  · obtain ⟨hne, hl⟩ := old ho
    obtain ⟨hne', hl'⟩ := old hq
    rw [St.get_new_ne _ _ hne] at hb
    rw [St.get_new_ne _ _ hne'] at hc
    exact h.apart b c o q hb hc hl hl' hp
  · by_cases e : b = s.next
    · subst e; rw [St.get_new_same] at hb; cases hb
    · rw [St.get_new_ne _ _ e] at hb
      exact h.tkV b v T hT sz u hb
  · by_cases e : b = s.next
    · subst e
      obtain ⟨g1, g2, g3, g4⟩ := h.fresh s.next (Nat.le_refl _)
      exact ⟨Nat.lt_succ_self _, g2, g3, g4⟩
    · have hb' : G.res b = true := by simpa [Gh.hold, e] using hb
      obtain ⟨g1, g2, g3, g4⟩ := h.resV b hb'
      exact ⟨Nat.lt_succ_of_lt g1, g2, g3, g4⟩
theorem RelS.place (h : RelS G w0 s w) {b sz : Nat} {cs : List AV} (hr : G.res b = true) (hb : s.get b = some (.cells sz cs)) (cur : Array Value) (E : TypeId) (vs : List Value)
    (hc : RelL G cs vs) (hl : cs.length ≤ cur.size) (ht : cur.toList.take cs.length = vs) :
    ∃ G', G.le0 G' ∧ (∀ c, G'.res c = if c = b then false else G.res c) ∧ G'.rho b = some w.heap.size ∧ RelS G' w0 s (w.alloc (.cells cur E)) := by
  obtain ⟨pl, h⟩ := h
  obtain ⟨f0, f2, f3, f4⟩ := h.resV b hr
  have hle1 := Gh.cellsAt_le G b w.heap.size sz cur.size f2 f3
  have hle := hle1.tole0.trans ((G.cellsAt b w.heap.size sz cur.size).hold_le b false)
  have old : ∀ {c : Nat} {q : Obj}, c ≠ b → ((G.cellsAt b w.heap.size sz cur.size).hold b false).Live c q → G.Live c q := by
    intro c q hne hq
    refine ⟨hq.1, ?_⟩
    have := hq.2
    simpa [Gh.hold, Gh.cellsAt, hne] using this
  refine ⟨(G.cellsAt b w.heap.size sz cur.size).hold b false, hle, fun c => rfl, by simp [Gh.hold, Gh.cellsAt], fun c => if c = b then w.heap.size else pl c, ?_⟩
  refine ⟨h.below.alloc h.base _, Nat.le_trans h.base (by simp), fun g o v hi => ?_, fun c hb' => ?_, fun c o hc' hd => ?_, fun c d o q hc' hd' ho hq hp => ?_, fun c v T hT sz' u hc' => ?_, fun c hc' => ?_⟩
  · have hi' : G.imm g o = some v := hi
    obtain ⟨h1, h2⟩ := h.imm g o v hi'
    exact ⟨by rw [cell_of_heap (heap_alloc_lt w _ (h.imm_lt hi'))]; exact h1, h2⟩
  · obtain ⟨g1, g2, g3, g4⟩ := h.fresh c hb'
    have hne : c ≠ b := by omega
    exact ⟨g1, by simp [Gh.hold, Gh.cellsAt, hne, g2], by simp [Gh.hold, Gh.cellsAt, hne, g3], g4⟩
  · by_cases e : c = b
    · subst e
      rw [hb] at hc'
      cases hc'
      simp only [if_true]
      exact ⟨h.base, by simp [Gh.hold, Gh.cellsAt], cur, E, vs, heap_alloc_new w _, by simp [Gh.hold, Gh.cellsAt], hc.mono0 hle, hl, ht, fun o => h.imm_new o⟩
    · simp only [e, if_false]
      obtain ⟨h1, h2⟩ := h.at_ c o hc' (old e hd)
      exact ⟨h1, h2.keep0 hle (heap_alloc_lt w _ (h2.lt hd.1)) (fun _ => rfl)⟩
  · by_cases e : c = b <;> by_cases e' : d = b
    · rw [e, e']
    · simp only [e, if_true, e', if_false] at hp
      exact absurd (h.pl_lt hd' (old e' hq)) (by omega)
    · simp only [e', if_true, e, if_false] at hp
      exact absurd (h.pl_lt hc' (old e ho)) (by omega)
    · simp only [e, e', if_false] at hp
      exact h.apart c d o q hc' hd' (old e ho) (old e' hq) hp
  · exact h.tkV c v T hT sz' u hc'
  · have hne : c ≠ b := fun e => by subst e; simp [Gh.hold] at hc'
    have hc2 : G.res c = true := by simpa [Gh.hold, hne, Gh.cellsAt] using hc'
    obtain ⟨g1, g2, g3, g4⟩ := h.resV c hc2
    exact ⟨g1, by simp [Gh.hold, Gh.cellsAt, hne, g2], by simp [Gh.hold, Gh.cellsAt, hne, g3], g4⟩
/-- Which block the j-th operation has. -/
def idAt : List MIns → Nat → Nat → Option Nat
  | [], _, _ => none
  | i :: is, n, j => match allocZ i, j with
    | some _, 0 => some n
    | none, 0 => none
    | some _, j + 1 => idAt is (n + 1) j
    | none, j + 1 => idAt is n j
theorem idAt_ge : ∀ (is : List MIns) (n j b : Nat), idAt is n j = some b → n ≤ b := by
  intro is
  induction is with
  | nil => intro n j b h; cases h
  | cons i is ih =>
    intro n j b h
    simp only [idAt] at h
    split at h
    · cases h; exact Nat.le_refl _
    · cases h
    · exact Nat.le_of_succ_le (ih _ _ _ h)
    · exact ih _ _ _ h
theorem idAt_inj : ∀ (is : List MIns) (n j k b : Nat), idAt is n j = some b → idAt is n k = some b → j = k := by
  intro is
  induction is with
  | nil => intro n j k b h; cases h
  | cons i is ih =>
    intro n j k b h h'
    cases hz : allocZ i with
    | none =>
      cases j with
      | zero => simp [idAt, hz] at h
      | succ j => cases k with
        | zero => simp [idAt, hz] at h'
        | succ k => simp only [idAt, hz] at h h'; rw [ih _ _ _ _ h h']
    | some zs =>
      cases j with
      | zero => cases k with
        | zero => rfl
        | succ k =>
          simp only [idAt, hz] at h h'
          cases h
          have := idAt_ge _ _ _ _ h'
          omega
      | succ j => cases k with
        | zero =>
          simp only [idAt, hz] at h h'
          cases h'
          have := idAt_ge _ _ _ _ h
          omega
        | succ k => simp only [idAt, hz] at h h'; rw [ih _ _ _ _ h h']
theorem RelS.reserveL : ∀ (is : List MIns) {G : Gh} {s : St}, RelS G w0 s w → ∃ G', G.le0 G' ∧ (∀ b, G'.res b = true ↔ G.res b = true ∨ ∃ j, idAt is s.next j = some b) ∧ RelS G' w0 (reserve is s) w := by
  intro is
  induction is with
  | nil => intro G s h; exact ⟨G, G.le0_refl, fun b => by simp [idAt], h⟩
  | cons i is ih =>
    intro G s h
    cases hz : allocZ i with
    | none =>
      obtain ⟨G', q1, q2, q3⟩ := ih h
      refine ⟨G', q1, fun b => ?_, by simpa only [reserve, hz] using q3⟩
      rw [q2 b]
      constructor
      · rintro (q | ⟨j, q⟩)
        · exact .inl q
        · exact .inr ⟨j + 1, by simpa only [idAt, hz] using q⟩
      · rintro (q | ⟨j, q⟩)
        · exact .inl q
        · cases j with
          | zero => simp [idAt, hz] at q
          | succ j => exact .inr ⟨j, by simpa only [idAt, hz] using q⟩
    | some zs =>
      obtain ⟨G', q1, q2, q3⟩ := ih (h.reserve1 zs)
      refine ⟨G', (G.hold_le s.next true).trans q1, fun b => ?_, by simpa only [reserve, hz] using q3⟩
      rw [q2 b]
      constructor
      · rintro (q | ⟨j, q⟩)
        · by_cases e : b = s.next
          · exact .inr ⟨0, by simp only [idAt, hz, e]⟩
          · exact .inl (by simpa [Gh.hold, e] using q)
        · exact .inr ⟨j + 1, by simp only [idAt, hz]; exact q⟩
      · rintro (q | ⟨j, q⟩)
        · exact .inl (by simp only [Gh.hold]; split <;> simp [q])
        · cases j with
          | zero => simp only [idAt, hz] at q; cases q; exact .inl (by simp [Gh.hold])
          | succ j => exact .inr ⟨j, by simp only [idAt, hz] at q; exact q⟩
end
theorem cOp_alloc {P : Program} {oks : List (Nat × EqF)} {ht : List TypeId} {o : Oper} {zs : List AV} (hc : cOp P oks ht o = some (.alloc zs)) : ∃ t, o.op = .alloc t ∧ zeroCells' P t = some zs := by
  unfold cOp at hc
  split at hc
  case h_4 t heq =>
    obtain ⟨z, hz, hq⟩ := Option.map_eq_some_iff.1 hc
    injection hq with hq
    subst hq
    exact ⟨t, heq, hz⟩
  all_goals
    exfalso
    revert hc
    repeat' split
    all_goals first
      | (intro hc; cases hc; done)
      | (intro hc; obtain ⟨_, _, hq⟩ := Option.map_eq_some_iff.1 hc; cases hq; done)
theorem alloc_place {P : Program} {G : Gh} {w0 w : World} {s : St} {a : Act} {o : Oper} {t : TypeId} {zs : List AV} {b : Nat} (heq : o.op = .alloc t) (hz : zeroCells' P t = some zs) (hS : RelS G w0 s w)
    (hr : G.res b = true) (hb : s.get b = some (.cells 0 zs)) :
    ∃ G' v' w', G.le0 G' ∧ (∀ c, G'.res c = if c = b then false else G.res c) ∧ (execOp a.eval o).run P w = .ok (.value v') w' ∧ RelV G' (.ptr b 0) v' ∧ RelS G' w0 s w' := by
  unfold zeroCells' zeroOf at hz
  obtain ⟨zv, hz1, rfl⟩ := Option.map_eq_some_iff.1 hz
  split at hz1
  · rename_i z hzz
    obtain ⟨it, hit, hz2⟩ := Option.bind_eq_some_iff.1 hzz
    have hrel : RelL G (zcells zv) z.cells.toList := toAVa_cells hz1
    have hl : (zcells zv).length = z.cells.size := by have := hrel.length; simpa using this
    obtain ⟨G', q1, q2, q3, q4⟩ := hS.place hr hb z.cells t z.cells.toList hrel (by omega) (by rw [hl]; simp [← Array.length_toList])
    refine ⟨G', .pointer (some ⟨w.heap.size, 0, none⟩), _, q1, q2, ?_, .ptr _ _ _ q3, q4⟩
    simp only [execOp, heq]
    refine exec_v ?_
    simp [Instr.alloc, zeroValue, typeInfo, hit, hz2, newVar, newRow]
  · cases hz1

/-! ### The order of the text -/
def wantedE (e : Env) (g : Option (Nat × Bool)) : Prop := g = none ∨ ∃ d b, g = some (d, b) ∧ e.at d = .bool b
def unwantedE (e : Env) (g : Option (Nat × Bool)) : Prop := ∃ d b, g = some (d, b) ∧ ((∃ c, e.at d = .bool c ∧ (c == b) = false) ∨ e.at d = .tup [])
structure StepAt (gl : Nat → AV) (call : Calls') (Es : Nat → Env) (Ss : Nat → St) (Vs : Nat → AV) (Ls : Nat → Nat) (j : Nat) (i : MIns) : Prop where
  env : Es (j + 1) = (Es j).put i.dst (Vs j)
  way : (unwantedE (Es j) i.guard ∧ Vs j = .tup [] ∧ Ss (j + 1) = Ss j ∧ Ls j = 0) ∨ (wantedE (Es j) i.guard ∧ ev1 gl call (Es j) (Ss j) i.op = some (Vs j, Ss (j + 1), Ls j)) ∨ (Ss (j + 1) = Ss j ∧ Ls j = 1)
/-- What is known of the j-th operation beside. -/
def More (gl : Nat → AV) (Es : Nat → Env) (Ss : Nat → St) (Vs : Nat → AV) (Ls Bs : Nat → Nat) (id : Option Nat) (j : Nat) (i : MIns) : Prop :=
  (id = none ∧ (Ls j = 1 → Bs j = blockOf gl (Es j) i.op) ∧ ¬ (∃ zs, allocZ i = some zs)) ∨
  (∃ b zs, id = some b ∧ allocZ i = some zs ∧ Vs j = .ptr b 0 ∧ (Ss j).get b = some (.cells 0 zs) ∧ Ss (j + 1) = Ss j ∧ Ls j = 1 ∧ Bs j = b)
theorem allocZ_eq {i : MIns} {zs : List AV} (h : allocZ i = some zs) : i.op = .alloc zs ∧ i.guard = none := by
  unfold allocZ at h
  split at h
  · rename_i h1 h2; cases h; exact ⟨h1, h2⟩
  · cases h
theorem trace_loud {gl : Nat → AV} {call : Calls'} {e' : Env} {s' : St} {l : List Rec} : ∀ (is : List MIns) (n : Nat) (e : Env) (s : St) (acc : List Rec), evLoud gl call is n e s acc = some (e', s', l) →
    ∃ (Es : Nat → Env) (Ss : Nat → St) (Vs : Nat → AV) (Ls Bs : Nat → Nat), Es 0 = e ∧ Ss 0 = s ∧ Es is.length = e' ∧ Ss is.length = s' ∧ l = acc.reverse ++ (List.range is.length).map (fun j => ⟨Ls j, Bs j, Ss j, Ss (j + 1)⟩) ∧
      ∀ j i, is[j]? = some i → (StepAt gl call Es Ss Vs Ls j i ∧ ((∃ zs, allocZ i = some zs) ∨ (unwantedE (Es j) i.guard ∧ Vs j = .tup [] ∧ Ss (j + 1) = Ss j ∧ Ls j = 0) ∨ (wantedE (Es j) i.guard ∧ ev1 gl call (Es j) (Ss j) i.op = some (Vs j, Ss (j + 1), Ls j)))) ∧ More gl Es Ss Vs Ls Bs (idAt is n j) j i := by
  intro is
  induction is with
  | nil =>
    intro n e s acc h
    simp only [evLoud] at h
    cases h
    exact ⟨fun _ => e', fun _ => s', fun _ => .undef, fun _ => 0, fun _ => 0, rfl, rfl, rfl, rfl, by simp, fun j i hj => by simp at hj⟩
  | cons i is ih =>
    intro n e s acc h
    simp only [evLoud] at h
    have fin : ∀ (n' : Nat) (v : AV) (s1 : St) (k b : Nat), evLoud gl call is n' (e.put i.dst v) s1 (⟨k, b, s, s1⟩ :: acc) = some (e', s', l) → (∀ j, idAt (i :: is) n (j + 1) = idAt is n' j) →
        (((∃ zs, allocZ i = some zs) ∧ s1 = s ∧ k = 1) ∨ (unwantedE e i.guard ∧ v = .tup [] ∧ s1 = s ∧ k = 0) ∨ (wantedE e i.guard ∧ ev1 gl call e s i.op = some (v, s1, k))) →
        ((idAt (i :: is) n 0 = none ∧ (k = 1 → b = blockOf gl e i.op) ∧ ¬ (∃ zs, allocZ i = some zs)) ∨ (∃ b' zs, idAt (i :: is) n 0 = some b' ∧ allocZ i = some zs ∧ v = .ptr b' 0 ∧ s.get b' = some (.cells 0 zs) ∧ s1 = s ∧ k = 1 ∧ b = b')) →
        ∃ (Es : Nat → Env) (Ss : Nat → St) (Vs : Nat → AV) (Ls Bs : Nat → Nat), Es 0 = e ∧ Ss 0 = s ∧ Es (i :: is).length = e' ∧ Ss (i :: is).length = s' ∧ l = acc.reverse ++ (List.range (i :: is).length).map (fun j => ⟨Ls j, Bs j, Ss j, Ss (j + 1)⟩) ∧
          ∀ j i', (i :: is)[j]? = some i' → (StepAt gl call Es Ss Vs Ls j i' ∧ ((∃ zs, allocZ i' = some zs) ∨ (unwantedE (Es j) i'.guard ∧ Vs j = .tup [] ∧ Ss (j + 1) = Ss j ∧ Ls j = 0) ∨ (wantedE (Es j) i'.guard ∧ ev1 gl call (Es j) (Ss j) i'.op = some (Vs j, Ss (j + 1), Ls j)))) ∧ More gl Es Ss Vs Ls Bs (idAt (i :: is) n j) j i' := by
      intro n' v s1 k b hev hid hway hmore
      obtain ⟨Es, Ss, Vs, Ls, Bs, h1, h2, h3, h4, h5, h6⟩ := ih _ _ _ _ hev
      refine ⟨fun | 0 => e | k + 1 => Es k, fun | 0 => s | k + 1 => Ss k, fun | 0 => v | k + 1 => Vs k, fun | 0 => k | k + 1 => Ls k, fun | 0 => b | k + 1 => Bs k, rfl, rfl, h3, h4, ?_, fun j i' hj => ?_⟩
      · rw [h5, List.length_cons, List.range_succ_eq_map]
        simp [h2, Function.comp_def]
      · cases j with
        | zero =>
          simp at hj
          subst hj
          have h2' : Ss 0 = s1 := h2
          refine ⟨⟨⟨h1, ?_⟩, ?_⟩, ?_⟩
          · rcases hway with ⟨_, c, d⟩ | ⟨a, b, c, d⟩ | ⟨a, b⟩
            · exact .inr (.inr ⟨h2'.trans c, d⟩)
            · exact .inl ⟨a, b, h2'.trans c, d⟩
            · exact .inr (.inl ⟨a, by show ev1 gl call e s i.op = some (v, Ss 0, k); rw [h2']; exact b⟩)
          · rcases hway with ⟨c, _, d⟩ | ⟨a, b, c, d⟩ | ⟨a, b⟩
            · exact .inl c
            · exact .inr (.inl ⟨a, b, h2'.trans c, d⟩)
            · exact .inr (.inr ⟨a, by show ev1 gl call e s i.op = some (v, Ss 0, k); rw [h2']; exact b⟩)
          · rcases hmore with h | ⟨b', zs, m1, m2, m3, m4, m5, m6, m7⟩
            · exact .inl h
            · exact .inr ⟨b', zs, m1, m2, m3, m4, h2'.trans m5, m6, m7⟩
        | succ j =>
          obtain ⟨⟨k1, k2⟩, k3⟩ := h6 j i' (by simpa using hj)
          exact ⟨⟨⟨k1.env, k1.way⟩, k2⟩, by rw [hid j]; exact k3⟩
    split at h
    · rename_i zs hz
      unfold placeR at h
      split at h
      · rename_i hsm
        have hget := sameO_eq hsm
        exact fin (n + 1) (.ptr n 0) s 1 n h (fun j => by simp only [idAt, hz]) (.inl ⟨⟨zs, hz⟩, rfl, rfl⟩) (.inr ⟨n, zs, by simp only [idAt, hz], hz, rfl, hget, rfl, rfl, rfl⟩)
      · cases h
    · rename_i hz
      have hno : ¬ (∃ zs, allocZ i = some zs) := by rintro ⟨zs, q⟩; rw [hz] at q; cases q
      have hid : ∀ j, idAt (i :: is) n (j + 1) = idAt is n j := fun j => by simp only [idAt, hz]
      have hid0 : idAt (i :: is) n 0 = none := by simp only [idAt, hz]
      unfold guardR at h
      split at h
      · rename_i hg
        unfold opR at h
        split at h
        · rename_i v s1 k hev
          exact fin n v s1 k _ h hid (.inr (.inr ⟨.inl hg, hev⟩)) (.inl ⟨hid0, fun _ => rfl, hno⟩)
        · cases h
      · rename_i d b hg
        split at h
        · rename_i c hc
          split at h
          · rename_i hcb
            unfold opR at h
            split at h
            · rename_i v s1 k hev
              have : c = b := by simpa using hcb
              subst this
              exact fin n v s1 k _ h hid (.inr (.inr ⟨.inr ⟨d, c, hg, hc⟩, hev⟩)) (.inl ⟨hid0, fun _ => rfl, hno⟩)
            · cases h
          · rename_i hcb
            exact fin n (.tup []) s 0 0 h hid (.inr (.inl ⟨⟨d, b, hg, .inl ⟨c, hc, by simpa using hcb⟩⟩, rfl, rfl, rfl⟩)) (.inl ⟨hid0, fun hn => (by cases hn), hno⟩)
        · rename_i hc
          exact fin n (.tup []) s 0 0 h hid (.inr (.inl ⟨⟨d, b, hg, .inr hc⟩, rfl, rfl, rfl⟩)) (.inl ⟨hid0, fun hn => (by cases hn), hno⟩)
        · cases h

/-! ### Any order -/
section
variable {gl : Nat → AV} {call : Calls'} (is : List MIns) (Es : Nat → Env) (Ss : Nat → St) (Vs : Nat → AV) (Ls : Nat → Nat) (e0 : Env)
/-- The frame when these have been run. -/
def envL (L : Nat → Bool) : Nat → Env
  | 0 => e0
  | k + 1 => match is[k]? with
    | some i => if L k then (envL L k).put i.dst (Vs k) else envL L k
    | none => envL L k
/-- Where the state stands when these have been run. -/
def kOf (L : Nat → Bool) : Nat → Nat
  | 0 => 0
  | k + 1 => if L k && Ls k == 2 then k + 1 else kOf L k
end

theorem put_len (e : Env) (d : Option Nat) (v : AV) : List.length (e.put d v) = List.length e := by cases d <;> simp [Env.put]
theorem put_at_ne (e : Env) (d : Option Nat) (v : AV) (t : Nat) (h : d ≠ some t) : (e.put d v).at t = e.at t := by
  cases d with
  | none => rfl
  | some d =>
    have : d ≠ t := fun q => h (by rw [q])
    simp [Env.put, Env.at, List.getElem?_set, this]
theorem put_at_same (e f : Env) (d : Option Nat) (v : AV) (t : Nat) (hl : List.length e = List.length f) (h : d = some t) : (e.put d v).at t = (f.put d v).at t := by
  subst h
  simp [Env.put, Env.at, List.getElem?_set, hl]

section
variable {gl : Nat → AV} {call : Calls'} {is : List MIns} {Es : Nat → Env} {Ss : Nat → St} {Vs : Nat → AV} {Ls : Nat → Nat}
theorem envL_len (e0 : Env) (L : Nat → Bool) : ∀ k, List.length (envL is Vs e0 L k) = List.length e0 := by
  intro k
  induction k with
  | zero => rfl
  | succ k ih =>
    simp only [envL]
    split
    · split
      · rw [put_len, ih]
      · exact ih
    · exact ih
theorem Es_len (hst : ∀ j i, is[j]? = some i → StepAt gl call Es Ss Vs Ls j i) : ∀ k, k ≤ is.length → List.length (Es k) = List.length (Es 0) := by
  intro k
  induction k with
  | zero => intro _; rfl
  | succ k ih =>
    intro hk
    have hi : is[k]? = some is[k] := List.getElem?_eq_getElem (by omega)
    rw [(hst k _ hi).env, put_len, ih (by omega)]
/-- A slot: where all that wrote it before j has been run, and none other, it holds what it held before j. -/
theorem envL_at (hst : ∀ j i, is[j]? = some i → StepAt gl call Es Ss Vs Ls j i) (L : Nat → Bool) (j t : Nat) (hj : j ≤ is.length)
    (hL : ∀ i x, is[i]? = some x → x.dst = some t → L i = decide (i < j)) : ∀ k, k ≤ is.length → (envL is Vs (Es 0) L k).at t = (Es (min k j)).at t := by
  intro k
  induction k with
  | zero => intro _; simp [envL]
  | succ k ih =>
    intro hk
    have hi : is[k]? = some is[k] := List.getElem?_eq_getElem (by omega)
    have hs := (hst k _ hi).env
    have ih' := ih (by omega)
    simp only [envL, hi]
    by_cases hd : is[k].dst = some t
    · have hLk := hL k _ hi hd
      by_cases hkj : k < j
      · rw [hLk, decide_eq_true hkj, if_pos rfl, Nat.min_eq_left (by omega), hs]
        refine put_at_same _ _ _ _ _ ?_ hd
        rw [envL_len, Es_len hst k (by omega)]
      · rw [hLk, decide_eq_false hkj]
        simp only [Bool.false_eq_true, if_false]
        rw [ih', Nat.min_eq_right (by omega), Nat.min_eq_right (by omega)]
    · have h1 : (if L k = true then (envL is Vs (Es 0) L k).put is[k].dst (Vs k) else envL is Vs (Es 0) L k).at t = (envL is Vs (Es 0) L k).at t := by
        split
        · exact put_at_ne _ _ _ _ hd
        · rfl
      rw [h1, ih']
      by_cases hkj : k < j
      · rw [Nat.min_eq_left (by omega), Nat.min_eq_left (by omega), hs, put_at_ne _ _ _ _ hd]
      · rw [Nat.min_eq_right (by omega), Nat.min_eq_right (by omega)]
/-- The state: where all that turned it before j has been run, and none other. -/
theorem kOf_at (hst : ∀ j i, is[j]? = some i → StepAt gl call Es Ss Vs Ls j i) (L : Nat → Bool) (j : Nat) (hj : j ≤ is.length)
    (hL : ∀ i, i < is.length → Ls i = 2 → L i = decide (i < j)) : ∀ k, k ≤ is.length → Ss (kOf Ls L k) = Ss (min k j) := by
  intro k
  induction k with
  | zero => intro _; simp [kOf]
  | succ k ih =>
    intro hk
    have hi : is[k]? = some is[k] := List.getElem?_eq_getElem (by omega)
    have ih' := ih (by omega)
    simp only [kOf]
    by_cases h2 : Ls k = 2
    · have hLk := hL k (by omega) h2
      by_cases hkj : k < j
      · rw [hLk, decide_eq_true hkj, h2]
        simp only [Bool.true_and, beq_self_eq_true, if_true]
        rw [Nat.min_eq_left (by omega)]
      · rw [hLk, decide_eq_false hkj]
        simp only [Bool.false_and, Bool.false_eq_true, if_false]
        rw [ih', Nat.min_eq_right (by omega), Nat.min_eq_right (by omega)]
    · have : (L k && Ls k == 2) = false := by simp [h2]
      rw [this]
      simp only [Bool.false_eq_true, if_false]
      rw [ih']
      by_cases hkj : k < j
      · rw [Nat.min_eq_left (by omega), Nat.min_eq_left (by omega)]
        have hway := (hst k _ hi).way
        rcases hway with ⟨_, _, h, _⟩ | ⟨_, h⟩ | ⟨h, _⟩
        · exact h.symm
        · exact ((ev1_loud h).2.1 h2).symm
        · exact h.symm
      · rw [Nat.min_eq_right (by omega), Nat.min_eq_right (by omega)]
end

section
variable {gl : Nat → AV} {call : Calls'} {is : List MIns} {Es : Nat → Env} {Ss : Nat → St} {Vs : Nat → AV} {Ls : Nat → Nat}
theorem Ss_quiet (hst : ∀ j i, is[j]? = some i → StepAt gl call Es Ss Vs Ls j i) {k : Nat} (hk : k < is.length) (h2 : Ls k ≠ 2) : Ss (k + 1) = Ss k := by
  have hi : is[k]? = some is[k] := List.getElem?_eq_getElem hk
  rcases (hst k _ hi).way with ⟨_, _, h, _⟩ | ⟨_, h⟩ | ⟨h, _⟩
  · exact h
  · exact (ev1_loud h).2.1 h2
  · exact h
theorem kOf_all (hst : ∀ j i, is[j]? = some i → StepAt gl call Es Ss Vs Ls j i) (L : Nat → Bool) : ∀ k, k ≤ is.length → (∀ i, i < k → Ls i = 2 → L i = true) → Ss (kOf Ls L k) = Ss k := by
  intro k
  induction k with
  | zero => intro _ _; rfl
  | succ k ih =>
    intro hk hL
    have ih' := ih (by omega) (fun i hi => hL i (by omega))
    simp only [kOf]
    by_cases h2 : Ls k = 2
    · rw [hL k (by omega) h2, h2]; rfl
    · have : (L k && Ls k == 2) = false := by simp [h2]
      rw [this]
      simp only [Bool.false_eq_true, if_false]
      rw [ih', Ss_quiet hst (by omega) h2]
/-- One block: where all that may turn it has been run as far as j, and none behind it. -/
theorem get_at (hst : ∀ j i, is[j]? = some i → StepAt gl call Es Ss Vs Ls j i) (L : Nat → Bool) (j b : Nat)
    (hb : ∀ i, i < is.length → Ls i = 2 → L i = decide (i < j) ∨ (Ss i).get b = (Ss (i + 1)).get b)
    (hpre : ∀ i m, i < m → m < is.length → Ls i = 2 → Ls m = 2 → L m = true → L i = true) : ∀ k, k ≤ is.length → (Ss (kOf Ls L k)).get b = (Ss (min k j)).get b := by
  intro k
  induction k with
  | zero => intro _; simp [kOf]
  | succ k ih =>
    intro hk
    have ih' := ih (by omega)
    simp only [kOf]
    by_cases hLk : (L k && Ls k == 2) = true
    · rw [hLk]
      simp only [if_true]
      rw [Bool.and_eq_true, beq_iff_eq] at hLk
      by_cases hkj : k < j
      · rw [Nat.min_eq_left (by omega)]
      · rw [Nat.min_eq_right (by omega)]
        rw [Nat.min_eq_right (by omega)] at ih'
        rcases hb k (by omega) hLk.2 with q | q
        · rw [hLk.1, decide_eq_false hkj] at q; cases q
        · rw [← q, ← kOf_all hst L k (by omega) (fun i hi h2 => hpre i k hi (by omega) h2 hLk.2 hLk.1)]
          exact ih'
    · rw [if_neg hLk, ih']
      by_cases hkj : k < j
      · rw [Nat.min_eq_left (by omega), Nat.min_eq_left (by omega)]
        by_cases h2 : Ls k = 2
        · rcases hb k (by omega) h2 with q | q
          · rw [decide_eq_true hkj] at q
            exact absurd (by rw [q, h2]; rfl) hLk
          · exact q
        · rw [Ss_quiet hst (by omega) h2]
      · rw [Nat.min_eq_right (by omega), Nat.min_eq_right (by omega)]
end

/-! ### A region drawn from -/
theorem cInss_get {P : Program} {oks : List (Nat × EqF)} {ht : List TypeId} {ops : Array Oper} : ∀ (l : List Oper) (is : List MIns), cInss P oks ht ops l = some is →
    is.length = l.length ∧ ∀ (j : Nat) (o : Oper), l[j]? = some o → ∃ i, is[j]? = some i ∧ cIns P oks ht ops o = some i := by
  intro l
  induction l with
  | nil => intro is h; simp only [cInss] at h; cases h; exact ⟨rfl, fun j o hj => by simp at hj⟩
  | cons o os ih =>
    intro is h
    simp only [cInss] at h
    split at h
    · rename_i i is' hi his
      cases h
      obtain ⟨h1, h2⟩ := ih _ his
      refine ⟨by simp [h1], fun j o' hj => ?_⟩
      cases j with
      | zero => simp at hj; subst hj; exact ⟨i, by simp, hi⟩
      | succ j => simpa using h2 j o' (by simpa using hj)
    · cases h
theorem bfMask_bit {bf : List Nat} {k : Nat} : ∀ (es : List Edge), (bfMask bf es).testBit k = true → ∃ e ∈ es, Region.binds .any e = true ∧ (k = e.on ∨ (bf.getD e.on 0).testBit k = true) := by
  intro es
  induction es with
  | nil => intro h; simp [bfMask] at h
  | cons e es ih =>
    intro h
    simp only [bfMask] at h
    split at h
    · rename_i hb
      rw [Nat.testBit_or, Nat.testBit_or, Bool.or_eq_true, Bool.or_eq_true] at h
      rcases h with (h | h) | h
      · obtain ⟨e', h1, h2⟩ := ih h; exact ⟨e', List.mem_cons_of_mem _ h1, h2⟩
      · rw [Nat.testBit_two_pow] at h
        exact ⟨e, List.mem_cons_self, hb, .inl (of_decide_eq_true h).symm⟩
      · exact ⟨e, List.mem_cons_self, hb, .inr h⟩
    · obtain ⟨e', h1, h2⟩ := ih h; exact ⟨e', List.mem_cons_of_mem _ h1, h2⟩
theorem or_eq_bit {a b k : Nat} (h : (a ||| b) = b) (ha : a.testBit k = true) : b.testBit k = true := by
  rw [← h, Nat.testBit_or, ha]; rfl
theorem and_zero_bit {a b k : Nat} (h : a &&& b = 0) (ha : a.testBit k = true) (hb : b.testBit k = true) : False := by
  have : (a &&& b).testBit k = true := by rw [Nat.testBit_and, ha, hb]; rfl
  rw [h] at this
  simp at this
theorem countP_lt {α : Type} {l : List α} {p q : α → Bool} (hle : ∀ x, q x = true → p x = true) {j : α} (hj : j ∈ l) (hp : p j = true) (hq : q j = false) : l.countP q < l.countP p := by
  induction l with
  | nil => cases hj
  | cons x xs ih =>
    rw [List.countP_cons, List.countP_cons]
    have hm : xs.countP q ≤ xs.countP p := List.countP_mono_left (fun y _ hy => hle y hy)
    rcases List.mem_cons.1 hj with rfl | hj
    · rw [hp, hq]; simp; omega
    · have := ih hj
      cases hx : q x with
      | true => rw [hle x hx]; simp; omega
      | false => cases p x <;> simp <;> omega
theorem dst_bit {i : MIns} {t : Nat} (h : i.dst = some t) : (dstB i).testBit t = true := by
  unfold dstB; rw [h]; exact Nat.testBit_two_pow_self
theorem envL_congr {is : List MIns} {Vs : Nat → AV} {e0 : Env} {L L' : Nat → Bool} {j t : Nat} (hL : ∀ i, i ≠ j → L' i = L i) (hd : ∀ i, is[j]? = some i → i.dst ≠ some t) : ∀ k, (envL is Vs e0 L' k).at t = (envL is Vs e0 L k).at t := by
  intro k
  induction k with
  | zero => rfl
  | succ k ih =>
    simp only [envL]
    cases hi : is[k]? with
    | none => exact ih
    | some i =>
      by_cases hk : k = j
      · subst hk
        have hd' := hd i hi
        have h1 : ∀ L : Nat → Bool, (if L k = true then (envL is Vs e0 L k).put i.dst (Vs k) else envL is Vs e0 L k).at t = (envL is Vs e0 L k).at t := by
          intro L
          split
          · exact put_at_ne _ _ _ _ hd'
          · rfl
        show (if L' k = true then _ else _ : Env).at t = (if L k = true then _ else _ : Env).at t
        rw [h1, h1, ih]
      · show (if L' k = true then _ else _ : Env).at t = (if L k = true then _ else _ : Env).at t
        rw [hL k hk]
        split
        · by_cases hd' : i.dst = some t
          · exact put_at_same _ _ _ _ _ (by rw [envL_len, envL_len]) hd'
          · rw [put_at_ne _ _ _ _ hd', put_at_ne _ _ _ _ hd', ih]
        · exact ih
theorem kOf_congr {Ls : Nat → Nat} {L L' : Nat → Bool} {j : Nat} (hL : ∀ i, i ≠ j → L' i = L i) (hj : Ls j ≠ 2) : ∀ k, kOf Ls L' k = kOf Ls L k := by
  intro k
  induction k with
  | zero => rfl
  | succ k ih =>
    simp only [kOf, ih]
    by_cases hk : k = j
    · subst hk
      have : (Ls k == 2) = false := by simpa using hj
      simp [this]
    · rw [hL k hk]
theorem RelE.congr {G : Gh} {gl : Nat → AV} {e f : Env} {a : Act} (h : RelE G gl e a) (hl : List.length f = List.length e) (hat : ∀ t, f.at t = e.at t) : RelE G gl f a :=
  ⟨fun i => by rw [hat]; exact h.at_ i, by rw [hl]; exact h.size, h.glob⟩

section
variable {P : Program} {w0 : World} {gl : Nat → AV}
theorem draw_sound {ht : List TypeId} {ops : Array Oper} {call : Calls'} (hcall : CallOk P gl w0 call) (hm : P.follows .mixedOrders = true) {is : List MIns}
    (hc : cInss P (eqOks P) ht ops ops.toList = some is) {bf : List Nat} (hb : bfOk ops.toList bf = true) (hs : slotsOk is bf = true)
    {e e' : Env} {s s' : St} {l : List Rec} (h : evLoud gl call is s.next e (reserve is s) [] = some (e', s', l)) (hcalm : calm bf l = true)
    {G : Gh} {a : Act} {w : World} (hE : RelE G gl e a) (hS : RelS G w0 s w) {Q : Exit → Act → World → Prop} {id : Nat}
    (hQ : ∀ G' a' w', G.le G' → RelE G' gl e' a' → RelS G' w0 s' w' → a'.defers = a.defers → Q .normal a' w') : (Code.region id ops true).wp P Q a w := by
  obtain ⟨Es, Ss, Vs, Ls, Bs, h1, h2, h3, h4, h5, h60⟩ := trace_loud is _ e _ [] h
  have h6 : ∀ j i, is[j]? = some i → StepAt gl call Es Ss Vs Ls j i := fun j i hj => (h60 j i hj).1.1
  obtain ⟨Gr, r1, r2, r3⟩ := RelS.reserveL is hS
  have hres0 : ∀ b, G.res b = true → b < s.next := fun b hb => by obtain ⟨pl, hP⟩ := hS; exact (hP.resV b hb).1
  obtain ⟨hlen, hget⟩ := cInss_get _ _ hc
  have hlen : is.length = ops.size := by simpa using hlen
  have hget : ∀ j o, ops[j]? = some o → ∃ i, is[j]? = some i ∧ cIns P (eqOks P) ht ops o = some i := fun j o hj => hget j o (by simpa using hj)
  have hl : l = (List.range ops.size).map (fun j => (⟨Ls j, Bs j, Ss j, Ss (j + 1)⟩ : Rec)) := by rw [h5, hlen]; rfl
  have hcp : ∀ i j, i < j → j < ops.size → (bf.getD j 0).testBit i = true ∨ calmTwo ⟨Ls i, Bs i, Ss i, Ss (i + 1)⟩ ⟨Ls j, Bs j, Ss j, Ss (j + 1)⟩ = true := by
    intro i j hij hj
    unfold calm at hcalm
    rw [List.all_eq_true] at hcalm
    have q1 := hcalm j (List.mem_range.2 (by rw [hl]; simpa using hj))
    rw [List.all_eq_true] at q1
    have q2 := q1 i (List.mem_range.2 hij)
    have gi : l.getD i default = ⟨Ls i, Bs i, Ss i, Ss (i + 1)⟩ := by rw [hl]; simp [List.getElem?_map, List.getElem?_range (show i < ops.size by omega)]
    have gj : l.getD j default = ⟨Ls j, Bs j, Ss j, Ss (j + 1)⟩ := by rw [hl]; simp [List.getElem?_map, List.getElem?_range hj]
    unfold calmPair at q2
    rw [gi, gj] at q2
    rw [Bool.or_eq_true] at q2
    exact q2
  have hww : ∀ i j, i < j → j < ops.size → Ls i = 2 → Ls j = 2 → (bf.getD j 0).testBit i = true := by
    intro i j hij hj hi2 hj2
    rcases hcp i j hij hj with q | q
    · exact q
    · rw [hi2, hj2] at q; cases q
  have hrw : ∀ i j, i < j → j < ops.size → Ls i = 1 → Ls j = 2 → (bf.getD j 0).testBit i = true ∨ (Ss j).get (Bs i) = (Ss (j + 1)).get (Bs i) := by
    intro i j hij hj hi2 hj2
    rcases hcp i j hij hj with q | q
    · exact .inl q
    · rw [hi2, hj2] at q; exact .inr (sameO_eq q)
  have hwr' : ∀ i j, i < j → j < ops.size → Ls i = 2 → Ls j = 1 → (bf.getD j 0).testBit i = true ∨ (Ss i).get (Bs j) = (Ss (i + 1)).get (Bs j) := by
    intro i j hij hj hi2 hj2
    rcases hcp i j hij hj with q | q
    · exact .inl q
    · rw [hi2, hj2] at q; exact .inr (sameO_eq q)
  have hsl : ∀ i j x y, i < j → is[i]? = some x → is[j]? = some y → (bf.getD j 0).testBit i = true ∨ (dstB x &&& slotsI y = 0 ∧ dstB y &&& slotsI x = 0) := by
    intro i j x y hij hx hy
    have hj : j < is.length := (List.getElem?_eq_some_iff.1 hy).1
    unfold slotsOk at hs
    rw [List.all_eq_true] at hs
    have q1 := hs j (List.mem_range.2 hj)
    rw [List.all_eq_true] at q1
    have q2 := q1 i (List.mem_range.2 hij)
    rw [hx, hy] at q2
    simp only [Bool.or_eq_true, Bool.and_eq_true, beq_iff_eq] at q2
    exact q2
  have hbf : ∀ j o, ops[j]? = some o → (∀ k, (bf.getD j 0).testBit k = true → ∃ e ∈ o.after.toList, Region.binds .any e = true ∧ (k = e.on ∨ (bf.getD e.on 0).testBit k = true)) ∧ ∀ e ∈ o.after.toList, Region.binds .any e = true → e.on < j := by
    intro j o hj
    have hjl : j < ops.size := (Array.getElem?_eq_some_iff.1 hj).1
    unfold bfOk at hb
    rw [List.all_eq_true] at hb
    have q := hb j (List.mem_range.2 (by simpa using hjl))
    rw [show ops.toList[j]? = some o by simpa using hj] at q
    simp only [Bool.and_eq_true, beq_iff_eq, List.all_eq_true, Bool.or_eq_true, Bool.not_eq_true', decide_eq_true_eq] at q
    refine ⟨fun k hk => bfMask_bit _ (or_eq_bit q.1 hk), fun e he hbd => ?_⟩
    rcases q.2 e he with hn | hn
    · rw [hbd] at hn; cases hn
    · exact hn
  have idAt_lt : ∀ {k b : Nat}, idAt is s.next k = some b → k < ops.size := by
    intro k b hk
    rcases Nat.lt_or_ge k ops.size with h' | h'
    · exact h'
    · exfalso
      have : ∀ (is : List MIns) (n k : Nat), is.length ≤ k → idAt is n k = none := by
        intro is
        induction is with
        | nil => intro n k _; rfl
        | cons i is ih =>
          intro n k hk
          cases k with
          | zero => simp at hk
          | succ k => cases hz : allocZ i <;> simp only [idAt, hz] <;> exact ih _ _ (by simpa using hk)
      rw [this is _ k (by omega)] at hk
      cases hk
  have key : ∀ (fuel : Nat) (listed : Array Bool) (G1 : Gh) (a1 : Act) (w1 : World), listed.size = ops.size →
      (∀ j k, listed.getD j false = true → (bf.getD j 0).testBit k = true → listed.getD k false = true) →
      (List.range ops.size).countP (fun i => !listed.getD i false) ≤ fuel → G.le0 G1 → (∀ b, G1.res b = true ↔ G.res b = true ∨ ∃ k, listed.getD k false = false ∧ idAt is s.next k = some b) →
      RelE G1 gl (envL is Vs (Es 0) (fun i => listed.getD i false) ops.size) a1 → RelS G1 w0 (Ss (kOf Ls (fun i => listed.getD i false) ops.size)) w1 → a1.defers = a.defers →
      wpAny P .any ops Q fuel listed a1 w1 := by
    intro fuel
    induction fuel with
    | zero =>
      intro listed G1 a1 w1 hsz hcl hcnt hG hR hE1 hS1 hd
      have hall : ∀ i, i < ops.size → listed.getD i false = true := by
        intro i hi
        have q := List.countP_eq_zero.1 (Nat.le_zero.1 hcnt) i (List.mem_range.2 hi)
        simpa using q
      refine ⟨?_, ?_⟩
      · unfold Region.ready
        rw [List.filter_eq_nil_iff]
        intro i hi
        have hi := List.mem_range.1 hi
        have q := hall i hi
        have : listed.getD i true = true := by
          rw [Array.getD_eq_getD_getElem?] at q ⊢
          rw [Array.getElem?_eq_getElem (by omega)] at q ⊢
          exact q
        simp [this]
      · refine hQ G1 a1 w1 (⟨hG, funext fun b => by
          rw [Bool.eq_iff_iff, hR b]
          constructor
          · rintro (q | ⟨k, q1, q2⟩)
            · exact q
            · exact absurd (hall k (idAt_lt q2)) (by rw [q1]; simp)
          · exact .inl⟩) (hE1.congr ?_ fun t => ?_) ?_ hd
        · rw [envL_len, ← h3, Es_len h6 _ (Nat.le_refl _)]
        · have q := envL_at h6 (fun i => listed.getD i false) is.length t (Nat.le_refl _) (fun i x hx hdx => by
            have hil : i < is.length := (List.getElem?_eq_some_iff.1 hx).1
            simp only [hall i (by omega), decide_eq_true hil]) ops.size (by omega)
          rw [q, ← hlen, Nat.min_self, h3]
        · have q := kOf_at h6 (fun i => listed.getD i false) is.length (Nat.le_refl _) (fun i hi _ => by
            simp only [hall i (by omega), decide_eq_true hi]) ops.size (by omega)
          rw [← h4, hlen, show Ss ops.size = Ss (min ops.size is.length) by rw [hlen, Nat.min_self], ← q]
          exact hS1
    | succ fuel ih =>
      intro listed G1 a1 w1 hsz hcl hcnt hG hR hE1 hS1 hd
      have hdef : ∀ i, i < ops.size → listed.getD i true = listed.getD i false := by
        intro i hi
        rw [Array.getD_eq_getD_getElem?, Array.getD_eq_getD_getElem?, Array.getElem?_eq_getElem (by omega)]
        rfl
      refine ⟨fun hnil => ?_, fun j hj => ?_⟩
      · -- none is ready: all are listed
        have hall : ∀ i, i < ops.size → listed.getD i false = true := by
          intro i
          induction i using Nat.strongRecOn with
          | _ i ihi =>
            intro hi
            cases hli : listed.getD i false with
            | true => rfl
            | false =>
              exfalso
              have ho : ops[i]? = some ops[i] := Array.getElem?_eq_getElem hi
              have : i ∈ Region.ready .any ops listed := mem_ready.2 ⟨by rw [hdef i hi, hli], ops[i], ho, fun e he hbd => ihi e.on ((hbf i _ ho).2 e (by simpa using he) hbd) (by
                have := (hbf i _ ho).2 e (by simpa using he) hbd
                omega)⟩
              rw [hnil] at this
              cases this
        refine hQ G1 a1 w1 (⟨hG, funext fun b => by
          rw [Bool.eq_iff_iff, hR b]
          constructor
          · rintro (q | ⟨k, q1, q2⟩)
            · exact q
            · exact absurd (hall k (idAt_lt q2)) (by rw [q1]; simp)
          · exact .inl⟩) (hE1.congr ?_ fun t => ?_) ?_ hd
        · rw [envL_len, ← h3, Es_len h6 _ (Nat.le_refl _)]
        · have q := envL_at h6 (fun i => listed.getD i false) is.length t (Nat.le_refl _) (fun i x hx hdx => by
            have hil : i < is.length := (List.getElem?_eq_some_iff.1 hx).1
            simp only [hall i (by omega), decide_eq_true hil]) ops.size (by omega)
          rw [q, ← hlen, Nat.min_self, h3]
        · have q := kOf_at h6 (fun i => listed.getD i false) is.length (Nat.le_refl _) (fun i hi _ => by
            simp only [hall i (by omega), decide_eq_true hi]) ops.size (by omega)
          rw [← h4, hlen, show Ss ops.size = Ss (min ops.size is.length) by rw [hlen, Nat.min_self], ← q]
          exact hS1
      · -- the next one
        obtain ⟨hj0, o, ho, hbind⟩ := mem_ready.1 hj
        have hjl : j < ops.size := (Array.getElem?_eq_some_iff.1 ho).1
        have hj0 : listed.getD j false = false := by rw [← hdef j hjl]; exact hj0
        obtain ⟨i, hi, hci⟩ := hget j o ho
        obtain ⟨p1, p2, p3⟩ := cIns_parts hci
        have hbefore : ∀ k, (bf.getD j 0).testBit k = true → listed.getD k false = true := by
          intro k hk
          obtain ⟨ed, he1, he2, he3⟩ := (hbf j o ho).1 k hk
          have hl1 := hbind ed (by simpa using he1) he2
          rcases he3 with rfl | he3
          · exact hl1
          · exact hcl _ _ hl1 he3
        -- whose slots touch those of j
        have hwr : ∀ t, (slotsI i).testBit t = true → ∀ k x, is[k]? = some x → x.dst = some t → k ≠ j → listed.getD k false = decide (k < j) := by
          intro t ht k x hx hdx hkj
          rcases Nat.lt_or_gt_of_ne hkj with hlt | hgt
          · rw [decide_eq_true hlt]
            rcases hsl k j x i hlt hx hi with q | q
            · exact hbefore k q
            · exact (and_zero_bit q.1 (dst_bit hdx) ht).elim
          · rw [decide_eq_false (by omega)]
            rcases hsl j k i x hgt hi hx with q | q
            · cases hlk : listed.getD k false with
              | false => rfl
              | true => rw [hcl k j hlk q] at hj0; cases hj0
            · exact (and_zero_bit q.2 (dst_bit hdx) ht).elim
        have hat : ∀ t, (slotsI i).testBit t = true → (envL is Vs (Es 0) (fun i => listed.getD i false) ops.size).at t = (Es j).at t := by
          intro t ht
          have q := envL_at h6 (fun i => listed.getD i false) j t (by omega) (fun k x hx hdx => by
            by_cases hkj : k = j
            · subst hkj; simp only [hj0]; simp
            · exact hwr t ht k x hx hdx hkj) ops.size (by omega)
          rw [q, Nat.min_eq_right (by omega)]
        have hstep := h6 j i hi
        -- what comes behind
        have hnext : ∀ (G' : Gh) (v' : Value) (w' : World), G1.le0 G' → (∀ b, G'.res b = true ↔ G.res b = true ∨ ∃ k, (listed.setIfInBounds j true).getD k false = false ∧ idAt is s.next k = some b) → RelV G' (Vs j) v' →
            RelS G' w0 (Ss (kOf Ls (fun i => (listed.setIfInBounds j true).getD i false) ops.size)) w' →
            wpAny P .any ops Q fuel (listed.setIfInBounds j true) (a1.put o.dst v') w' := by
          intro G' v' w' hG' hR' hv hs'
          have hne : ∀ k, k ≠ j → (listed.setIfInBounds j true).getD k false = listed.getD k false := fun k hk => getD_set_ne false (Ne.symm hk)
          have hjt : (listed.setIfInBounds j true).getD j false = true := by
            simp [show j < listed.size by omega]
          refine ih _ G' _ _ (by simpa using hsz) (fun j2 k hj2 hk => ?_) ?_ (hG.trans hG') hR' ?_ hs' (by rw [put_defers]; exact hd)
          · apply getD_set_true
            by_cases e2 : j2 = j
            · subst e2; exact hbefore k hk
            · rw [hne j2 e2] at hj2; exact hcl j2 k hj2 hk
          · have := countP_lt (l := List.range ops.size) (p := fun i => !listed.getD i false) (q := fun i => !(listed.setIfInBounds j true).getD i false) (fun x hx => by
              by_cases e2 : x = j
              · subst e2; simp only [hj0]; rfl
              · simp only [hne x e2] at hx; exact hx) (j := j) (List.mem_range.2 hjl) (by simp only [hj0]; rfl) (by simp only [hjt]; rfl)
            omega
          · refine ((hE1.mono0 hG').put o.dst hv).congr ?_ fun t => ?_
            · rw [put_len, envL_len, envL_len]
            · by_cases hdt : i.dst = some t
              · have ht : (slotsI i).testBit t = true := by
                  unfold slotsI
                  rw [Nat.testBit_or, Nat.testBit_or, dst_bit hdt]; simp
                have q := envL_at h6 (fun i => (listed.setIfInBounds j true).getD i false) (j + 1) t (by omega) (fun k x hx hdx => by
                  by_cases hkj : k = j
                  · subst hkj; simp only [hjt]; simp
                  · have q := hwr t ht k x hx hdx hkj
                    simp only [hne k hkj, q]
                    congr 1
                    simp; omega) ops.size (by omega)
                rw [q, Nat.min_eq_right (by omega), hstep.env, ← p2]
                refine put_at_same _ _ _ _ _ ?_ hdt
                rw [envL_len, Es_len h6 _ (by omega)]
              · rw [← p2, put_at_ne _ _ _ _ hdt]
                exact envL_congr (fun k hk => hne k hk) (fun i' hi' => by rw [hi] at hi'; cases hi'; exact hdt) ops.size
        -- the state
        have hk2 : Ls j ≠ 2 → kOf Ls (fun i => (listed.setIfInBounds j true).getD i false) ops.size = kOf Ls (fun i => listed.getD i false) ops.size :=
          fun hne2 => kOf_congr (fun k hk => getD_set_ne false (Ne.symm hk)) hne2 _
        have hgE : ∀ r : Bool, guardR (Es j) i.guard (some true) (some false) = some r → guardR (envL is Vs (Es 0) (fun i => listed.getD i false) ops.size) i.guard (some true) (some false) = some r := by
          intro r hr
          unfold guardR at hr ⊢
          cases hg : i.guard with
          | none => rw [hg] at hr; exact hr
          | some gb =>
            obtain ⟨d, b⟩ := gb
            rw [hg] at hr
            have : (slotsI i).testBit d = true := by
              unfold slotsI
              rw [Nat.testBit_or, hg]
              simp [Nat.testBit_two_pow_self]
            simp only [hat d this]
            exact hr
        have hquiet : ∀ {G' : Gh}, G1.le G' → idAt is s.next j = none → ∀ b, G'.res b = true ↔ G.res b = true ∨ ∃ k, (listed.setIfInBounds j true).getD k false = false ∧ idAt is s.next k = some b := by
          intro G' hle hnone b
          rw [hle.res, hR b]
          constructor
          · rintro (q | ⟨k, q1, q2⟩)
            · exact .inl q
            · have : k ≠ j := fun e => by subst e; rw [hnone] at q2; cases q2
              exact .inr ⟨k, by rw [getD_set_ne false (Ne.symm this)]; exact q1, q2⟩
          · rintro (q | ⟨k, q1, q2⟩)
            · exact .inl q
            · have : k ≠ j := fun e => by subst e; rw [hnone] at q2; cases q2
              exact .inr ⟨k, by rw [getD_set_ne false (Ne.symm this)] at q1; exact q1, q2⟩
        have hlook : Ls j = 1 → ∀ bb, Bs j = bb → (Ss (kOf Ls (fun i => listed.getD i false) ops.size)).get bb = (Ss j).get bb := by
          intro h1j bb hB
          have q := get_at h6 (fun i => listed.getD i false) j bb (fun k hk h2 => by
            rw [← hB]
            rcases Nat.lt_trichotomy k j with hlt | heq | hgt
            · rcases hwr' k j hlt hjl h2 h1j with q | q
              · exact .inl (by simp only [hbefore k q, decide_eq_true hlt])
              · exact .inr q
            · subst heq; omega
            · rcases hrw j k hgt (by omega) h1j h2 with q | q
              · refine .inl ?_
                rw [decide_eq_false (by omega)]
                cases hlk : listed.getD k false with
                | false => rfl
                | true => rw [hcl k j hlk q] at hj0; cases hj0
              · exact .inr q) (fun k m hkm hm' hk2' hm2' hLm => hcl m k hLm (hww k m hkm (by omega) hk2' hm2')) ops.size (by omega)
          rw [q, Nat.min_eq_right (by omega)]
        unfold wpOp
        simp only [ho]
        rcases (h60 j i hi).2 with ⟨hidn, hblk, hnoz⟩ | ⟨bb, zs, m1, m2, m3, m4, m5, m6, m7⟩
        case inr =>
          obtain ⟨za, zb⟩ := allocZ_eq m2
          rw [za] at p1
          obtain ⟨t, t1, t2⟩ := cOp_alloc p1
          have hgn : o.guard = none := by
            rcases p3 with ⟨q, _⟩ | ⟨_, _, _, _, _, q⟩
            · exact q
            · rw [zb] at q; cases q
          have hw : Region.wanted o (yielded ops a1.tmps) = true := by simp [Region.wanted, hgn]
          rw [if_pos hw]
          left
          have hresb : G1.res bb = true := (hR bb).2 (.inr ⟨j, hj0, m1⟩)
          have hgb : (Ss (kOf Ls (fun i => listed.getD i false) ops.size)).get bb = some (.cells 0 zs) := by rw [hlook m6 bb m7]; exact m4
          obtain ⟨G', v', w', y1, y2, y3, y4, y5⟩ := alloc_place (a := a1) t1 t2 hS1 hresb hgb
          unfold Oper.wp
          rw [y3]
          show wpAny P .any ops Q fuel (listed.setIfInBounds j true) (a1.put o.dst v') w'
          refine hnext G' v' w' y1 (fun b => ?_) (by rw [m3]; exact y4) (by rw [hk2 (by omega)]; exact y5)
          rw [y2 b]
          by_cases e : b = bb
          · subst e
            rw [if_pos rfl]
            constructor
            · intro q; cases q
            · rintro (q | ⟨k, q1, q2⟩)
              · have := hres0 b q
                have := idAt_ge _ _ _ _ m1
                omega
              · have := idAt_inj _ _ _ _ _ q2 m1
                subst this
                simp [show k < listed.size by omega] at q1
          · rw [if_neg e, hR b]
            have hkj : ∀ k, idAt is s.next k = some b → k ≠ j := fun k q2 e2 => by subst e2; rw [m1] at q2; cases q2; exact e rfl
            constructor
            · rintro (q | ⟨k, q1, q2⟩)
              · exact .inl q
              · exact .inr ⟨k, by rw [getD_set_ne false (Ne.symm (hkj k q2))]; exact q1, q2⟩
            · rintro (q | ⟨k, q1, q2⟩)
              · exact .inl q
              · exact .inr ⟨k, by rw [getD_set_ne false (Ne.symm (hkj k q2))] at q1; exact q1, q2⟩
        rcases (h60 j i hi).1.2 with hz | ⟨u1, u2, u3, u4⟩ | ⟨u1, u2⟩
        · exact absurd hz hnoz
        · have hg : guardR (Es j) i.guard (some true) (some false) = some false := by
            obtain ⟨d, b, g1, g2⟩ := u1
            rcases g2 with ⟨c, g2, g3⟩ | g2
            · rw [g1]; simp only [guardR, g2, g3]; rfl
            · rw [g1]; simp only [guardR, g2]
          rcases guard_sound hE1 p3 (hgE _ hg) with ⟨_, q⟩ | ⟨q, _⟩
          · cases q
          · rw [if_neg (by rw [q]; simp)]
            exact hnext G1 undef w1 (Gh.le0_refl G1) (hquiet (Gh.le_refl G1) hidn) (by rw [u2]; exact .tup [] #[] .nil) (by rw [hk2 (by omega)]; exact hS1)
        · have hg : guardR (Es j) i.guard (some true) (some false) = some true := by
            rcases u1 with g1 | ⟨d, b, g1, g2⟩
            · rw [g1]; rfl
            · rw [g1]; simp only [guardR, g2]; simp
          rcases guard_sound hE1 p3 (hgE _ hg) with ⟨q, _⟩ | ⟨_, q⟩
          · rw [if_pos q]
            left
            have hsame : Same (envL is Vs (Es 0) (fun i => listed.getD i false) ops.size) (Es j) (reads i.op) := fun t ht => hat t (by
              unfold slotsI
              rw [Nat.testBit_or, Nat.testBit_or, ht]; simp)
            obtain ⟨v1, v2, v3⟩ := ev1_loud u2
            by_cases hz : Ls j = 0
            · have hev := v3 hz (Ss (kOf Ls (fun i => listed.getD i false) ops.size))
              rw [← ev1_same hsame] at hev
              exact op_sound hcall p1 hE1 hS1 hev (fun G' v' w' q1 q2 q3 => hnext G' v' w' q1.tole0 (hquiet q1 hidn) q2 (by rw [hk2 (by omega)]; exact q3))
            · by_cases h1j : Ls j = 1
              · have hst : (Ss (kOf Ls (fun i => listed.getD i false) ops.size)).get (blockOf gl (Es j) i.op) = (Ss j).get (blockOf gl (Es j) i.op) := hlook h1j _ (hblk h1j)
                have hev := ev1_look (by rw [h1j] at u2; exact u2) _ hst
                rw [← ev1_same hsame] at hev
                exact op_sound hcall p1 hE1 hS1 hev (fun G' v' w' q1 q2 q3 => hnext G' v' w' q1.tole0 (hquiet q1 hidn) q2 (by rw [hk2 (by omega)]; exact q3))
              · have h2 : Ls j = 2 := by omega
                have hst : Ss (kOf Ls (fun i => listed.getD i false) ops.size) = Ss j := by
                  have q := kOf_at h6 (fun i => listed.getD i false) j (by omega) (fun k hk h2' => by
                    rcases Nat.lt_trichotomy k j with hlt | heq | hgt
                    · simp only [hbefore k (hww k j hlt hjl h2' h2), decide_eq_true hlt]
                    · subst heq; simp only [hj0]; simp
                    · rw [decide_eq_false (by omega)]
                      cases hlk : listed.getD k false with
                      | false => rfl
                      | true => rw [hcl k j hlk (hww j k hgt (by omega) h2 h2')] at hj0; cases hj0) ops.size (by omega)
                  rw [q, Nat.min_eq_right (by omega)]
                rw [hst] at hS1
                have hev := u2
                rw [← ev1_same hsame] at hev
                refine op_sound hcall p1 hE1 hS1 hev (fun G' v' w' q1 q2 q3 => hnext G' v' w' q1.tole0 (hquiet q1 hidn) q2 ?_)
                have q := kOf_at h6 (fun i => (listed.setIfInBounds j true).getD i false) (j + 1) (by omega) (fun k hk h2' => by
                  rcases Nat.lt_trichotomy k j with hlt | heq | hgt
                  · simp only [getD_set_ne false (show j ≠ k by omega), hbefore k (hww k j hlt hjl h2' h2)]
                    simp; omega
                  · subst heq; simp [show k < listed.size by omega]
                  · simp only [getD_set_ne false (show j ≠ k by omega)]
                    rw [decide_eq_false (by omega)]
                    cases hlk : listed.getD k false with
                    | false => rfl
                    | true => rw [hcl k j hlk (hww j k hgt (by omega) h2 h2')] at hj0; cases hj0) ops.size (by omega)
                rw [q, Nat.min_eq_right (by omega)]
                exact q3
          · cases q
  refine wp_region_any hm ?_
  have hL0 : ∀ i, (Array.replicate ops.size false).getD i false = false := by
    intro i
    rw [Array.getD_eq_getD_getElem?, Array.getElem?_replicate]
    split <;> rfl
  have he0 : ∀ k, envL is Vs (Es 0) (fun i => (Array.replicate ops.size false).getD i false) k = Es 0 := by
    intro k
    induction k with
    | zero => rfl
    | succ k ih =>
      simp only [envL, hL0, Bool.false_eq_true, if_false] at ih ⊢
      cases is[k]? <;> exact ih
  have hk0 : ∀ k, kOf Ls (fun i => (Array.replicate ops.size false).getD i false) k = 0 := by
    intro k
    induction k with
    | zero => rfl
    | succ k ih => simp only [kOf, hL0, Bool.false_and, Bool.false_eq_true, if_false] at ih ⊢; exact ih
  refine key ops.size _ Gr a _ (by simp) (fun j k hj _ => by rw [hL0] at hj; cases hj) ?_ r1 (fun b => ?_) (by rw [he0, h1]; exact hE.mono0 r1) (by rw [hk0, h2]; exact r3.drew) rfl
  case refine_2 => rw [r2 b]; simp only [hL0, true_and]
  exact Nat.le_trans List.countP_le_length (by simp)
end

end Go.Ab
