/- TwoComplete on a plain model: what is lost, what comes, how many; once nothing is lost all comes. No conditions. -/
import Derived.Test.YtochnineebgbgaaDoorTSm
set_option linter.unusedSimpArgs false
set_option linter.unusedVariables false
set_option maxRecDepth 100000
namespace Go.Proofs.YtochnineebgbgaaDoor
open Go Go.Ab
/-- One side hears what the other one says, but for what is lost; g: how many were told. -/
def hearK (lost : Nat → Bool) : Nat → List Fm → Tn × Nat → Option (Tn × Nat)
  | _, [], x => some x
  | k, p :: ps, (T, g) =>
    if lost k = true then hearK lost (k + 1) ps (T, g)
    else if T.can p = true then hearK lost (k + 1) ps (T.took p, if T.tells p = true then g + 1 else g) else none
/-- From X to Y: k were acknowledged. -/
structure Dir (W : Nat) (X Y : Tn) (put told k : Nat) : Prop where
  put : put = k + X.L.length
  f : X.f = ((k % 8 : Nat) : Int)
  st : X.st ≤ W
  stL : X.st ≤ X.L.length
  nx : Y.nx = ((told % 8 : Nat) : Int)
  lo : k ≤ told
  hi : told ≤ k + X.st
theorem Dir.acc {W : Nat} {X Y : Tn} {put told k : Nat} (h : Dir W X Y put told k) (hW : W ≤ 7) : X.acc Y.nx = true ∧ (Y.nx - X.f) % 8 = ((told - k : Nat) : Int) := by
  obtain ⟨h1, h2, h3, h4, h5, h6, h7⟩ := h
  have e : (Y.nx - X.f) % 8 = ((told - k : Nat) : Int) := by rw [h5, h2]; omega
  exact ⟨by unfold Tn.acc; rw [e]; exact decide_eq_true (by omega), e⟩
/-- Y takes a frame of X's: what comes from Y to X. -/
theorem Dir.acked {V : Nat} {X Y : Tn} {put told k : Nat} (h : Dir V Y X put told k) (hV : V ≤ 7) (p : Fm) (hp : p.nr = X.nx) :
    Dir V (Y.took p) X put told told ∧ (Y.took p).L.length = put - told := by
  obtain ⟨a1, a2⟩ := h.acc hV
  obtain ⟨h1, h2, h3, h4, h5, h6, h7⟩ := h
  rw [← hp] at a1 a2
  have l : (Y.took p).L.length = put - told := by
    simp only [Tn.took, a1, if_true, a2, Int.toNat_natCast, List.length_drop]; omega
  refine ⟨⟨by rw [l]; omega, ?_, ?_, ?_, h5, Nat.le_refl _, by omega⟩, l⟩
  · simp only [Tn.took, a1, if_true]; rw [hp, h5]
  · simp only [Tn.took, a1, if_true, a2, Int.toNat_natCast]; omega
  · rw [l]; simp only [Tn.took, a1, if_true, a2, Int.toNat_natCast]; omega
/-- A frame of X's. -/
def OfX (X : Tn) (m : Nat) (p : Fm) : Prop :=
  p.cmd = (X.role == 1) ∧ p.nr = X.nx ∧ ((p.kind = 1 ∧ ∃ j, j < m ∧ p.ns = (X.f + (j : Nat)) % 8) ∨ p.kind = 2 ∧ p.ns = 0)
theorem can_of {W V m : Nat} (hW : W ≤ 7) (hV : V ≤ 7) {X Y : Tn} {pu to k pu' to' k' : Nat} (h : Dir W X Y pu to k) (h' : Dir V Y X pu' to' k') (hr : (X.role == 1) = (Y.role == 2)) {p : Fm} (hp : OfX X m p) : Y.can p = true := by
  obtain ⟨p1, p2, p3⟩ := hp
  have := h'.st
  have := h'.stL
  have e := h'.nx
  have f := h.f
  simp only [Tn.can, Bool.and_eq_true, Bool.or_eq_true, decide_eq_true_eq, beq_iff_eq]
  refine ⟨⟨⟨⟨⟨⟨⟨p1.trans hr, ?_⟩, by omega⟩, by omega⟩, by omega⟩, by omega⟩, ?_⟩, ?_⟩
  · rcases p3 with ⟨p3, _⟩ | ⟨p3, _⟩
    · exact .inl p3
    · exact .inr p3
  · rcases p3 with ⟨_, j, _, p3⟩ | ⟨_, p3⟩ <;> omega
  · rcases p3 with ⟨_, j, _, p3⟩ | ⟨_, p3⟩ <;> omega
theorem took_nx (T : Tn) (p : Fm) : (T.took p).nx = if T.tells p = true then (T.nx + 1) % 8 else T.nx := by
  simp only [Tn.took, Tn.tells, Bool.and_eq_true, decide_eq_true_eq]
theorem took_role (T : Tn) (p : Fm) : (T.took p).role = T.role := rfl
/-- Y takes a frame of X's: what comes from X to Y. -/
theorem Dir.came {W m : Nat} (hW : W ≤ 7) {X Y : Tn} {put told k : Nat} (h : Dir W X Y put told k) (hm : m ≤ X.st) {p : Fm} (hp : OfX X m p) :
    Dir W X (Y.took p) put (if Y.tells p = true then told + 1 else told) k ∧ (∀ j, p.kind = 1 → p.ns = (X.f + (j : Nat)) % 8 → j < m → k + j ≤ told → k + j + 1 ≤ (if Y.tells p = true then told + 1 else told)) := by
  obtain ⟨h1, h2, h3, h4, h5, h6, h7⟩ := h
  obtain ⟨p1, p2, p3⟩ := hp
  refine ⟨⟨h1, h2, h3, h4, ?_, ?_, ?_⟩, ?_⟩
  · rw [took_nx]
    split
    · rw [h5]; omega
    · exact h5
  · split <;> omega
  · split
    · rename_i ht
      simp only [Tn.tells, Bool.and_eq_true, decide_eq_true_eq] at ht
      rcases p3 with ⟨_, j, hj, p3⟩ | ⟨p3, _⟩
      · rw [p3, h2, h5] at ht; omega
      · omega
    · exact h7
  · intro j q1 q2 q3 q4
    split
    · omega
    · rename_i ht
      simp only [Tn.tells, Bool.and_eq_true, decide_eq_true_eq] at ht
      by_cases e : k + j = told
      · exact absurd ⟨q1, by rw [q2, h2, h5]; omega⟩ ht
      · omega
/-- What is heard keeps all in order, whatever is lost. -/
theorem hear_dir {W V m : Nat} (hW : W ≤ 7) (hV : V ≤ 7) (lost : Nat → Bool) {X : Tn} (hm : m ≤ X.st) {pu pu' to' k : Nat} : ∀ (ps : List Fm) (i : Nat) (Y : Tn) (to k' : Nat), Dir W X Y pu to k → Dir V Y X pu' to' k' → (X.role == 1) = (Y.role == 2) → (∀ p ∈ ps, OfX X m p) →
    ∃ Y' to2 k2, hearK lost i ps (Y, to) = some (Y', to2) ∧ Dir W X Y' pu to2 k ∧ Dir V Y' X pu' to' k2 ∧ Y'.role = Y.role ∧ to ≤ to2 ∧ to2 ≤ to + ps.length ∧ Y'.L.length ≤ Y.L.length := by
  intro ps
  induction ps with
  | nil => intro i Y to k' h h' hr _; exact ⟨Y, to, k', rfl, h, h', rfl, Nat.le_refl _, Nat.le_refl _, Nat.le_refl _⟩
  | cons p ps ih =>
    intro i Y to k' h h' hr hp
    unfold hearK
    split
    · obtain ⟨Y', to2, k2, e1, e2, e3, e4, e5, e6, e7⟩ := ih (i + 1) Y to k' h h' hr (fun q hq => hp q (by simp [hq]))
      exact ⟨Y', to2, k2, e1, e2, e3, e4, e5, by simp only [List.length_cons]; omega, e7⟩
    · have hpp := hp p (by simp)
      rw [if_pos (can_of hW hV h h' hr hpp)]
      obtain ⟨c1, c2⟩ := h.came hW hm hpp
      obtain ⟨d1, d2⟩ := h'.acked hV p hpp.2.1
      obtain ⟨Y', to2, k2, e1, e2, e3, e4, e5, e6, e7⟩ := ih (i + 1) (Y.took p) _ _ c1 d1 hr (fun q hq => hp q (by simp [hq]))
      have := h'.put
      have := h'.lo
      refine ⟨Y', to2, k2, e1, e2, e3, e4, ?_, ?_, by omega⟩
      · split at e5 <;> omega
      · simp only [List.length_cons]; split at e6 <;> omega
theorem says_of {X : Tn} {W : Nat} : ∀ p ∈ X.says W, OfX (X.went W) (X.m W) p := by
  intro p hp
  have e1 : (X.went W).role = X.role := by unfold Tn.went; split <;> rfl
  have e2 : (X.went W).nx = X.nx := by unfold Tn.went; split <;> rfl
  have e3 : (X.went W).f = X.f := by unfold Tn.went; split <;> rfl
  unfold Tn.says at hp
  split at hp
  · split at hp
    · simp only [List.mem_singleton] at hp
      subst hp
      exact ⟨by rw [e1], by rw [e2], .inr ⟨rfl, rfl⟩⟩
    · obtain ⟨j, hj, rfl⟩ := List.mem_map.1 hp
      exact ⟨by rw [e1], by rw [e2], .inl ⟨rfl, j, List.mem_range.1 hj, by rw [e3]⟩⟩
  · cases hp
theorem Dir.went {W : Nat} {X Y : Tn} {put told k : Nat} (h : Dir W X Y put told k) : Dir W (X.went W) Y put told k ∧ (X.mine = true → (X.went W).st = X.m W) := by
  obtain ⟨h1, h2, h3, h4, h5, h6, h7⟩ := h
  unfold Tn.went
  split
  · refine ⟨⟨h1, h2, ?_, ?_, h5, h6, ?_⟩, fun _ => ?_⟩ <;> simp only [Tn.m] <;> omega
  · rename_i hm
    exact ⟨⟨h1, h2, h3, h4, h5, h6, h7⟩, fun h => absurd h hm⟩
theorem Dir.went' {V W : Nat} {X Y : Tn} {put told k : Nat} (h : Dir V Y X put told k) : Dir V Y (X.went W) put told k := by
  obtain ⟨h1, h2, h3, h4, h5, h6, h7⟩ := h
  exact ⟨h1, h2, h3, h4, by unfold Tn.went; split <;> exact h5, h6, h7⟩
/-- One side says what it has to say. -/
theorem say_dir {W V : Nat} (hW : W ≤ 7) (hV : V ≤ 7) (lost : Nat → Bool) {X Y : Tn} {pu to k pu' to' k' : Nat} (h : Dir W X Y pu to k) (h' : Dir V Y X pu' to' k') (hr : (X.role == 1) = (Y.role == 2)) :
    ∃ Y' to2 k2, hearK lost 0 (X.says W) (Y, to) = some (Y', to2) ∧ Dir W (X.went W) Y' pu to2 k ∧ Dir V Y' (X.went W) pu' to' k2 ∧ Y'.role = Y.role ∧ to ≤ to2 ∧ to2 ≤ to + 8 ∧ Y'.L.length ≤ Y.L.length := by
  have e1 : (X.went W).role = X.role := by unfold Tn.went; split <;> rfl
  obtain ⟨g1, g2⟩ := h.went
  have hl : (X.says W).length ≤ 8 := by
    unfold Tn.says
    split
    · split
      · simp
      · simp only [List.length_map, List.length_range, Tn.m]; omega
    · simp
  by_cases hm : X.mine = true
  · obtain ⟨Y', to2, k2, e⟩ := hear_dir hW hV lost (m := X.m W) (X := X.went W) (by rw [g2 hm]; exact Nat.le_refl _) (X.says W) 0 Y to k' g1 h'.went' (by rw [e1]; exact hr) says_of
    exact ⟨Y', to2, k2, e.1, e.2.1, e.2.2.1, e.2.2.2.1, e.2.2.2.2.1, by have := e.2.2.2.2.2.1; omega, e.2.2.2.2.2.2⟩
  · have : X.says W = [] := by unfold Tn.says; rw [if_neg hm]
    rw [this]
    exact ⟨Y, to, k', rfl, g1, h'.went', rfl, Nat.le_refl _, by omega, Nat.le_refl _⟩
/-- Nothing is lost: all comes. -/
theorem hear_all {W V m : Nat} (hW : W ≤ 7) (hV : V ≤ 7) {X : Tn} (hm : m ≤ X.st) {pu pu' to' k : Nat} : ∀ (n : Nat) (j : Nat) (ps : List Fm), ps.length = n → (∀ i (hi : i < ps.length), (ps[i]).cmd = (X.role == 1) ∧ (ps[i]).nr = X.nx ∧ (ps[i]).kind = 1 ∧ (ps[i]).ns = (X.f + ((j + i : Nat) : Nat)) % 8) → j + n = m → ∀ (i : Nat) (Y : Tn) (to k' : Nat), Dir W X Y pu to k → Dir V Y X pu' to' k' → (X.role == 1) = (Y.role == 2) → k + j ≤ to →
    ∃ Y' to2 k2, hearK (fun _ => false) i ps (Y, to) = some (Y', to2) ∧ Dir W X Y' pu to2 k ∧ Dir V Y' X pu' to' k2 ∧ Y'.role = Y.role ∧ k + m ≤ to2 ∧ (ps ≠ [] → Y'.L.length = pu' - to') ∧ (∀ p, ps.getLast? = some p → p.pf = true → Y'.mine = true) := by
  intro n
  induction n with
  | zero =>
    intro j ps hn _ hj i Y to k' h h' hr hk
    have : ps = [] := List.length_eq_zero_iff.1 hn
    subst this
    exact ⟨Y, to, k', rfl, h, h', rfl, by omega, fun e => absurd rfl e, fun p hp => by cases hp⟩
  | succ n ih =>
    intro j ps hn hps hj i Y to k' h h' hr hk
    cases ps with
    | nil => simp at hn
    | cons p ps =>
      have hp0 := hps 0 (by simp)
      simp only [List.getElem_cons_zero, Nat.add_zero] at hp0
      have hpp : OfX X m p := ⟨hp0.1, hp0.2.1, .inl ⟨hp0.2.2.1, j, by omega, hp0.2.2.2⟩⟩
      unfold hearK
      rw [if_neg (by simp), if_pos (can_of hW hV h h' hr hpp)]
      obtain ⟨c1, c2⟩ := h.came hW hm hpp
      obtain ⟨d1, d2⟩ := h'.acked hV p hpp.2.1
      obtain ⟨Y', to2, k2, e1, e2, e3, e4, e5, e6, e7⟩ := ih (j + 1) ps (by simpa using hn) (fun i hi => by
        have := hps (i + 1) (by simpa using hi)
        simp only [List.getElem_cons_succ] at this
        rw [show j + 1 + i = j + (i + 1) by omega]
        exact this) (by omega) (i + 1) (Y.took p) _ _ c1 d1 hr (c2 j hp0.2.2.1 hp0.2.2.2 (by omega) hk)
      refine ⟨Y', to2, k2, e1, e2, e3, e4, e5, fun _ => ?_, fun q hq hf => ?_⟩
      · by_cases hps' : ps = []
        · subst hps'
          cases e1
          exact d2
        · exact e6 hps'
      · by_cases hps' : ps = []
        · subst hps'
          cases e1
          have hpq : p = q := by simpa using hq
          subst hpq
          show (Y.mine || p.pf) = true
          rw [hf, Bool.or_true]
        · exact e7 q (by rw [← hq, List.getLast?_cons_of_ne_nil hps']) hf
theorem say_all {W V : Nat} (hW : W ≤ 7) (hV : V ≤ 7) {X Y : Tn} {pu to k pu' to' k' : Nat} (h : Dir W X Y pu to k) (h' : Dir V Y X pu' to' k') (hr : (X.role == 1) = (Y.role == 2)) (hm : X.mine = true) :
    ∃ Y' to2 k2, hearK (fun _ => false) 0 (X.says W) (Y, to) = some (Y', to2) ∧ Dir W (X.went W) Y' pu to2 k ∧ Dir V Y' (X.went W) pu' to' k2 ∧ Y'.role = Y.role ∧ to2 = k + X.m W ∧ Y'.L.length = pu' - to' ∧ Y'.mine = true := by
  have e1 : (X.went W).role = X.role := by unfold Tn.went; split <;> rfl
  have e2 : (X.went W).nx = X.nx := by unfold Tn.went; split <;> rfl
  have e3 : (X.went W).f = X.f := by unfold Tn.went; split <;> rfl
  obtain ⟨g1, g2⟩ := h.went
  have g2 := g2 hm
  have hr' : ((X.went W).role == 1) = (Y.role == 2) := by rw [e1]; exact hr
  by_cases h0 : X.m W = 0
  · have hs : X.says W = [⟨X.role == 1, 2, if X.od = true then 2 else 0, X.nx, 0, true, []⟩] := by unfold Tn.says; rw [if_pos hm, if_pos h0]
    have hpp : OfX (X.went W) (X.m W) ⟨X.role == 1, 2, if X.od = true then 2 else 0, X.nx, 0, true, []⟩ := says_of _ (by rw [hs]; simp)
    rw [hs]
    unfold hearK
    rw [if_neg (by simp), if_pos (can_of hW hV g1 h'.went' hr' hpp)]
    obtain ⟨c1, c2⟩ := g1.came hW (m := X.m W) (by omega) hpp
    obtain ⟨d1, d2⟩ := (h'.went' (W := W)).acked hV _ hpp.2.1
    refine ⟨_, _, _, rfl, c1, d1, rfl, ?_, d2, ?_⟩
    · have a := c1.lo
      have b := c1.hi
      rw [g2] at b
      omega
    · show (Y.mine || true) = true
      simp
  · have hs : X.says W = (List.range (X.m W)).map fun j => ⟨X.role == 1, 1, 0, X.nx, (X.f + (j : Nat)) % 8, decide (j + 1 = X.m W), X.L.getD j []⟩ := by unfold Tn.says; rw [if_pos hm, if_neg h0]
    obtain ⟨Y', to2, k2, q1, q2, q3, q4, q5, q6, q7⟩ := hear_all hW hV (m := X.m W) (X := X.went W) (by omega) (X.m W) 0 (X.says W) (by rw [hs]; simp) (fun i hi => by
      have hx : (X.says W)[i] = ⟨X.role == 1, 1, 0, X.nx, (X.f + (i : Nat)) % 8, decide (i + 1 = X.m W), X.L.getD i []⟩ := by simp only [hs, List.getElem_map, List.getElem_range]
      rw [hx, e1, e2, e3, Nat.zero_add]
      exact ⟨rfl, rfl, rfl, rfl⟩) (by omega) 0 Y to k' g1 h'.went' hr' (by have := h.lo; omega)
    have hb := q2.hi
    rw [g2] at hb
    refine ⟨Y', to2, k2, q1, q2, q3, q4, by omega, q6 ?_, q7 ⟨X.role == 1, 1, 0, X.nx, (X.f + ((X.m W - 1 : Nat) : Nat)) % 8, true, X.L.getD (X.m W - 1) []⟩ ?_ rfl⟩
    · rw [hs]
      intro e
      have := congrArg List.length e
      simp at this
      omega
    · rw [hs, List.getLast?_eq_getElem?, List.getElem?_map, List.length_map, List.length_range, List.getElem?_range (by omega)]
      simp only [Option.map_some]
      rw [show decide (X.m W - 1 + 1 = X.m W) = true from decide_eq_true (by omega)]
/-! TwoComplete: two sides with their counts. -/
structure Ss where
  a : Tn
  b : Tn
  p0 : Nat
  p1 : Nat
  t0 : Nat
  t1 : Nat
structure Keep2 (W V : Nat) (S : Ss) : Prop where
  ka : ∃ k, Dir W S.a S.b S.p0 S.t1 k
  kb : ∃ k, Dir V S.b S.a S.p1 S.t0 k
  ra : S.a.role = 1
  rb : S.b.role = 2
  la : S.a.L.length ≤ 8
  lb : S.b.L.length ≤ 8
def Ss.sym (S : Ss) : Ss := ⟨S.b, S.a, S.p1, S.p0, S.t1, S.t0⟩
def x1 : List UInt8 := [120]
def Ss.put0 (S : Ss) : Ss := if S.a.L.length < 8 then { S with a := { S.a with L := S.a.L ++ [x1] }, p0 := S.p0 + 1 } else S
def Ss.put1 (S : Ss) : Ss := if S.b.L.length < 8 then { S with b := { S.b with L := S.b.L ++ [x1] }, p1 := S.p1 + 1 } else S
def Ss.late (S : Ss) : Ss := { S with a := S.a.late }
section
variable {W V : Nat} {S : Ss}
theorem Dir.putX {X Y : Tn} {pu to k : Nat} (h : Dir W X Y pu to k) (x : List UInt8) : Dir W { X with L := X.L ++ [x] } Y (pu + 1) to k := by
  obtain ⟨h1, h2, h3, h4, h5, h6, h7⟩ := h
  exact ⟨by simp; omega, h2, h3, by simp; omega, h5, h6, h7⟩
theorem Dir.putY {X Y : Tn} {pu to k : Nat} (h : Dir W X Y pu to k) (l : List (List UInt8)) : Dir W X { Y with L := l } pu to k := by
  obtain ⟨h1, h2, h3, h4, h5, h6, h7⟩ := h
  exact ⟨h1, h2, h3, h4, h5, h6, h7⟩
theorem Dir.lateX {X Y : Tn} {pu to k : Nat} (h : Dir W X Y pu to k) : Dir W X.late Y pu to k := by
  obtain ⟨h1, h2, h3, h4, h5, h6, h7⟩ := h
  exact ⟨h1, h2, h3, h4, h5, h6, h7⟩
theorem Dir.lateY {X Y : Tn} {pu to k : Nat} (h : Dir W X Y pu to k) : Dir W X Y.late pu to k := by
  obtain ⟨h1, h2, h3, h4, h5, h6, h7⟩ := h
  exact ⟨h1, h2, h3, h4, h5, h6, h7⟩
theorem Keep2.put0 (h : Keep2 W V S) : Keep2 W V S.put0 := by
  unfold Ss.put0
  split
  · obtain ⟨⟨k, ka⟩, ⟨k', kb⟩, ra, rb, la, lb⟩ := h
    exact ⟨⟨k, ka.putX _⟩, ⟨k', kb.putY _⟩, ra, rb, by simp; omega, lb⟩
  · exact h
theorem Keep2.put1 (h : Keep2 W V S) : Keep2 W V S.put1 := by
  unfold Ss.put1
  split
  · obtain ⟨⟨k, ka⟩, ⟨k', kb⟩, ra, rb, la, lb⟩ := h
    exact ⟨⟨k, ka.putY _⟩, ⟨k', kb.putX _⟩, ra, rb, la, by simp; omega⟩
  · exact h
theorem Keep2.late (h : Keep2 W V S) : Keep2 W V S.late := by
  obtain ⟨⟨k, ka⟩, ⟨k', kb⟩, ra, rb, la, lb⟩ := h
  exact ⟨⟨k, ka.lateX⟩, ⟨k', kb.lateY⟩, ra, rb, la, lb⟩
theorem Keep2.say0 (h : Keep2 W V S) (hW : W ≤ 7) (hV : V ≤ 7) (lost : Nat → Bool) : ∃ b t, hearK lost 0 (S.a.says W) (S.b, S.t1) = some (b, t) ∧ Keep2 W V { S with a := S.a.went W, b := b, t1 := t } ∧ t ≤ S.t1 + 8 := by
  obtain ⟨⟨k, ka⟩, ⟨k', kb⟩, ra, rb, la, lb⟩ := h
  obtain ⟨b, t, k2, e1, e2, e3, e4, e5, e6, e7⟩ := say_dir hW hV lost ka kb (by rw [ra, rb]; rfl)
  have r1 : (S.a.went W).role = S.a.role := by unfold Tn.went; split <;> rfl
  have r2 : (S.a.went W).L = S.a.L := by unfold Tn.went; split <;> rfl
  exact ⟨b, t, e1, ⟨⟨k, e2⟩, ⟨k2, e3⟩, r1.trans ra, e4.trans rb, by simp only [r2]; exact la, by simp only; omega⟩, e6⟩
theorem Keep2.say1 (h : Keep2 W V S) (hW : W ≤ 7) (hV : V ≤ 7) (lost : Nat → Bool) : ∃ a t, hearK lost 0 (S.b.says V) (S.a, S.t0) = some (a, t) ∧ Keep2 W V { S with a := a, b := S.b.went V, t0 := t } ∧ t ≤ S.t0 + 8 := by
  obtain ⟨⟨k, ka⟩, ⟨k', kb⟩, ra, rb, la, lb⟩ := h
  obtain ⟨a, t, k2, e1, e2, e3, e4, e5, e6, e7⟩ := say_dir hV hW lost kb ka (by rw [ra, rb]; rfl)
  have r1 : (S.b.went V).role = S.b.role := by unfold Tn.went; split <;> rfl
  have r2 : (S.b.went V).L = S.b.L := by unfold Tn.went; split <;> rfl
  exact ⟨a, t, e1, ⟨⟨k2, e3⟩, ⟨k', e2⟩, e4.trans ra, r1.trans rb, by simp only; omega, by simp only [r2]; exact lb⟩, e6⟩
/-- A round in which nothing is lost. -/
theorem Keep2.round (h : Keep2 W V S) (hW : W ≤ 7) (hV : V ≤ 7) (h1 : 1 ≤ W) (h2 : 1 ≤ V) : ∃ b t a t', hearK (fun _ => false) 0 (S.a.late.says W) (S.b, S.t1) = some (b, t) ∧ hearK (fun _ => false) 0 (b.says V) (S.a.late.went W, S.t0) = some (a, t') ∧
    Keep2 W V ⟨a, b.went V, S.p0, S.p1, t', t⟩ ∧ a.L.length ≤ S.a.L.length - 1 ∧ S.p1 - t' ≤ (S.p1 - S.t0) - 1 ∧ (b.went V).L.length = S.p1 - S.t0 ∧ t ≤ S.t1 + 8 ∧ t' ≤ S.t0 + 8 ∧ Keep2 W V { S with a := S.a.late.went W, b := b, t1 := t } := by
  have hh := h.late
  obtain ⟨⟨k, ka⟩, ⟨k', kb⟩, ra, rb, la, lb⟩ := hh
  have hm : S.a.late.mine = true := by
    show (S.a.mine || S.a.role == 1) = true
    rw [h.ra]
    simp
  simp only [Ss.late] at ka kb ra rb la lb
  obtain ⟨b, t, k2, e1, e2, e3, e4, e5, e6, e7⟩ := say_all hW hV ka kb (by rw [ra, rb]; rfl) hm
  have r1 : (S.a.late.went W).role = S.a.late.role := by unfold Tn.went; split <;> rfl
  have r2 : (S.a.late.went W).L = S.a.L := by unfold Tn.went; split <;> rfl
  have ra' : (S.a.late.went W).role = 1 := r1.trans ra
  have rb' : b.role = 2 := e4.trans rb
  obtain ⟨a, t', k3, f1, f2, f3, f4, f5, f6, f7⟩ := say_all hV hW e3 e2 (by rw [rb', ra']; rfl) e7
  have s1 : (b.went V).role = b.role := by unfold Tn.went; split <;> rfl
  have s2 : (b.went V).L = b.L := by unfold Tn.went; split <;> rfl
  have ma : S.a.late.m W = min W S.a.L.length := rfl
  have mb : b.m V = min V b.L.length := rfl
  have p1 : S.p0 = k + S.a.L.length := ka.put
  have p2 := e2.put
  have p3 := f3.put
  have p4 := f2.put
  have p5 := e3.put
  have l5 := ka.lo
  have l6 := e3.lo
  have l7 := e3.hi
  have l8 := e3.stL
  have u1 := kb.put
  have u2 := kb.lo
  have u3 := kb.hi
  have u4 := kb.stL
  have u5 : S.t1 ≤ k + S.a.st := ka.hi
  have u6 : S.a.st ≤ W := ka.st
  have u7 : S.a.st ≤ S.a.L.length := ka.stL
  rw [r2] at p2
  rw [s2] at p4
  have hbl : b.L.length = S.p1 - S.t0 := e6
  have hla := h.la
  have hlb := h.lb
  refine ⟨b, t, a, t', e1, f1, ⟨⟨k3, f3⟩, ⟨k2, f2⟩, f4.trans ra', s1.trans rb', ?_, ?_⟩, ?_, ?_, ?_, ?_, ?_, ⟨⟨k, e2⟩, ⟨k2, e3⟩, ra', rb', ?_, ?_⟩⟩
  · show a.L.length ≤ 8
    omega
  · show (b.went V).L.length ≤ 8
    rw [s2]
    omega
  · omega
  · omega
  · rw [s2]; omega
  · omega
  · omega
  · show (S.a.late.went W).L.length ≤ 8
    rw [r2]; exact hla
  · show b.L.length ≤ 8
    omega
/-- After twenty of them all that was put has come. -/
theorem Keep2.ends (h : Keep2 W V S) (h1 : S.a.L.length = 0) (h2 : S.p1 - S.t0 = 0) (h3 : S.b.L.length = 0) : S.t1 = S.p0 ∧ S.t0 = S.p1 := by
  obtain ⟨⟨k, ka⟩, ⟨k', kb⟩, ra, rb, la, lb⟩ := h
  have := ka.put
  have := ka.stL
  have := ka.hi
  have := ka.lo
  have := kb.put
  have := kb.stL
  have := kb.hi
  have := kb.lo
  omega
end
theorem inv_start (W V : Nat) : Keep2 W V ⟨⟨1, true, [], 0, 0, 0, false⟩, ⟨2, false, [], 0, 0, 0, false⟩, 0, 0, 0, 0⟩ :=
  ⟨⟨0, ⟨rfl, rfl, Nat.zero_le _, Nat.zero_le _, rfl, Nat.le_refl _, Nat.le_refl _⟩⟩, ⟨0, ⟨rfl, rfl, Nat.zero_le _, Nat.zero_le _, rfl, Nat.le_refl _, Nat.le_refl _⟩⟩, rfl, rfl, Nat.zero_le _, Nat.zero_le _⟩
theorem Keep2.ok {W V : Nat} {S : Ss} (h : Keep2 W V S) (hW : W ≤ 7) (hV : V ≤ 7) : S.a.ok = true ∧ S.b.ok = true := by
  obtain ⟨⟨k, ka⟩, ⟨k', kb⟩, ra, rb, la, lb⟩ := h
  have := ka.st
  have := ka.stL
  have := kb.st
  have := kb.stL
  constructor
  · simp only [Tn.ok, Bool.and_eq_true, Bool.or_eq_true, decide_eq_true_eq]
    exact ⟨⟨⟨.inl ra, la⟩, by omega⟩, by omega⟩
  · simp only [Tn.ok, Bool.and_eq_true, Bool.or_eq_true, decide_eq_true_eq]
    exact ⟨⟨⟨.inr rb, lb⟩, by omega⟩, by omega⟩
end Go.Proofs.YtochnineebgbgaaDoor
