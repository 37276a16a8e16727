/- The whole program by the quick evaluator with unknowns. No conditions. -/
import Derived.Test.YtgflghhffmjojaaGreatDoorHa
import Derived.Test.YtgflghhffmjojaaGreatDoorHz
import Derived.Test.YtgflghhffmjojaaGreatDoorLv
set_option linter.unusedSimpArgs false
set_option linter.unusedVariables false
set_option linter.unusedSectionVars false
set_option maxRecDepth 100000
namespace Go.Proofs.YtgflghhffmjojaaGreatDoor
open Go Go.Ab
theorem tab_plain (i : Nat) : plainV (tabGl i) = true := by
  unfold tabGl
  split
  · decide +kernel
  · split
    · decide +kernel
    · split
      · decide +kernel
      · rfl
section
variable {g : Sg} {cx : Nat → List AV → AV → Prop}
theorem raw_vsT {n : Nat} {E : FE} {e : Env} (hE : ET g n E e) : ∀ {rs : List MRes} {vs : List AV}, rawL E rs = some vs → rawVs e rs = some (svL g vs) := by
  intro rs
  induction rs with
  | nil => intro vs h; cases h; rfl
  | cons r rs ih =>
    intro vs h
    cases r with
    | tmp size i =>
      simp only [rawL] at h
      cases hq : rawL E rs with
      | none => rw [hq] at h; cases h
      | some us =>
        rw [hq] at h
        cases h
        simp only [rawVs, ih hq, hE.at i, Option.map_some, svL]
    | cell i m => cases h
theorem raw_T {gl : Nat → AV} (hgl : ∀ i, plainV (gl i) = true) {call : FCall} {call' : Calls'} (hc : CallT g cx call call') (m : MFun) (k : Nat) {args : List AV} {S : FS} {v : AV} {S' : FS} {kk : Nat} (h : rawM m gl k call args S = .ok v S' kk) :
    Evo S S' ∧ ∀ s, GoodT g cx S' → RT g S s → ∃ s', rawR m.res (evC gl call' k m.body (env0 m.ntmps (svL g args)) s) = some (sv g v, s') ∧ RT g S' s' := by
  obtain ⟨n, res, body⟩ := m
  have h : (@Bool.rec (fun _ => FR) .bad (rawK ((cB gl n body).c k call (envK args 0) S) res) (Nat.ble (lenK args) n && Nat.ble n 256)) = .ok v S' kk := h
  cases hb : (Nat.ble (lenK args) n && Nat.ble n 256) with
  | false => rw [hb] at h; cases h
  | true =>
    rw [hb] at h
    rw [Bool.and_eq_true, lenK_eq] at hb
    have hE := env_ok (g := g) (ble_le hb.1) (ble_le hb.2)
    have hs := fun s => code_sim (gl := gl) hgl hc k body (envK args 0) (env0 n (svL g args)) S s hE
    have fin : ∀ (x : Ex) (E1 : FE) (S1 : FS), x ≠ .exit 0 → (∀ i, x ≠ .exit i) → optK (rawL E1 res) (fun vs => outE vs S1) = .ok v S' kk → (∀ s, Evo S S1 ∧ (GoodT g cx S1 → RT g S s → ∃ e' s', evC gl call' k body (env0 n (svL g args)) s = some (x, e', s') ∧ ET g n E1 e' ∧ RT g S1 s')) →
        Evo S S' ∧ ∀ s, GoodT g cx S' → RT g S s → ∃ s', rawR res (evC gl call' k body (env0 n (svL g args)) s) = some (sv g v, s') ∧ RT g S' s' := by
      intro x E1 S1 _ hx h hs'
      obtain ⟨vs, h1, h2⟩ := optK_ok h
      cases h2
      refine ⟨(hs' ⟨[], 0⟩).1, fun s hG hS => ?_⟩
      obtain ⟨e1, s1, q1, q2, q3⟩ := (hs' s).2 hG hS
      refine ⟨s1, ?_, q3⟩
      have := raw_vsT q2 h1
      cases x with
      | exit i => exact absurd rfl (hx i)
      | nrm => simp only [q1, rawR, this, Option.map_some, oneOr_sv]
      | ret => simp only [q1, rawR, this, Option.map_some, oneOr_sv]
    cases hr : (cB gl n body).c k call (envK args 0) S with
    | bad => rw [hr] at h; cases h
    | exit i E1 S1 => rw [hr] at h; cases h
    | nrm E1 S1 =>
      rw [hr] at h
      exact fin .nrm E1 S1 (fun h => by cases h) (fun i h => by cases h) h fun s => by have := hs s; rw [hr] at this; exact ⟨this.1, this.2.2⟩
    | ret E1 S1 =>
      rw [hr] at h
      exact fin .ret E1 S1 (fun h => by cases h) (fun i h => by cases h) h fun s => by have := hs s; rw [hr] at this; exact ⟨this.1, this.2.2⟩
theorem orX_eq {f k : Nat} {h : List AV → FS → FR} {r : Option (List AV → FS → FR)} : orX f k h r = if f = k then some h else r := by
  show @Bool.rec (fun _ => Option (List AV → FS → FR)) r (some h) (Nat.beq f k) = _
  cases hb : Nat.beq f k with
  | true => rw [if_pos (beq_n hb)]
  | false => rw [if_neg (Nat.ne_of_beq_eq_false hb)]
/-- One function more. -/
theorem x_or {X : Nat → Option (List AV → FS → FR)} {ext : Nat → Option (List AV → St → Option (AV × St))} (hX : XSim g cx X ext) {k : Nat} {h : List AV → FS → FR} {h' : List AV → St → Option (AV × St)}
    (hh : ∀ args S v S' n, h args S = .ok v S' n → Evo S S' ∧ ∀ s, GoodT g cx S' → RT g S s → ∃ s', h' (svL g args) s = some (sv g v, s') ∧ RT g S' s') :
    XSim g cx (fun f => orX f k h (X f)) (fun f => if f = k then some h' else ext f) := by
  intro f
  simp only [orX_eq]
  by_cases e : f = k
  · simp only [if_pos e]
    exact ⟨(fun q => by cases q), fun x hx => by cases hx; exact ⟨h', rfl, hh⟩⟩
  · simp only [if_neg e]
    exact hX f
theorem x0_T : XSim g cx fX0 ext := by
  intro f
  show (@Bool.rec (fun _ => Option (List AV → FS → FR)) none (some growF) (Nat.beq f 160) = none → _) ∧ ∀ h, @Bool.rec (fun _ => Option (List AV → FS → FR)) none (some growF) (Nat.beq f 160) = some h → _
  cases hb : Nat.beq f 160 with
  | false =>
    have : f ≠ 160 := Nat.ne_of_beq_eq_false hb
    exact ⟨fun _ => by unfold ext; exact if_neg this, fun h hh => by cases hh⟩
  | true =>
    have : f = 160 := beq_n hb
    refine ⟨(fun q => by cases q), fun h hh => ?_⟩
    cases hh
    refine ⟨growX, by unfold ext; exact if_pos this, fun args S v S' k h => ?_⟩
    unfold growF at h
    split at h
    · rename_i n
      rcases bK_ok h with ⟨q, h1⟩ | ⟨q, h1⟩
      · cases h1
        exact ⟨Evo.refl _, fun s _ hS => ⟨s, by simp only [growX, svL, sv]; rw [if_pos (of_decide_eq_true q)], hS⟩⟩
      · obtain ⟨h2, h3⟩ := bK_t h1
        have h4 := new_ok h3
        cases h4
        rw [Bool.and_eq_true, decide_eq_true_eq, decide_eq_true_eq] at h2
        exact ⟨Evo.mk' _ _, fun s _ hS => ⟨_, by simp only [growX, svL, sv]; rw [if_neg (of_decide_eq_false q), if_pos h2, hS.nx]; rfl, hS.new _⟩⟩
    · cases h
theorem x1_T : XSim g cx fX1 ext1 := by
  have c0 : CallT g cx (fF tabGl fTab fX0 600) (ev0 600) := fun_sim tab_plain fTab_ok x0_T 600
  have r : ∀ m, ∀ args S v S' k, raw0 m args S = .ok v S' k → Evo S S' ∧ ∀ s, GoodT g cx S' → RT g S s → ∃ s', rw0 m (svL g args) s = some (sv g v, s') ∧ RT g S' s' := fun m args S v S' k h => raw_T tab_plain c0 m 600 h
  exact x_or (x_or x0_T (k := 158) (r M158)) (k := 91) (r M91)
theorem x2_T : XSim g cx fX ext2 := by
  have c1 : CallT g cx (fF tabGl fTab fX1 600) (ev1' 600) := fun_sim tab_plain fTab_ok x1_T 600
  have r : ∀ m, ∀ args S v S' k, raw1 m args S = .ok v S' k → Evo S S' ∧ ∀ s, GoodT g cx S' → RT g S s → ∃ s', rw1 m (svL g args) s = some (sv g v, s') ∧ RT g S' s' := fun m args S v S' k h => raw_T tab_plain c1 m 600 h
  exact x_or (x_or x1_T (k := 82) (r M82s)) (k := 58) (r M58s)
end
noncomputable def fPa (k : Nat) : FCall := fF tabGl fTab fX k
theorem fPa_T {g : Sg} {cx : Nat → List AV → AV → Prop} (k : Nat) : CallT g cx (fPa k) (ev2a k) := fun_sim tab_plain fTab_ok x2_T k
end Go.Proofs.YtgflghhffmjojaaGreatDoor
