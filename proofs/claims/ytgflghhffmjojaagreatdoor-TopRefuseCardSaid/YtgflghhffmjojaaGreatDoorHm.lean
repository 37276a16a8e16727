/- The whole program by the quick evaluator with unknowns; functions without memory stand written down. No conditions. -/
import Derived.Test.YtgflghhffmjojaaGreatDoorHb0
set_option linter.unusedSimpArgs false
set_option linter.unusedVariables false
set_option linter.unusedSectionVars false
set_option maxRecDepth 100000
namespace Go.Proofs.YtgflghhffmjojaaGreatDoor
open Go Go.Ab
def noL (_ : Nat) : AV := .bool false
theorem ext2b_ok : ∀ w0, ExtOk Tryz.prog tabGl w0 ext2b := extOk_add (tableOf_ok _) mixed tab_flat ext2_ok lstB (by
  intro f h hf
  unfold lstB at hf
  split at hf
  · rename_i e
    subst e
    cases hf
    refine ⟨List.all_eq_true.1 rest_ok 89 (by decide), 600, fun args s v h => ?_⟩
    unfold hB89 at h
    split at h
    · cases h
      obtain ⟨S', k, h1, h2⟩ := said_run rb89
      obtain ⟨_, h3⟩ := fPa_T (g := Sg.of noL fun _ => rfl) (cx := fun _ _ _ => False) 600 89 [] _ _ S' k h1
      obtain ⟨s', h4, _⟩ := h3 St.nil (said_ok h2 (fun _ h => by cases h)) (rt_nil _ _ _)
      exact ⟨rfl, .inl ⟨rfl, _, s', h4, rfl⟩⟩
    · cases h
  · cases hf)
noncomputable def bgF (args : List AV) (S : FS) : FR := match args with
  | [] => .ok (.bool true) S 2
  | _ => .bad
noncomputable def fXb (f : Nat) : Option (List AV → FS → FR) := orX f 89 bgF (fX f)
noncomputable def pB89 (args : List AV) (s : St) : Option (AV × St) := (hB89 (args.map dry1) s).map (·, s)
theorem ext2b_eq : ext2b = fun f => if f = 89 then some pB89 else ext2 f := by
  funext f
  unfold ext2b extWith lstB
  by_cases e : f = 89
  · subst e; rfl
  · simp only [if_neg e]
theorem x2b_T {g : Sg} {cx : Nat → List AV → AV → Prop} : XSim g cx fXb ext2b := by
  rw [ext2b_eq]
  refine x_or x2_T (k := 89) fun args S v S' k h => ?_
  unfold bgF at h
  split at h
  · cases h
    exact ⟨Evo.refl _, fun s _ hS => ⟨s, rfl, hS⟩⟩
  · cases h
/-- Functions of flat values that leave nothing behind. -/
def PF : List Nat := [57, 38, 135, 16, 156, 77, 78, 79, 83, 98, 69, 70, 72, 104, 143, 144]
noncomputable def hSem (f : Nat) (args : List AV) (_ : St) : Option AV :=
  if flatL args = true then match ev2 600 f args St.nil with
    | some (v0, _) => if flat (dryV v0) = true then some (dryV v0) else none
    | none => none
  else none
theorem sem_pure (f : Nat) : PureOk (ev2 600) f (hSem f) := by
  intro args s v h
  unfold hSem at h
  split at h
  · rename_i hf
    split at h
    · rename_i v0 s0 hv
      split at h
      · rename_i hd
        cases h
        exact ⟨hd, .inl ⟨hf, v0, s0, hv, rfl⟩⟩
      · cases h
    · cases h
  · cases h
noncomputable def lstP (f : Nat) : Option (List AV → St → Option AV) := if PF.contains f = true then some (hSem f) else none
noncomputable def extM : Nat → Option (List AV → St → Option (AV × St)) := extWith ext2b lstP
theorem pf_ok : (PF.all fun f => (tableOf Tryz.prog f).isSome) = true := by kernel_rfl
theorem pf_some (f : Nat) (h : PF.contains f = true) : (tableOf Tryz.prog f).isSome = true := List.all_eq_true.1 pf_ok f (List.contains_iff_mem.1 h)
theorem extM_ok : ∀ w0, ExtOk Tryz.prog tabGl w0 extM := extOk_add (tableOf_ok _) mixed tab_flat ext2b_ok lstP (by
  intro f h hf
  unfold lstP at hf
  split at hf
  · rename_i e
    cases hf
    exact ⟨pf_some f e, 600, sem_pure f⟩
  · cases hf)
noncomputable def evM : Nat → Calls' := evF tabGl (tableOf Tryz.prog) extM
theorem evM_ok (w0 : World) (k : Nat) : CallOk Tryz.prog tabGl w0 (evM k) := evF_sound (tableOf_ok _) (extM_ok w0) mixed k
/-- What a function of these answers. -/
def cxM (f : Nat) (args : List AV) (t : AV) : Prop := PF.contains f = true ∧ hSem f (args.map dry1) St.nil = some t
section
variable {g : Sg} {cx : Nat → List AV → AV → Prop}
/-- What is written down is so. -/
def RGood (g : Sg) (R : MT) : Prop := ∀ p ∈ R, ∀ q ∈ p.2, hSem p.1 (svL g q.1) St.nil = some (sv g q.2)
noncomputable def fXM (R : MT) : Nat → Option (List AV → FS → FR) := mX R fXb
theorem xM_T {R : MT} (hk : R.map Prod.fst = PF) (hR : RGood g R) : XSim g cx (fXM R) extM := by
  intro f
  have hc : (mLu R f).isSome = PF.contains f := by rw [mLu_keys, hk]
  cases hq : mLu R f with
  | none =>
    have e1 : fXM R f = fXb f := by unfold fXM mX; rw [hq]
    have e2 : extM f = ext2b f := by
      unfold extM extWith lstP
      rw [hq] at hc
      rw [← hc]; rfl
    rw [e1, e2]
    exact x2b_T f
  | some l =>
    have e1 : fXM R f = some fun args S => luA l (args.map dryF) S := by unfold fXM mX; rw [hq]
    have e2 : extM f = some fun args s => (hSem f (args.map dry1) s).map (·, s) := by
      unfold extM extWith lstP
      rw [hq] at hc
      rw [← hc]; rfl
    rw [e1, e2]
    refine ⟨(fun h => by cases h), fun h hh => ?_⟩
    cases hh
    refine ⟨_, rfl, fun args S v S' k h => ?_⟩
    obtain ⟨rfl, h2⟩ := luA_ok h
    refine ⟨Evo.refl _, fun s _ hS => ⟨s, ?_, hS⟩⟩
    have h3 := hR _ (mLu_ok hq) _ h2
    have h4 : hSem f ((svL g args).map dry1) s = some (sv g v) := by rw [drys_sv]; exact h3
    show (hSem f ((svL g args).map dry1) s).map (·, s) = _
    rw [h4]; rfl
end
/-- The quick evaluator of all, with what is written down. -/
noncomputable def fM (R : MT) (k : Nat) : FCall := fF tabGl fTab (fXM R) k
theorem fM_T {g : Sg} {R : MT} (hk : R.map Prod.fst = PF) (hR : RGood g R) (k : Nat) : CallT g cxM (fM R k) (evM k) := fun_sim tab_plain fTab_ok (xM_T hk hR) k
/-- With nothing written down. -/
noncomputable def fP (k : Nat) : FCall := fF tabGl fTab fXb k
theorem fP_T {g : Sg} (k : Nat) : CallT g cxM (fP k) (ev2 k) := fun_sim tab_plain fTab_ok x2b_T k
/-- What a function without memory answers, of unknown things: a run from nothing. -/
theorem sem_of {L : Nat → AV} {h : ∀ i, lfOk (L i) = true} {f : Nat} {args : List AV} {t : AV} {orc : List AV} {U : List Nt} (hr : (fP 600 f args (FS.none' orc)).said U = some t) (hU : ∀ a ∈ U, NtOk (Sg.of L h) cxM a)
    (hf : flatL (svL (Sg.of L h) args) = true) (hd : flat (dryV (sv (Sg.of L h) t)) = true) : hSem f (svL (Sg.of L h) args) St.nil = some (dryV (sv (Sg.of L h) t)) := by
  obtain ⟨S', k, h1, h2⟩ := said_run hr
  obtain ⟨_, h3⟩ := fP_T (g := Sg.of L h) 600 f args _ t S' k h1
  obtain ⟨s', h4, _⟩ := h3 St.nil (said_ok h2 hU) (rt_nil L h orc)
  unfold hSem
  rw [if_pos hf, h4]
  simp only
  rw [if_pos hd]
end Go.Proofs.YtgflghhffmjojaaGreatDoor
