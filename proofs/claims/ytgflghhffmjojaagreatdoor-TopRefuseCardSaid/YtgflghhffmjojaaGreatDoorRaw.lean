/- Functions whose results are handed on as they are (a slice of one's own make is not frozen), each by itself. No conditions. -/
import Derived.Test.YtgflghhffmjojaaGreatDoorAbX
set_option linter.unusedSimpArgs false
set_option linter.unusedVariables false
namespace Go.Ab
open Go
def rawVs (e : Env) : List MRes → Option (List AV)
  | [] => some []
  | .tmp _ i :: rs => (rawVs e rs).map (e.at i :: ·)
  | .cell _ _ :: _ => none
def rawR (res : List MRes) (r : Out) : Option (AV × St) :=
  match r with
  | some (.exit _, _, _) => none
  | some (_, e, s) => (rawVs e res).map fun vs => (oneOr vs, s)
  | none => none
/-- Compiled for slice types of one's own choice. -/
def cFunH (P : Program) (ht : List TypeId) (fn : Func) : Option MFun :=
  match fn.body, cRes P fn.resultTypes.toList fn.results.toList with
  | some c, some rs => some ⟨fn.ntmps, rs, mark fn.ntmps (resB rs) (cCode P (eqOks P) ht c) (resB rs) []⟩
  | _, _ => none
/-- What may stand in place of a function. -/
structure GoodFn (P : Program) (gl : Nat → AV) (f : Nat) (x : List AV → St → Option (AV × St)) : Prop where
  there : ∃ fn, P.funcs[f]? = some fn ∧ fn.body.isSome = true ∧ (fn.name == "runtime.NumGoroutine") = false
  goes : ∀ w0 args s v s' G w vals, x args s = some (v, s') → RelT G args vals → RelS G w0 s w → (∀ g, RelV G (gl g) (.pointer (some ⟨g, 0, none⟩))) →
    Calls P f vals.toArray w fun e w' => ∃ G' v', G.le G' ∧ e = .returned v' ∧ RelV G' v v' ∧ RelS G' w0 s' w'
theorem extOk_of {P : Program} {gl : Nat → AV} {ext : Nat → Option (List AV → St → Option (AV × St))} (h : ∀ f x, ext f = some x → GoodFn P gl f x) (w0 : World) : ExtOk P gl w0 ext :=
  ⟨fun f x hf => (h f x hf).there, fun f x args s v s' G w vals hf hv hr hS hgl => (h f x hf).goes w0 args s v s' G w vals hv hr hS hgl⟩
section
variable {P : Program} {gl : Nat → AV} {F : Nat → Option MFun}
theorem rawVs_sound {e : Env} {a : Act} {w : World} {G : Gh} (rs : List ResultVar) : ∀ {rt : List TypeId} {ms : List MRes} {vs : List AV}, cRes P rt rs = some ms → rawVs e ms = some vs → RelE G gl e a →
    ∃ us, (rs.mapM (fun r => (match r with
      | .tmp t => pure (a.tmps.getD t undef)
      | .cell x t => do loadVar t (← asAddr (a.tmps.getD x undef)) : Sem Value))).run P w = .ok us w ∧ RelT G vs us := by
  induction rs with
  | nil =>
    intro rt ms vs hc h hE
    simp only [cRes] at hc
    cases hc
    simp only [rawVs] at h
    cases h
    exact ⟨[], by simp, .nil⟩
  | cons r rs ih =>
    intro rt ms vs hc h hE
    cases r with
    | tmp t =>
      simp only [cRes] at hc
      split at hc
      · rename_i l hl
        cases hc
        simp only [rawVs] at h
        obtain ⟨vs', q1, rfl⟩ := Option.map_eq_some_iff.1 h
        obtain ⟨us, p2, p3⟩ := ih hl q1 hE
        exact ⟨a.tmps.getD t undef :: us, by simp only [List.mapM_cons, Sem.run_bind, Sem.run_pure, Result.andThen_ok, p2], .cons _ _ _ _ (hE.at_ t) p3⟩
      · cases hc
    | cell x t =>
      simp only [cRes] at hc
      split at hc
      · cases hc
        simp only [rawVs] at h
        cases h
      · cases hc
/-- A function with its results as they are. -/
theorem good_raw {ext : Nat → Option (List AV → St → Option (AV × St))} (hF : TableOk P F) (hx : ∀ w0, ExtOk P gl w0 ext) (hm : P.follows .mixedOrders = true) {f : Nat} {fn : Func} {m : MFun} {ht : List TypeId} (h1 : P.funcs[f]? = some fn) (h2 : cFunH P ht fn = some m) (h3 : (fn.name == "runtime.NumGoroutine") = false) (k : Nat) :
    GoodFn P gl f fun args s => rawR m.res (evC gl (evF gl F ext k) k m.body (env0 m.ntmps args) s) := by
  unfold cFunH at h2
  split at h2
  · rename_i c rs hb hrs
    cases h2
    refine ⟨⟨fn, h1, by rw [hb]; rfl, h3⟩, fun w0 args s v s' G w vals h hr hS hgl => ?_⟩
    have ih := evF_sound hF (hx w0) hm k
    refine calls_of_wp h1 hb ?_
    unfold rawR at h
    have fin : ∀ {x : Ex} {e1 : Env} {s1 : St} {G' : Gh} {a' : Act} {w' : World}, (∀ i, x ≠ .exit i) → ((rawVs e1 rs).map fun vs => (oneOr vs, s1)) = some (v, s') → G.le G' → RelE G' gl e1 a' → RelS G' w0 s1 w' → a'.defers = [] →
        bodyPost P fn (fun e w' => ∃ G' v', G.le G' ∧ e = .returned v' ∧ RelV G' v v' ∧ RelS G' w0 s' w') (exOf x) a' w' := by
      intro x e1 s1 G' a' w' hxx hres hG hE1 hS1 hd
      obtain ⟨vs, hrv, he⟩ := Option.map_eq_some_iff.1 hres
      cases he
      obtain ⟨us, p2, p3⟩ := rawVs_sound (P := P) (w := w') fn.results.toList hrs hrv hE1
      have hone : ∃ v', (results fn a'.tmps).run P w' = .ok v' w' ∧ RelV G' (oneOr vs) v' := by
        have hmm : (fn.results.mapM (fun r => (match r with
            | .tmp t => pure (a'.tmps.getD t undef)
            | .cell x t => do loadVar t (← asAddr (a'.tmps.getD x undef)) : Sem Value))).run P w' = .ok us.toArray w' := by
          rw [Array.mapM_eq_mapM_toList, Sem.run_map]
          rw [p2]
          rfl
        have hfull : (results fn a'.tmps).run P w' = .ok (if h : us.toArray.size = 1 then us.toArray[0] else .tuple us.toArray) w' := by
          unfold results
          rw [Sem.run_bind]
          refine (congrArg (fun r => Result.andThen r _) hmm).trans ?_
          rfl
        rw [hfull]
        cases p3 with
        | nil => exact ⟨_, rfl, .tup _ _ .nil⟩
        | cons a1 v1 as1 us1 r1 t1 =>
          cases t1 with
          | nil => exact ⟨_, rfl, r1⟩
          | cons a2 v2 as2 us2 r2 t2 =>
            refine ⟨_, rfl, ?_⟩
            rw [dif_neg (by simp)]
            exact .tup _ _ (.cons _ _ _ _ r1 (.cons _ _ _ _ r2 t2))
      obtain ⟨v', e1', e2'⟩ := hone
      cases x with
      | nrm => exact ⟨hd, v', e1', G', v', hG, rfl, e2', hS1⟩
      | ret => exact ⟨hd, v', e1', G', v', hG, rfl, e2', hS1⟩
      | exit i => exact absurd rfl (hxx i)
    split at h
    · cases h
    · rename_i x e1 s1 hne hev
      exact evC_sound ih hm (mark_fits P _ _ _ c _ _) hev (env0_rel hr hgl) hS (fun G' a' w' g1 g2 g3 g4 => fin (fun i hi => hne i hi) h g1 g2 g3 g4)
    · cases h
  · cases h2
end
end Go.Ab
