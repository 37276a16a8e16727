/- Reading the evaluator where conditions have letters in them: both ways. No conditions. -/
import Derived.Test.YtochnineebgbgaaDoorAbX
set_option linter.unusedSimpArgs false
set_option linter.unusedVariables false
namespace Go.Ab
open Go
def gdI (i : Nat) (w : Bool) (gl : Nat → AV) (call : Calls') (d : Option Nat) (op : MOp) (is : List MIns) (e : Env) (s : St) (v : AV) : Option (Env × St) := gdR w gl call d op is e s v
def gdLI (i : Nat) (w : Bool) (gl : Nat → AV) (call : Calls') (d : Option Nat) (op : MOp) (is : List MIns) (n : Nat) (e : Env) (s : St) (l : List Rec) (v : AV) : Option (Env × St × List Rec) := gdL w gl call d op is n e s l v
theorem set_at {e : Env} {i : Nat} {b : Bool} (h : e.at i = .bool b) : e.set i (.bool b) = e := by
  have hi : i < e.length := by
    rcases Nat.lt_or_ge i e.length with h' | h'
    · exact h'
    · simp only [Env.at, List.getD_eq_getElem?_getD, List.getElem?_eq_none h', Option.getD_none] at h
      cases h
  have : e[i]? = some (.bool b) := by
    simp only [Env.at, List.getD_eq_getElem?_getD] at h
    rw [List.getElem?_eq_getElem hi] at h ⊢
    simpa using h
  refine List.ext_getElem? fun j => ?_
  by_cases hj : j = i
  · subst hj; rw [List.getElem?_set_self hi]; exact this.symm
  · rw [List.getElem?_set_ne (Ne.symm hj)]
section
variable (gl : Nat → AV) (call : Calls') (d : Option Nat) (op : MOp) (is : List MIns) (e : Env) (s : St) (k : Nat) (a b : MC) (n i : Nat) (w : Bool) (v : AV) (l : List Rec) (s' : St)
theorem evOps_gdI : evOps gl call (⟨d, op, some (i, w)⟩ :: is) e s = gdI i w gl call d op is e s (e.at i) := evOps_gd gl call d op is e s i w
theorem gdI_tt : gdI i true gl call d op is e s (.bool true) = contR gl call d is e (ev1 gl call e s op) := (id rfl)
theorem gdI_ft : gdI i true gl call d op is e s (.bool false) = evOps gl call is (e.put d (.tup [])) s := (id rfl)
theorem gdI_tf : gdI i false gl call d op is e s (.bool true) = evOps gl call is (e.put d (.tup [])) s := (id rfl)
theorem gdI_ff : gdI i false gl call d op is e s (.bool false) = contR gl call d is e (ev1 gl call e s op) := (id rfl)
theorem gdI_un : gdI i w gl call d op is e s (.tup []) = evOps gl call is (e.put d (.tup [])) s := (id rfl)
theorem gdI_b (c : Bool) (h : e.at i = .bool c) : gdI i w gl call d op is e s (.bool c) = if c = true then gdI i w gl call d op is (e.set i (.bool true)) s (.bool true) else gdI i w gl call d op is (e.set i (.bool false)) s (.bool false) := by
  cases c
  · rw [set_at h]; rfl
  · rw [set_at h]; rfl
theorem gdI_d (p : Prop) [Decidable p] (h : e.at i = .bool (decide p)) : gdI i w gl call d op is e s (.bool (decide p)) = if p then gdI i w gl call d op is (e.set i (.bool true)) s (.bool true) else gdI i w gl call d op is (e.set i (.bool false)) s (.bool false) := by
  rw [gdI_b _ _ _ _ _ _ _ _ _ _ h]
  by_cases hp : p <;> simp [hp]
theorem gdI_e (x y : Int) (h : e.at i = .bool (x == y)) : gdI i w gl call d op is e s (.bool (x == y)) = if x = y then gdI i w gl call d op is (e.set i (.bool true)) s (.bool true) else gdI i w gl call d op is (e.set i (.bool false)) s (.bool false) := by
  rw [gdI_b _ _ _ _ _ _ _ _ _ _ h]
  by_cases hp : x = y <;> simp [hp]
theorem gdI_n (x y : Int) (h : e.at i = .bool (x != y)) : gdI i w gl call d op is e s (.bool (x != y)) = if x = y then gdI i w gl call d op is (e.set i (.bool false)) s (.bool false) else gdI i w gl call d op is (e.set i (.bool true)) s (.bool true) := by
  rw [gdI_b _ _ _ _ _ _ _ _ _ _ h]
  by_cases hp : x = y <;> simp [hp]
theorem evLoud_gdI : evLoud gl call (⟨d, op, some (i, w)⟩ :: is) n e s l = gdLI i w gl call d op is n e s l (e.at i) := evLoud_gd gl call d op is e s n i w l
theorem gdLI_tt : gdLI i true gl call d op is n e s l (.bool true) = contL gl call (blockOf gl e op) d is n e s l (ev1 gl call e s op) := (id rfl)
theorem gdLI_ft : gdLI i true gl call d op is n e s l (.bool false) = evLoud gl call is n (e.put d (.tup [])) s (⟨0, 0, s, s⟩ :: l) := (id rfl)
theorem gdLI_tf : gdLI i false gl call d op is n e s l (.bool true) = evLoud gl call is n (e.put d (.tup [])) s (⟨0, 0, s, s⟩ :: l) := (id rfl)
theorem gdLI_ff : gdLI i false gl call d op is n e s l (.bool false) = contL gl call (blockOf gl e op) d is n e s l (ev1 gl call e s op) := (id rfl)
theorem gdLI_un : gdLI i w gl call d op is n e s l (.tup []) = evLoud gl call is n (e.put d (.tup [])) s (⟨0, 0, s, s⟩ :: l) := (id rfl)
theorem gdLI_b (c : Bool) (h : e.at i = .bool c) : gdLI i w gl call d op is n e s l (.bool c) = if c = true then gdLI i w gl call d op is n (e.set i (.bool true)) s l (.bool true) else gdLI i w gl call d op is n (e.set i (.bool false)) s l (.bool false) := by
  cases c
  · rw [set_at h]; rfl
  · rw [set_at h]; rfl
theorem gdLI_d (p : Prop) [Decidable p] (h : e.at i = .bool (decide p)) : gdLI i w gl call d op is n e s l (.bool (decide p)) = if p then gdLI i w gl call d op is n (e.set i (.bool true)) s l (.bool true) else gdLI i w gl call d op is n (e.set i (.bool false)) s l (.bool false) := by
  rw [gdLI_b _ _ _ _ _ _ _ _ _ _ _ _ h]
  by_cases hp : p <;> simp [hp]
theorem gdLI_e (x y : Int) (h : e.at i = .bool (x == y)) : gdLI i w gl call d op is n e s l (.bool (x == y)) = if x = y then gdLI i w gl call d op is n (e.set i (.bool true)) s l (.bool true) else gdLI i w gl call d op is n (e.set i (.bool false)) s l (.bool false) := by
  rw [gdLI_b _ _ _ _ _ _ _ _ _ _ _ _ h]
  by_cases hp : x = y <;> simp [hp]
theorem condX_d (p : Prop) [Decidable p] : condX gl call k a b e s (.bool (decide p)) = if p then evC gl call k a e s else evC gl call k b e s := by
  by_cases hp : p <;> simp [hp, condX]
theorem condX_e (x y : Int) : condX gl call k a b e s (.bool (x == y)) = if x = y then evC gl call k a e s else evC gl call k b e s := by
  by_cases hp : x = y
  · subst hp; simp [condX]
  · have h : (x == y) = false := beq_eq_false_iff_ne.2 hp
    rw [h, if_neg hp]; rfl
theorem condX_n (x y : Int) : condX gl call k a b e s (.bool (x != y)) = if x = y then evC gl call k b e s else evC gl call k a e s := by
  by_cases hp : x = y
  · subst hp; simp [condX]
  · have h : (x != y) = true := by simp [hp]
    rw [h, if_neg hp]; rfl
end
section
variable (p : Prop) [Decidable p]
theorem seqR_if (x y : Out) (f : Env → St → Out) : seqR (if p then x else y) f = if p then seqR x f else seqR y f := by split <;> rfl
theorem regR_if (x y : Option (Env × St)) : regR (if p then x else y) = if p then regR x else regR y := by split <;> rfl
theorem drawR_if (bf : List Nat) (x y : Option (Env × St × List Rec)) : drawR bf (if p then x else y) = if p then drawR bf x else drawR bf y := by split <;> rfl
theorem blockR_if (i : Nat) (x y : Out) : blockR i (if p then x else y) = if p then blockR i x else blockR i y := by split <;> rfl
theorem outR_if (r : List MRes) (x y : Out) : outR r (if p then x else y) = if p then outR r x else outR r y := by split <;> rfl
end
/-- What a function answers, whatever the state behind. -/
def valR (r : Option (AV × St)) : Option AV :=
  match r with
  | some (v, _) => some (dryV v)
  | none => none
theorem valR_some (v : AV) (s : St) : valR (some (v, s)) = some (dryV v) := (id rfl)
theorem valR_if (p : Prop) [Decidable p] (x y : Option (AV × St)) : valR (if p then x else y) = if p then valR x else valR y := by split <;> rfl
theorem valR_of {r : Option (AV × St)} {v : AV} (h : valR r = some v) : ∃ v0 s', r = some (v0, s') ∧ dryV v0 = v := by
  cases r with
  | none => cases h
  | some r => obtain ⟨v0, s'⟩ := r; exact ⟨v0, s', rfl, Option.some.inj h⟩
/-- A function that answers so at the empty heap answers so anywhere. -/
theorem pureOk_of {call : Calls'} {f : Nat} {h : List AV → St → Option AV} (hh : ∀ args s v, h args s = some v → flat v = true ∧ flatL args = true ∧ valR (call f args St.nil) = some v) : PureOk call f h :=
  fun args s v hv => ⟨(hh args s v hv).1, .inl ⟨(hh args s v hv).2.1, valR_of (hh args s v hv).2.2⟩⟩
theorem evF_ext {gl : Nat → AV} {F : Nat → Option MFun} {ext : Nat → Option (List AV → St → Option (AV × St))} {k f : Nat} {args : List AV} {s : St} {v : AV} {H : List AV → St → Option AV}
    (he : ext f = some fun args s => (H (args.map dry1) s).map (·, s)) (hv : H (args.map dry1) s = some v) : evF gl F ext (k + 1) f args s = some (v, s) := by
  simp only [evF, he, hv, Option.map_some]
theorem evF_in {gl : Nat → AV} {F : Nat → Option MFun} {ext : Nat → Option (List AV → St → Option (AV × St))} {k f : Nat} {m : MFun} (hx : ext f = none) (hF : F f = some m) (args : List AV) (s : St) :
    evF gl F ext (k + 1) f args s = outR m.res (evC gl (evF gl F ext k) k m.body (env0 m.ntmps args) s) := by
  simp only [evF, hx, hF]
end Go.Ab
