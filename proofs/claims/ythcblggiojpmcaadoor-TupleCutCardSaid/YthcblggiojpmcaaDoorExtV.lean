/- Functions whose fuel hangs on their arguments. No conditions. -/
import Derived.Test.YthcblggiojpmcaaDoorAbX
import Derived.Test.YthcblggiojpmcaaDoorAbS
set_option linter.unusedSimpArgs false
set_option linter.unusedVariables false
namespace Go.Ab
open Go
def PureV (call : Nat → Calls') (f : Nat) (h : List AV → St → Option AV) : Prop :=
  ∀ args s v, h args s = some v → ∃ k, flat v = true ∧ ((flatL args = true ∧ ∃ v0 s', call k f args St.nil = some (v0, s') ∧ dryV v0 = v) ∨ ∃ v0 s', call k f args s = some (v0, s') ∧ Ext s s' ∧ dryV v0 = v)
theorem PureV.of {call : Nat → Calls'} {f : Nat} {h : List AV → St → Option AV} (k : Nat) (p : PureOk (call k) f h) : PureV call f h := fun args s v hv => ⟨k, p args s v hv⟩
theorem pureV_of {call : Nat → Calls'} {f : Nat} {h : List AV → St → Option AV} (hh : ∀ args s v, h args s = some v → flat v = true ∧ flatL args = true ∧ ∃ k, valR (call k f args St.nil) = some v) : PureV call f h :=
  fun args s v hv => by
    obtain ⟨p1, p2, k, p3⟩ := hh args s v hv
    exact ⟨k, p1, .inl ⟨p2, valR_of p3⟩⟩
theorem extOk_addV {P : Program} {gl : Nat → AV} {F : Nat → Option MFun} {ext : Nat → Option (List AV → St → Option (AV × St))} (hF : TableOk P F) (hm : P.follows .mixedOrders = true) (hfl : ∀ g, flat (gl g) = true) (hx : ∀ w0, ExtOk P gl w0 ext)
    (L : Nat → Option (List AV → St → Option AV)) (hL : ∀ f h, L f = some h → (F f).isSome = true ∧ PureV (evF gl F ext) f h) (w0 : World) : ExtOk P gl w0 (extWith ext L) := by
  refine ⟨fun f x hf => ?_, fun f x args s v s' G w vals hf hv hr hS hgl => ?_⟩
  · unfold extWith at hf
    split at hf
    · rename_i h hh
      obtain ⟨m, hm'⟩ := Option.isSome_iff_exists.1 (hL f h hh).1
      obtain ⟨fn, h1, h2, h3⟩ := hF f m hm'
      refine ⟨fn, h1, ?_, h3⟩
      unfold cFun at h2
      split at h2
      · rename_i hb _; rw [hb]; rfl
      · cases h2
    · exact (hx w0).there f x hf
  · unfold extWith at hf
    split at hf
    · rename_i h hh
      cases hf
      obtain ⟨v1, h1, h2⟩ := Option.map_eq_some_iff.1 hv
      cases h2
      obtain ⟨k, p1, p2⟩ := (hL f h hh).2 (args.map dry1) s v h1
      have hr := dryT_rel hr
      rcases p2 with ⟨pa, v0, s1, q1, q3⟩ | ⟨v0, s1, q1, q2, q3⟩
      · refine ((evF_sound hF (hx w) hm k).goes f (args.map dry1) St.nil v0 s1 (G.bare w) w vals q1 (flatT_rel (G := G) (G' := G.bare w) (fun _ _ _ h => h) pa hr) hS.bare (fun g => flat_rel (G := G) (G' := G.bare w) (fun _ _ _ h => h) (hfl g) (hgl g))).mono fun e w' => ?_
        rintro ⟨G', v', g1, g2, g3, g4⟩
        obtain ⟨l1, l2⟩ := hS.behind g4 g1
        refine ⟨G.keep G', v', l1, g2, ?_, l2⟩
        have := dryV_rel g3
        rw [q3] at this
        exact flat_rel (G := G') (G' := G.keep G') (fun _ _ _ h => h) p1 this
      · refine ((evF_sound hF (hx w0) hm k).goes f (args.map dry1) s v0 s1 G w vals q1 hr hS hgl).mono fun e w' => ?_
        rintro ⟨G', v', g1, g2, g3, g4⟩
        refine ⟨G.keep G', v', Gh.le_keep g1, g2, ?_, hS.trim g4 g1 q2⟩
        have := dryV_rel g3
        rw [q3] at this
        exact flat_rel (G := G') (G' := G.keep G') (fun _ _ _ h => h) p1 this
    · exact (hx w0).goes f x args s v s' G w vals hf hv hr hS hgl
/-- The functions added were shown over another list. -/
theorem extOk_addW {P : Program} {gl : Nat → AV} {F : Nat → Option MFun} {ext ext0 : Nat → Option (List AV → St → Option (AV × St))} (hF : TableOk P F) (hm : P.follows .mixedOrders = true) (hfl : ∀ g, flat (gl g) = true) (hx : ∀ w0, ExtOk P gl w0 ext) (hx0 : ∀ w0, ExtOk P gl w0 ext0)
    (L : Nat → Option (List AV → St → Option AV)) (hL : ∀ f h, L f = some h → (F f).isSome = true ∧ PureV (evF gl F ext0) f h) (w0 : World) : ExtOk P gl w0 (extWith ext L) := by
  refine ⟨fun f x hf => ?_, fun f x args s v s' G w vals hf hv hr hS hgl => ?_⟩
  · unfold extWith at hf
    split at hf
    · rename_i h hh
      obtain ⟨m, hm'⟩ := Option.isSome_iff_exists.1 (hL f h hh).1
      obtain ⟨fn, h1, h2, h3⟩ := hF f m hm'
      refine ⟨fn, h1, ?_, h3⟩
      unfold cFun at h2
      split at h2
      · rename_i hb _; rw [hb]; rfl
      · cases h2
    · exact (hx w0).there f x hf
  · unfold extWith at hf
    split at hf
    · rename_i h hh
      cases hf
      obtain ⟨v1, h1, h2⟩ := Option.map_eq_some_iff.1 hv
      cases h2
      obtain ⟨k, p1, p2⟩ := (hL f h hh).2 (args.map dry1) s v h1
      have hr := dryT_rel hr
      rcases p2 with ⟨pa, v0, s1, q1, q3⟩ | ⟨v0, s1, q1, q2, q3⟩
      · refine ((evF_sound hF (hx0 w) hm k).goes f (args.map dry1) St.nil v0 s1 (G.bare w) w vals q1 (flatT_rel (G := G) (G' := G.bare w) (fun _ _ _ h => h) pa hr) hS.bare (fun g => flat_rel (G := G) (G' := G.bare w) (fun _ _ _ h => h) (hfl g) (hgl g))).mono fun e w' => ?_
        rintro ⟨G', v', g1, g2, g3, g4⟩
        obtain ⟨l1, l2⟩ := hS.behind g4 g1
        refine ⟨G.keep G', v', l1, g2, ?_, l2⟩
        have := dryV_rel g3
        rw [q3] at this
        exact flat_rel (G := G') (G' := G.keep G') (fun _ _ _ h => h) p1 this
      · refine ((evF_sound hF (hx0 w0) hm k).goes f (args.map dry1) s v0 s1 G w vals q1 hr hS hgl).mono fun e w' => ?_
        rintro ⟨G', v', g1, g2, g3, g4⟩
        refine ⟨G.keep G', v', Gh.le_keep g1, g2, ?_, hS.trim g4 g1 q2⟩
        have := dryV_rel g3
        rw [q3] at this
        exact flat_rel (G := G') (G' := G.keep G') (fun _ _ _ h => h) p1 this
    · exact (hx w0).goes f x args s v s' G w vals hf hv hr hS hgl
end Go.Ab
