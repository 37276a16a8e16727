/- What is known of a function may stand in place of its code: what it answers, and that it leaves the memory as it was. No conditions. -/
import Derived.Test.YtgflghhffmjojaaGreatDoorBy
import Derived.Test.YtgflghhffmjojaaGreatDoorAbE
set_option linter.unusedSimpArgs false
set_option linter.unusedVariables false
namespace Go.Ab
open Go
/-- Tickets are forgotten. -/
def dry1 : AV → AV
  | .sl cs n _ => .sl cs n none
  | v => v
def dryV : AV → AV
  | .tup vs => .tup (vs.map dry1)
  | .sl cs n _ => .sl (cs.map dry1) n none
  | v => v
mutual
/-- A value that says nothing of the small heap. -/
def flat : AV → Bool
  | .ptr _ _ => false
  | .hs _ _ _ _ => false
  | .rp cs => flatL cs
  | .sl cs _ tk => tk.isNone && flatL cs
  | .iface _ v => flat v
  | .agg cs => flatL cs
  | .tup cs => flatL cs
  | .clo _ cs => flatL cs
  | _ => true
def flatL : List AV → Bool
  | [] => true
  | v :: vs => flat v && flatL vs
end
mutual
theorem flat_rel {G G' : Gh} (hi : ∀ g o v, G.imm g o = some v → G'.imm g o = some v) {a : AV} {v : Value} (hf : flat a = true) (x : RelV G a v) : RelV G' a v := by
  cases x with
  | undef => exact .undef _
  | bool => exact .bool _
  | int => exact .int _ _
  | str => exact .str _
  | nilp => exact .nilp
  | ptr b o g h => simp [flat] at hf
  | rp cs g o vs h hi' => exact .rp cs g o vs (flatL_rel hi (by simpa [flat] using hf) h) (fun j v q => hi _ _ _ (hi' j v q))
  | nils => exact .nils
  | sl cs n tk g o cap vs h hi' hn hc ht =>
    simp only [flat, Bool.and_eq_true, Option.isNone_iff_eq_none] at hf
    obtain ⟨rfl, hf⟩ := hf
    exact .sl cs n none g o cap vs (flatL_rel hi hf h) (fun j v q => hi _ _ _ (hi' j v q)) hn hc trivial
  | sl0 a => exact .sl0 a
  | hs z b o n g cap L h hl hn hc hm => simp [flat] at hf
  | nili => exact .nili
  | iface t a v h => exact .iface t a v (flat_rel hi (by simpa [flat] using hf) h)
  | agg cs vs h => exact .agg cs vs (flatL_rel hi (by simpa [flat] using hf) h)
  | tup cs vs h => exact .tup cs vs (flatT_rel hi (by simpa [flat] using hf) h)
  | clo f cs vs h => exact .clo f cs vs (flatT_rel hi (by simpa [flat] using hf) h)
theorem flatL_rel {G G' : Gh} (hi : ∀ g o v, G.imm g o = some v → G'.imm g o = some v) {as : List AV} {vs : List Value} (hf : flatL as = true) (x : RelL G as vs) : RelL G' as vs := by
  cases x with
  | nil => exact .nil
  | cons a v as vs h h1 t =>
    simp only [flatL, Bool.and_eq_true] at hf
    exact .cons a v as vs (flat_rel hi hf.1 h) h1 (flatL_rel hi hf.2 t)
theorem flatT_rel {G G' : Gh} (hi : ∀ g o v, G.imm g o = some v → G'.imm g o = some v) {as : List AV} {vs : List Value} (hf : flatL as = true) (x : RelT G as vs) : RelT G' as vs := by
  cases x with
  | nil => exact .nil
  | cons a v as vs h t =>
    simp only [flatL, Bool.and_eq_true] at hf
    exact .cons a v as vs (flat_rel hi hf.1 h) (flatT_rel hi hf.2 t)
end
theorem dry1_rel {G : Gh} {a : AV} {v : Value} (x : RelV G a v) : RelV G (dry1 a) v := by
  cases x with
  | sl cs n tk g o cap vs h hi hn hc ht => exact .sl cs n none g o cap vs h hi hn hc trivial
  | sl0 a => exact .sl0 a
  | undef => exact .undef _
  | bool => exact .bool _
  | int => exact .int _ _
  | str => exact .str _
  | nilp => exact .nilp
  | ptr b o g h => exact .ptr b o g h
  | rp cs g o vs h hi => exact .rp cs g o vs h hi
  | nils => exact .nils
  | hs z b o n g cap L h hl hn hc hm => exact .hs z b o n g cap L h hl hn hc hm
  | nili => exact .nili
  | iface t a v h => exact .iface t a v h
  | agg cs vs h => exact .agg cs vs h
  | tup cs vs h => exact .tup cs vs h
  | clo f cs vs h => exact .clo f cs vs h
theorem dryT_rel {G : Gh} {as : List AV} {vs : List Value} (x : RelT G as vs) : RelT G (as.map dry1) vs := by
  induction as generalizing vs with
  | nil => cases x; exact .nil
  | cons a as ih => cases x with | cons _ v _ vs h t => exact .cons _ _ _ _ (dry1_rel h) (ih t)
theorem dryL_rel {G : Gh} {as : List AV} {vs : List Value} (x : RelL G as vs) : RelL G (as.map dry1) vs := by
  induction as generalizing vs with
  | nil => cases x; exact .nil
  | cons a as ih => cases x with | cons _ v _ vs h h1 t => exact .cons _ _ _ _ (dry1_rel h) h1 (ih t)
theorem dryV_rel {G : Gh} {a : AV} {v : Value} (x : RelV G a v) : RelV G (dryV a) v := by
  cases x with
  | tup cs vs h => exact .tup _ vs (dryT_rel h)
  | sl cs n tk g o cap vs h hi hn hc ht => exact .sl _ n none g o cap vs (dryL_rel h) hi hn hc trivial
  | sl0 a => exact .sl0 a
  | undef => exact .undef _
  | bool => exact .bool _
  | int => exact .int _ _
  | str => exact .str _
  | nilp => exact .nilp
  | ptr b o g h => exact .ptr b o g h
  | rp cs g o vs h hi => exact .rp cs g o vs h hi
  | nils => exact .nils
  | hs z b o n g cap L h hl hn hc hm => exact .hs z b o n g cap L h hl hn hc hm
  | nili => exact .nili
  | iface t a v h => exact .iface t a v h
  | agg cs vs h => exact .agg cs vs h
  | clo f cs vs h => exact .clo f cs vs h
/-- What was known ahead of a call, and what never turns since. -/
def Gh.keep (G G' : Gh) : Gh := { G with imm := G'.imm }
theorem TkOk.back {G G' : Gh} (h : G.le0 G') {g0 o0 cap0 g o n cap : Nat} {tk : Option (Nat × Nat × Nat)} (x0 : TkOk G g0 o0 n cap0 tk) (x : TkOk G' g o n cap tk) : TkOk (G.keep G') g o n cap tk := by
  cases tk with
  | none => trivial
  | some p =>
    obtain ⟨t, v, z⟩ := p
    obtain ⟨k0, T0, h0, _⟩ := x0
    obtain ⟨k, T, h1, h2⟩ := x
    have e : T = T0 := Option.some.inj (h1.symm.trans (h.tk _ _ _ h0))
    subst e
    exact ⟨k, T, h0, h2⟩
mutual
theorem RelV.back {G G' : Gh} (h : G.le0 G') {a : AV} {v0 v : Value} (x0 : RelV G a v0) (x : RelV G' a v) : RelV (G.keep G') a v := by
  cases x with
  | undef => exact .undef _
  | bool => exact .bool _
  | int => exact .int _ _
  | str => exact .str _
  | nilp => exact .nilp
  | ptr b o g hg =>
    cases x0 with
    | ptr _ _ g0 hg0 =>
      have := h.rho _ _ hg0
      rw [hg] at this
      cases this
      exact .ptr b o g hg0
  | rp cs g o vs hl hi =>
    cases x0 with
    | rp _ g0 o0 vs0 hl0 hi0 => exact .rp cs g o vs (RelL.back h hl0 hl) hi
  | nils => exact .nils
  | sl cs n tk g o cap vs hl hi hn hc ht =>
    cases x0 with
    | sl _ _ _ g0 o0 cap0 vs0 hl0 hi0 hn0 hc0 ht0 => exact .sl cs n tk g o cap vs (RelL.back h hl0 hl) hi hn hc (ht0.back h ht)
    | sl0 a => cases hl; exact .sl _ _ _ g o cap [] .nil (fun j v hv => by simp at hv) hn hc trivial
  | sl0 a => exact .sl0 a
  | hs z b o n g cap L hg hl hn hc hm =>
    cases x0 with
    | hs _ _ _ _ g0 cap0 L0 hg0 hl0 hn0 hc0 hm0 =>
      have := h.rho _ _ hg0
      rw [hg] at this
      cases this
      have := h.lim _ _ hl0
      rw [hl] at this
      cases this
      exact .hs z b o n g cap L hg0 hl0 hn hc hm
  | nili => exact .nili
  | iface t a v hv => cases x0 with | iface _ _ v0 hv0 => exact .iface t a v (RelV.back h hv0 hv)
  | agg cs vs hl => cases x0 with | agg _ vs0 hl0 => exact .agg cs vs (RelL.back h hl0 hl)
  | tup cs vs hl => cases x0 with | tup _ vs0 hl0 => exact .tup cs vs (RelT.back h hl0 hl)
  | clo f cs vs hl => cases x0 with | clo _ _ vs0 hl0 => exact .clo f cs vs (RelT.back h hl0 hl)
theorem RelL.back {G G' : Gh} (h : G.le0 G') {as : List AV} {vs0 vs : List Value} (x0 : RelL G as vs0) (x : RelL G' as vs) : RelL (G.keep G') as vs := by
  cases x with
  | nil => exact .nil
  | cons a v as vs hv h1 t => cases x0 with | cons _ v0 _ vs0 hv0 h10 t0 => exact .cons a v as vs (RelV.back h hv0 hv) h1 (RelL.back h t0 t)
theorem RelT.back {G G' : Gh} (h : G.le0 G') {as : List AV} {vs0 vs : List Value} (x0 : RelT G as vs0) (x : RelT G' as vs) : RelT (G.keep G') as vs := by
  cases x with
  | nil => exact .nil
  | cons a v as vs hv t => cases x0 with | cons _ v0 _ vs0 hv0 t0 => exact .cons a v as vs (RelV.back h hv0 hv) (RelT.back h t0 t)
end
theorem Gh.le_keep {G G' : Gh} (h : G.le G') : G.le (G.keep G') := ⟨⟨rfl, h.imm, fun _ _ h => h, fun _ _ h => h, fun _ _ _ h => h, h.old⟩, rfl⟩
/-- A call that leaves all blocks as they were leaves the state as it was. -/
theorem RelS.trim {G G' : Gh} {w0 w w' : World} {s s' : St} (h : RelS G w0 s w) (h' : RelS G' w0 s' w') (hG : G.le G') (he : Ext s s') : RelS (G.keep G') w0 s w' := by
  obtain ⟨pl, h⟩ := h
  obtain ⟨pl', h'⟩ := h'
  have hget : ∀ b o, s.get b = some o → s'.get b = some o := fun b o hb => (he.get b (h.get_lt hb)).trans hb
  have hlive : ∀ b o, (G.keep G').Live b o → G'.Live b o := fun b o hl => ⟨hl.1, by rw [hG.res]; exact hl.2⟩
  refine ⟨pl', ?_, ?_, h'.imm, h.fresh, fun b o hb hd => ?_, fun b c o q hb hc ho hq hp => h'.apart b c o q (hget _ _ hb) (hget _ _ hc) (hlive _ _ ho) (hlive _ _ hq) hp, fun b v T hT sz u hb => h'.tkV b v T (hG.tk _ _ _ hT) sz u (hget _ _ hb), h.resV⟩
  · have := h'.below
    rw [hG.base] at this
    exact this
  · have := h'.base
    rw [hG.base] at this
    exact this
  · obtain ⟨h1, h2⟩ := h'.at_ b o (hget _ _ hb) (hlive _ _ hd)
    obtain ⟨g1, g2⟩ := h.at_ b o hb hd
    refine ⟨by rw [hG.base] at h1; exact h1, ?_⟩
    cases o with
    | cells sz cs =>
      obtain ⟨r, cur, E, vs, fr, q1, q2, q3, q4, q5, q6⟩ := h2
      obtain ⟨r0, cur0, E0, vs0, fr0, p1, p2, p3, p4, p5, p6⟩ := g2
      have e1 := hG.rho _ _ r0
      rw [r] at e1
      have e2 := hG.lim _ _ p2
      rw [q2] at e2
      refine ⟨r0.trans e1.symm, cur, E, vs, fr, q1, p2.trans e2.symm, RelL.back hG.tole0 p3 q3, q4, q5, q6⟩
    | tick sz v =>
      obtain ⟨T, cur, E, q1, q2⟩ := h2
      obtain ⟨T0, cur0, E0, p1, p2⟩ := g2
      have e1 := hG.tk _ _ _ p1
      rw [q1] at e1
      cases e1
      exact ⟨T, cur, E, p1, q2⟩
    | iter l p =>
      obtain ⟨r, q⟩ := h2
      obtain ⟨r0, p⟩ := g2
      have e1 := hG.rho _ _ r0
      rw [r] at e1
      exact ⟨r0.trans e1.symm, q⟩
    | dead => trivial
    | froz sz cs =>
      obtain ⟨r, cur, E, vs, fr, q1, q2, q3⟩ := h2
      obtain ⟨r0, cur0, E0, vs0, fr0, p1, p2, p3⟩ := g2
      have e1 := hG.rho _ _ r0
      rw [r] at e1
      exact ⟨r0.trans e1.symm, cur, E, vs, fr, q1, RelL.back hG.tole0 p2 q2, q3⟩
/-- What a call knows that is told nothing of the small heap. -/
def Gh.bare (G : Gh) (w : World) : Gh := ⟨w.heap.size, G.imm, fun _ => none, fun _ => none, fun _ _ => none, fun _ => false⟩
theorem RelS.bare {G : Gh} {w0 w : World} {s : St} (h : RelS G w0 s w) : RelS (G.bare w) w St.nil w := by
  obtain ⟨pl, h⟩ := h
  refine ⟨fun _ => 0, Go.RowKit.Below.refl _ _, Nat.le_refl _, h.imm, fun b hb => ⟨rfl, rfl, rfl, fun _ => rfl⟩, fun b o h => ?_, fun b c o q h => ?_, fun b v T h => ?_, fun b h => ?_⟩
  · cases h
  · cases h
  · cases h
  · cases h
/-- Such a call leaves all that was there as it was. -/
theorem RelS.behind {G G1 : Gh} {w0 w w' : World} {s s1 : St} (h : RelS G w0 s w) (h1 : RelS G1 w s1 w') (hG : (G.bare w).le G1) : G.le (G.keep G1) ∧ RelS (G.keep G1) w0 s w' := by
  have hb := h1.belowOf
  rw [hG.base] at hb
  obtain ⟨pl, h⟩ := h
  obtain ⟨pl1, h1⟩ := h1
  have hle : G.le (G.keep G1) := ⟨⟨rfl, hG.imm, fun _ _ h => h, fun _ _ h => h, fun _ _ _ h => h, fun g o hg => hG.old g o (Nat.lt_of_lt_of_le hg h.base)⟩, rfl⟩
  have hsz : w.heap.size ≤ w'.heap.size := by
    have := h1.base
    rw [hG.base] at this
    exact this
  refine ⟨hle, pl, h.below.trans ?_, Nat.le_trans h.base hsz, h1.imm, h.fresh, fun b o hb' hd => ?_, h.apart, h.tkV, h.resV⟩
  · obtain ⟨a, b, c, d, e⟩ := hb
    exact ⟨a, b, c, d, fun k hk => e k (Nat.lt_of_lt_of_le hk h.base)⟩
  · obtain ⟨g1, g2⟩ := h.at_ b o hb' hd
    have hlt := g2.lt hd.1
    refine ⟨g1, g2.keep hle ?_ (fun o => hG.old _ _ hlt)⟩
    obtain ⟨_, _, _, _, e⟩ := hb
    exact e _ hlt
/-- A function that answers by its arguments alone and leaves the memory as it was. -/
def PureOk (call : Calls') (f : Nat) (h : List AV → St → Option AV) : Prop :=
  ∀ args s v, h args s = some v → flat v = true ∧ ((flatL args = true ∧ ∃ v0 s', call f args St.nil = some (v0, s') ∧ dryV v0 = v) ∨ ∃ v0 s', call f args s = some (v0, s') ∧ Ext s s' ∧ dryV v0 = v)
def extWith (ext : Nat → Option (List AV → St → Option (AV × St))) (L : Nat → Option (List AV → St → Option AV)) (f : Nat) : Option (List AV → St → Option (AV × St)) :=
  match L f with
  | some h => some fun args s => (h (args.map dry1) s).map (·, s)
  | none => ext f
theorem extOk_add {P : Program} {gl : Nat → AV} {F : Nat → Option MFun} {ext : Nat → Option (List AV → St → Option (AV × St))} (hF : TableOk P F) (hm : P.follows .mixedOrders = true) (hfl : ∀ g, flat (gl g) = true) (hx : ∀ w0, ExtOk P gl w0 ext)
    (L : Nat → Option (List AV → St → Option AV)) (hL : ∀ f h, L f = some h → (F f).isSome = true ∧ ∃ k, PureOk (evF gl F ext k) f h) (w0 : World) : ExtOk P gl w0 (extWith ext L) := by
  refine ⟨fun f x hf => ?_, fun f x args s v s' G w vals hf hv hr hS hgl => ?_⟩
  · unfold extWith at hf
    split at hf
    · rename_i h hh
      obtain ⟨m, hm'⟩ := Option.isSome_iff_exists.1 (hL f h hh).1
      obtain ⟨fn, h1, h2, h3⟩ := hF f m hm'
      refine ⟨fn, h1, ?_, h3⟩
      unfold cFun at h2
      split at h2
      · rename_i hb _; rw [hb]; rfl
      · cases h2
    · exact (hx w0).there f x hf
  · unfold extWith at hf
    split at hf
    · rename_i h hh
      cases hf
      obtain ⟨v1, h1, h2⟩ := Option.map_eq_some_iff.1 hv
      cases h2
      obtain ⟨_, k, hp⟩ := hL f h hh
      obtain ⟨p1, p2⟩ := hp (args.map dry1) s v h1
      have hr := dryT_rel hr
      rcases p2 with ⟨pa, v0, s1, q1, q3⟩ | ⟨v0, s1, q1, q2, q3⟩
      · refine ((evF_sound hF (hx w) hm k).goes f (args.map dry1) St.nil v0 s1 (G.bare w) w vals q1 (flatT_rel (G := G) (G' := G.bare w) (fun _ _ _ h => h) pa hr) hS.bare (fun g => flat_rel (G := G) (G' := G.bare w) (fun _ _ _ h => h) (hfl g) (hgl g))).mono fun e w' => ?_
        rintro ⟨G', v', g1, g2, g3, g4⟩
        obtain ⟨l1, l2⟩ := hS.behind g4 g1
        refine ⟨G.keep G', v', l1, g2, ?_, l2⟩
        have := dryV_rel g3
        rw [q3] at this
        exact flat_rel (G := G') (G' := G.keep G') (fun _ _ _ h => h) p1 this
      · refine ((evF_sound hF (hx w0) hm k).goes f (args.map dry1) s v0 s1 G w vals q1 hr hS hgl).mono fun e w' => ?_
        rintro ⟨G', v', g1, g2, g3, g4⟩
        refine ⟨G.keep G', v', Gh.le_keep g1, g2, ?_, hS.trim g4 g1 q2⟩
        have := dryV_rel g3
        rw [q3] at this
        exact flat_rel (G := G') (G' := G.keep G') (fun _ _ _ h => h) p1 this
    · exact (hx w0).goes f x args s v s' G w vals hf hv hr hS hgl
/-! ### New blocks on top of a state -/
end Go.Ab
