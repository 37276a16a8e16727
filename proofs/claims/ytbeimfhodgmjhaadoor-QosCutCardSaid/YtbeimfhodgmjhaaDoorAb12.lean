/- The evaluator is sound: code, loops, whole functions. No conditions. -/
import Derived.Test.YtbeimfhodgmjhaaDoorAbD
set_option linter.unusedSimpArgs false
set_option linter.unusedVariables false
namespace Go.Ab
open Go

/-- The evaluator's form fits the code; what the loops keep alive is free. -/
inductive Fits (P : Program) (ht : List TypeId) : MC → Code → Prop
  | noway (c : Code) : Fits P ht noWay c
  | skip : Fits P ht .skip .skip
  | reg (id : Nat) (ops : Array Oper) (is : List MIns) (h : cInss P (eqOks P) ht ops ops.toList = some is) : Fits P ht (.reg is) (.region id ops false)
  | draw (id : Nat) (ops : Array Oper) (is : List MIns) (bf : List Nat) (h : cInss P (eqOks P) ht ops ops.toList = some is) (hb : bfOk ops.toList bf = true) (hs : slotsOk is bf = true) : Fits P ht (.draw is bf) (.region id ops true)
  | seq (m n : MC) (c d : Code) (h : Fits P ht m c) (k : Fits P ht n d) : Fits P ht (.seq m n) (.seq c d)
  | cond (x : Opd) (o : Operand) (m n : MC) (c d : Code) (hx : cOpd o = some x) (h : Fits P ht m c) (k : Fits P ht n d) : Fits P ht (.cond x m n) (.cond o c d)
  | block (id : Nat) (m : MC) (c : Code) (h : Fits P ht m c) : Fits P ht (.block id m) (.block id c)
  | loop (l : List Bool) (m : MC) (c : Code) (h : Fits P ht m c) : Fits P ht (.loop l m) (.loop c)
  | exit (id : Nat) : Fits P ht (.exit id) (.exit id)
  | ret : Fits P ht .ret .ret

theorem mark_noWay (n r out : Nat) (ex : List (Nat × Nat)) : mark n r noWay out ex = noWay := rfl
theorem mark_fits (P : Program) (ht : List TypeId) (n r : Nat) (c : Code) : ∀ out ex, Fits P ht (mark n r (cCode P (eqOks P) ht c) out ex) c := by
  induction c with
  | skip => intro out ex; exact .skip
  | region id ops draw =>
    intro out ex
    simp only [cCode]
    split
    · rename_i is his
      cases draw with
      | true =>
        simp only [if_true]
        split
        · rename_i ho
          rw [Bool.and_eq_true] at ho
          exact .draw id ops is _ his ho.1 ho.2
        · exact .noway _
      | false => exact .reg id ops is his
    · exact .noway _
  | seq a b iha ihb => intro out ex; exact .seq _ _ _ _ (iha _ _) (ihb _ _)
  | cond c a b iha ihb =>
    intro out ex
    simp only [cCode]
    split
    · rename_i x hx; exact .cond _ _ _ _ _ _ hx (iha _ _) (ihb _ _)
    · exact .noway _
  | block id a ih => intro out ex; exact .block _ _ _ (ih _ _)
  | loop a ih => intro out ex; exact .loop _ _ _ (ih _ _)
  | exit id => intro out ex; exact .exit id
  | ret => intro out ex; exact .ret
  | rangeFunc => intro out ex; exact .noway _
  | scope => intro out ex; exact .noway _
  | label => intro out ex; exact .noway _
  | goto => intro out ex; exact .noway _
  | refuse => intro out ex; exact .noway _

def exOf : Ex → Exit
  | .nrm => .normal
  | .exit i => .exit i
  | .ret => .ret

/-- A loop whose rounds are counted down. -/
theorem wp_loop_iter {P : Program} {c : Code} {Q : Exit → Act → World → Prop} {a : Act} {w : World} {k : Nat} (I : Nat → Act → World → Prop) (h0 : I k a w)
    (round : ∀ j a w, I (j + 1) a w → c.wp P (Exit.then (I j) Q) a w) (hz : ∀ a w, ¬ I 0 a w) : (Code.loop c).wp P Q a w := by
  intro b kk cs
  have key : ∀ n a w, I n a w → ∃ e a' w', Q e a' w' ∧ Arrives P (lone (b.at a (.code c :: .inLoop c :: kk)) cs w) b kk cs e a' w' := by
    intro n
    induction n with
    | zero => intro a w hI; exact absurd hI (hz a w)
    | succ n ih =>
      intro a w hI
      obtain ⟨e, a₁, w₁, hq, harr⟩ := round n a w hI b (.inLoop c :: kk) cs
      cases e with
      | normal =>
        obtain ⟨e₂, a₂, w₂, hq₂, harr₂⟩ := ih a₁ w₁ hq
        exact ⟨e₂, a₂, w₂, hq₂, .of_steps (Steps.trans harr (.one step_inLoop)) harr₂⟩
      | exit id => exact ⟨_, a₁, w₁, hq, .pass (x := .inLoop c) rfl (fun _ _ => .inl (by simp)) harr⟩
      | goto l => exact ⟨_, a₁, w₁, hq, .pass (x := .inLoop c) rfl (fun _ _ => .inl (by simp)) harr⟩
      | ret => exact ⟨_, a₁, w₁, hq, .pass (x := .inLoop c) rfl (fun _ _ => .inl (by simp)) harr⟩
      | panic ch => exact ⟨_, a₁, w₁, hq, .pass (x := .inLoop c) rfl (fun _ _ => .inl (by simp)) harr⟩
      | outgrown => exact ⟨_, a₁, w₁, hq, .pass (x := .inLoop c) rfl (fun _ _ => .inl (by simp)) harr⟩
  obtain ⟨e, a', w', hq, harr⟩ := key _ a w h0
  exact ⟨e, a', w', hq, .of_steps (.one step_loop) harr⟩

section
variable {P : Program} {w0 : World} {gl : Nat → AV}

theorem evC_sound {ht : List TypeId} {call : Calls'} (hcall : CallOk P gl w0 call) (hm : P.follows .mixedOrders = true) {k : Nat} {m : MC} {c : Code} (hf : Fits P ht m c) :
    ∀ {G : Gh} {e e' : Env} {s s' : St} {a : Act} {w : World} {x : Ex} {Q : Exit → Act → World → Prop}, evC gl call k m e s = some (x, e', s') → RelE G gl e a → RelS G w0 s w →
    (∀ G' a' w', G.le G' → RelE G' gl e' a' → RelS G' w0 s' w' → a'.defers = a.defers → Q (exOf x) a' w') → c.wp P Q a w := by
  induction hf with
  | noway c =>
    intro G e e' s s' a w x Q h hE hS hQ
    simp [noWay, evC, opd, condR] at h
  | skip =>
    intro G e e' s s' a w x Q h hE hS hQ
    simp only [evC] at h
    cases h
    exact wp_skip (hQ G a w (Gh.le_refl G) hE hS rfl)
  | reg id ops is his =>
    intro G e e' s s' a w x Q h hE hS hQ
    simp only [evC] at h
    unfold regR at h
    split at h
    · rename_i e1 s1 hev
      cases h
      refine wp_region ?_
      rw [List.range_eq_range']
      have := evOps_sound (P := P) (ht := ht) (ops := ops) hcall (Q := Q) is 0 G e s a w (by simpa using his) hev hE hS hQ
      simpa using this
    · cases h
  | draw id ops is bf his hb hs =>
    intro G e e' s s' a w x Q h hE hS hQ
    simp only [evC] at h
    unfold drawR at h
    split at h
    · rename_i e1 s1 l hev
      split at h
      · rename_i hcalm
        cases h
        exact draw_sound hcall hm his hb hs hev hcalm hE hS hQ
      · cases h
    · cases h
  | seq m n c d h k' ih1 ih2 =>
    intro G e e' s s' a w x Q h hE hS hQ
    simp only [evC] at h
    refine wp_seq ?_
    unfold seqR at h
    split at h
    · rename_i e1 s1 hev
      refine ih1 hev hE hS (fun G1 a1 w1 g1 g2 g3 g4 => ?_)
      exact ih2 h g2 g3 (fun G2 a2 w2 k1 k2 k3 k4 => hQ G2 a2 w2 (g1.trans k1) k2 k3 (k4.trans g4))
    · rename_i i e1 s1 hev
      cases h
      exact ih1 hev hE hS (fun G1 a1 w1 g1 g2 g3 g4 => hQ G1 a1 w1 g1 g2 g3 g4)
    · rename_i e1 s1 hev
      cases h
      exact ih1 hev hE hS (fun G1 a1 w1 g1 g2 g3 g4 => hQ G1 a1 w1 g1 g2 g3 g4)
    · cases h
  | cond x o m n c d hx h k' ih1 ih2 =>
    intro G e e' s s' a w x' Q h hE hS hQ
    simp only [evC] at h
    unfold condR at h
    have hr := hE.opd hx
    split at h
    · rename_i hv
      rw [hv] at hr
      have hb : a.eval o = .bool true := by generalize a.eval o = q at hr; cases hr; rfl
      exact wp_cond_true hb (ih1 h hE hS hQ)
    · rename_i hv
      rw [hv] at hr
      have hb : a.eval o = .bool false := by generalize a.eval o = q at hr; cases hr; rfl
      exact wp_cond_false hb (ih2 h hE hS hQ)
    · cases h
  | block id m c h ih =>
    intro G e e' s s' a w x Q h hE hS hQ
    simp only [evC] at h
    refine wp_block ?_
    unfold blockR at h
    split at h
    · rename_i i e1 s1 hev
      refine ih hev hE hS (fun G1 a1 w1 g1 g2 g3 g4 => ?_)
      simp only [exOf, Exit.inBlock]
      split at h
      · rename_i hi
        cases h
        rw [if_pos hi]
        exact hQ G1 a1 w1 g1 g2 g3 g4
      · rename_i hi
        cases h
        rw [if_neg hi]
        exact hQ G1 a1 w1 g1 g2 g3 g4
    · rename_i hne
      refine ih h hE hS (fun G1 a1 w1 g1 g2 g3 g4 => ?_)
      cases x with
      | nrm => exact hQ G1 a1 w1 g1 g2 g3 g4
      | exit i => exact absurd h (hne i e' s')
      | ret => exact hQ G1 a1 w1 g1 g2 g3 g4
  | loop l m c h ih =>
    intro G e e' s s' a w x Q h hE hS hQ
    simp only [evC] at h
    have hx : ∀ {j : Nat} {e1 : Env} {s1 : St}, iter (evC gl call k m) l j e1 s1 = some (x, e', s') → x ≠ .nrm := by
      intro j
      induction j with
      | zero => intro e1 s1 hj; cases hj
      | succ j ihj =>
        intro e1 s1 hj
        simp only [iter] at hj
        unfold seqR at hj
        split at hj
        · exact ihj hj
        · cases hj; simp
        · cases hj; simp
        · cases hj
    refine wp_loop_iter (k := k) (fun j a1 w1 => ∃ G1 e1 s1, G.le G1 ∧ RelE G1 gl e1 a1 ∧ RelS G1 w0 s1 w1 ∧ a1.defers = a.defers ∧ iter (evC gl call k m) l j e1 s1 = some (x, e', s')) ⟨G, e, s, Gh.le_refl G, hE, hS, rfl, h⟩ ?_ ?_
    · rintro j a1 w1 ⟨G1, e1, s1, q1, q2, q3, q4, q5⟩
      simp only [iter] at q5
      unfold seqR at q5
      split at q5
      · rename_i e2 s2 hev
        refine ih hev (q2.mask l) q3 (fun G2 a2 w2 g1 g2 g3 g4 => ?_)
        exact ⟨G2, e2, s2, q1.trans g1, g2, g3, g4.trans q4, q5⟩
      · rename_i i e2 s2 hev
        cases q5
        exact ih hev (q2.mask l) q3 (fun G2 a2 w2 g1 g2 g3 g4 => hQ G2 a2 w2 (q1.trans g1) g2 g3 (g4.trans q4))
      · rename_i e2 s2 hev
        cases q5
        exact ih hev (q2.mask l) q3 (fun G2 a2 w2 g1 g2 g3 g4 => hQ G2 a2 w2 (q1.trans g1) g2 g3 (g4.trans q4))
      · cases q5
    · rintro a1 w1 ⟨G1, e1, s1, _, _, _, _, q5⟩
      cases q5
  | exit id =>
    intro G e e' s s' a w x Q h hE hS hQ
    simp only [evC] at h
    cases h
    exact wp_exit (hQ G a w (Gh.le_refl G) hE hS rfl)
  | ret =>
    intro G e e' s s' a w x Q h hE hS hQ
    simp only [evC] at h
    cases h
    exact wp_ret (hQ G a w (Gh.le_refl G) hE hS rfl)

/-! ### Results -/
theorem resVs_sound {e : Env} {a : Act} {w : World} (rs : List ResultVar) : ∀ {rt : List TypeId} {ms : List MRes} {G : Gh} {s s' : St} {vs : List AV}, cRes P rt rs = some ms → resVs e s ms = some (vs, s') → RelE G gl e a → RelS G w0 s w →
    ∃ G' us, G.le G' ∧ (rs.mapM (fun r => (match r with
      | .tmp t => pure (a.tmps.getD t undef)
      | .cell x t => do loadVar t (← asAddr (a.tmps.getD x undef)) : Sem Value))).run P w = .ok us w ∧ RelT G' vs us ∧ RelS G' w0 s' w := by
  induction rs with
  | nil =>
    intro rt ms G s s' vs hc h hE hS
    simp only [cRes] at hc
    cases hc
    simp only [resVs] at h
    cases h
    exact ⟨G, [], Gh.le_refl G, by simp, .nil, hS⟩
  | cons r rs ih =>
    intro rt ms G s s' vs hc h hE hS
    cases r with
    | tmp t =>
      simp only [cRes] at hc
      split at hc
      · rename_i l hl
        cases hc
        simp only [resVs, resV] at h
        split at h
        · rename_i v s1 hf
          split at h
          · rename_i vs' s2 hr
            cases h
            obtain ⟨G1, q1, q2, q3⟩ := freeze_sound hf (hE.at_ t) hS
            obtain ⟨G2, us, p1, p2, p3, p4⟩ := ih hl hr (hE.mono q1) q3
            exact ⟨G2, a.tmps.getD t undef :: us, q1.trans p1, by simp only [List.mapM_cons, Sem.run_bind, Sem.run_pure, Result.andThen_ok, p2], .cons _ _ _ _ (q2.mono p1) p3, p4⟩
          · cases h
        · cases h
      · cases hc
    | cell x t =>
      simp only [cRes] at hc
      split at hc
      · rename_i n l hn hl
        cases hc
        simp only [resVs, resV] at h
        split at h
        · rename_i v s1 hf
          split at h
          · rename_i vs' s2 hr
            cases h
            split at hf
            · rename_i b o hb
              split at hf
              · rename_i z cs hcs
                split at hf
                · rename_i v0 hcut
                  cases hf
                  have hra := hE.at_ x
                  rw [hb] at hra
                  generalize hq : a.tmps.getD x undef = q at hra
                  cases hra with
                  | ptr _ _ g hrho =>
                    obtain ⟨g', us', cur, E, q1, _, q3, _, _, _, q7⟩ := hS.cells hcs (hS.resF hrho)
                    rw [hrho] at q1
                    cases q1
                    obtain ⟨v', e1, e2⟩ := loadVar_sound (P := P) (w := w) (g := g) (o0 := 0) hn hcut q3 (fun j u hu => by rw [Nat.zero_add]; exact q7 j u hu)
                    rw [Nat.zero_add] at e1
                    obtain ⟨G2, us, p1, p2, p3, p4⟩ := ih hl hr hE hS
                    refine ⟨G2, v' :: us, p1, ?_, .cons _ _ _ _ (e2.mono p1) p3, p4⟩
                    have hc1 : (asAddr (a.tmps.getD x undef)).run P w = .ok ⟨g, o, none⟩ w := by rw [hq]; rfl
                    rw [List.mapM_cons]
                    simp only [Sem.run_bind, hc1, Result.andThen_ok, e1]
                    rw [p2]
                    rfl
                · cases hf
              · cases hf
            · cases hf
          · cases h
        · cases h
      · cases hc

/-! ### Functions -/
/-- The table of functions is the program's own. -/
def TableOk (P : Program) (F : Nat → Option MFun) : Prop :=
  ∀ f m, F f = some m → ∃ fn, P.funcs[f]? = some fn ∧ cFun P fn = some m ∧ (fn.name == "runtime.NumGoroutine") = false
structure ExtOk (P : Program) (gl : Nat → AV) (w0 : World) (ext : Nat → Option (List AV → St → Option (AV × St))) : Prop where
  there : ∀ f x, ext f = some x → ∃ fn, P.funcs[f]? = some fn ∧ fn.body.isSome = true ∧ (fn.name == "runtime.NumGoroutine") = false
  goes : ∀ f x args s v s' G w vals, ext f = some x → x args s = some (v, s') → RelT G args vals → RelS G w0 s w → (∀ g, RelV G (gl g) (.pointer (some ⟨g, 0, none⟩))) →
    Calls P f vals.toArray w fun e w' => ∃ G' v', G.le G' ∧ e = .returned v' ∧ RelV G' v v' ∧ RelS G' w0 s' w'

theorem env0_rel {G : Gh} {n : Nat} {args : List AV} {vals : List Value} (h : RelT G args vals) (hgl : ∀ g, RelV G (gl g) (.pointer (some ⟨g, 0, none⟩))) :
    RelE G gl (env0 n args) { tmps := vals.toArray ++ Array.replicate (n - vals.toArray.size) undef, defers := [] } := by
  have hl := h.length
  refine ⟨fun i => ?_, ?_, hgl⟩
  · simp only [Env.at, env0, List.getD_eq_getElem?_getD, Array.getD_eq_getD_getElem?]
    by_cases hi : i < args.length
    · have h1 : (args ++ List.replicate (n - args.length) AV.undef)[i]? = some args[i] := by rw [List.getElem?_append_left hi]; exact List.getElem?_eq_getElem hi
      obtain ⟨v, h2, h3⟩ := h.get (i := i) (a := args[i]) (List.getElem?_eq_getElem hi)
      have h4 : (vals.toArray ++ Array.replicate (n - vals.toArray.size) undef)[i]? = some v := by
        rw [Array.getElem?_append_left (by simpa [← hl] using hi)]; simpa using h2
      rw [h1, h4]; exact h3
    · have h1 : ((args ++ List.replicate (n - args.length) AV.undef)[i]?).getD .undef = .undef := by
        rw [List.getElem?_append_right (by omega), List.getElem?_replicate]
        split <;> rfl
      rw [h1]; exact .undef _
  · simp [env0, hl]

theorem evF_sound {F : Nat → Option MFun} {ext : Nat → Option (List AV → St → Option (AV × St))} (hF : TableOk P F) (hx : ExtOk P gl w0 ext) (hm : P.follows .mixedOrders = true) : ∀ k, CallOk P gl w0 (evF gl F ext k) := by
  intro k
  induction k with
  | zero => exact ⟨fun f args s v s' h => by simp [evF] at h, fun f args s v s' G w vals h => by simp [evF] at h⟩
  | succ k ih =>
    refine ⟨fun f args s v s' h => ?_, fun f args s v s' G w vals h hr hS hgl => ?_⟩
    · simp only [evF] at h
      split at h
      · rename_i x hxf
        exact hx.there f x hxf
      · split at h
        · cases h
        · rename_i m hm'
          obtain ⟨fn, h1, h2, h3⟩ := hF f m hm'
          refine ⟨fn, h1, ?_, h3⟩
          unfold cFun at h2
          split at h2
          · rename_i hb _; rw [hb]; rfl
          · cases h2
    · simp only [evF] at h
      split at h
      · rename_i x hxf
        exact hx.goes f x args s v s' G w vals hxf h hr hS hgl
      · split at h
        · cases h
        · rename_i m hm'
          obtain ⟨fn, h1, h2, h3⟩ := hF f m hm'
          unfold cFun at h2
          split at h2
          · rename_i c rs hb hrs
            cases h2
            refine calls_of_wp h1 hb ?_
            unfold outR at h
            have fin : ∀ {x : Ex} {e1 : Env} {s1 : St} {G' : Gh} {a' : Act} {w' : World}, (∀ i, x ≠ .exit i) → (match resVs e1 s1 rs with
                | some (vs, s') => some (oneOr vs, s')
                | none => none) = some (v, s') → G.le G' → RelE G' gl e1 a' → RelS G' w0 s1 w' → a'.defers = [] →
                bodyPost P fn (fun e w' => ∃ G' v', G.le G' ∧ e = .returned v' ∧ RelV G' v v' ∧ RelS G' w0 s' w') (exOf x) a' w' := by
              intro x e1 s1 G' a' w' hxx hres hG hE1 hS1 hd
              split at hres
              · rename_i vs s2 hrv
                cases hres
                obtain ⟨G2, us, p1, p2, p3, p4⟩ := resVs_sound fn.results.toList hrs hrv hE1 hS1
                have hone : ∃ v', (results fn a'.tmps).run P w' = .ok v' w' ∧ RelV G2 (oneOr vs) v' := by
                  have hmm : (fn.results.mapM (fun r => (match r with
                      | .tmp t => pure (a'.tmps.getD t undef)
                      | .cell x t => do loadVar t (← asAddr (a'.tmps.getD x undef)) : Sem Value))).run P w' = .ok us.toArray w' := by
                    rw [Array.mapM_eq_mapM_toList, Sem.run_map]
                    rw [p2]
                    rfl
                  have hfull : (results fn a'.tmps).run P w' = .ok (if h : us.toArray.size = 1 then us.toArray[0] else .tuple us.toArray) w' := by
                    unfold results
                    rw [Sem.run_bind]
                    refine (congrArg (fun r => Result.andThen r _) hmm).trans ?_
                    rfl
                  rw [hfull]
                  cases p3 with
                  | nil => exact ⟨_, rfl, .tup _ _ .nil⟩
                  | cons a1 v1 as1 us1 r1 t1 =>
                    cases t1 with
                    | nil => exact ⟨_, rfl, r1⟩
                    | cons a2 v2 as2 us2 r2 t2 =>
                      refine ⟨_, rfl, ?_⟩
                      rw [dif_neg (by simp)]
                      exact .tup _ _ (.cons _ _ _ _ r1 (.cons _ _ _ _ r2 t2))
                obtain ⟨v', e1', e2'⟩ := hone
                cases x with
                | nrm => exact ⟨hd, v', e1', G2, v', hG.trans p1, rfl, e2', p4⟩
                | ret => exact ⟨hd, v', e1', G2, v', hG.trans p1, rfl, e2', p4⟩
                | exit i => exact absurd rfl (hxx i)
              · cases hres
            split at h
            · cases h
            · rename_i x e1 s1 hne hev
              exact evC_sound ih hm (mark_fits P _ _ _ c _ _) hev (env0_rel hr hgl) hS (fun G' a' w' g1 g2 g3 g4 => fin (fun i hi => hne i hi) h g1 g2 g3 g4)
            · cases h
          · cases h2

end
end Go.Ab
