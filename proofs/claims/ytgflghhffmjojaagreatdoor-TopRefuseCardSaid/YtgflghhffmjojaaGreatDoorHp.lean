/- The quick evaluator is right: every operation. No conditions. -/
import Derived.Test.YtgflghhffmjojaaGreatDoorHk
set_option linter.unusedSimpArgs false
set_option linter.unusedVariables false
set_option maxRecDepth 100000
namespace Go.Ab
open Go
section
variable {G : Nt → Prop} {gl : Nat → AV} {call : FCall} {call' : Calls'} {E : FE} {e : Env} {n : Nat} {S : FS} {s : St}
theorem W_sim {r : FR} {m : MOp} (h1 : evP gl e m = none) (h2 : ∀ s, evR gl e s m = none) (hc : ∀ f a, m ≠ .call f a) (hv : ∀ x a, m ≠ .callv x a) (hl : loudOf m = 2)
    (h : ∀ v S' k, r = .ok v S' k → k = 2 ∧ Evo S S' ∧ ∀ s, RS S s → ∃ s', evW gl e s m = some (v, s') ∧ RS S' s') : Sim G S s r (ev1 gl call' e s m) := by
  intro v S' k hr
  obtain ⟨rfl, q2, q3⟩ := h v S' k hr
  refine ⟨q2, fun _ hS => ?_⟩
  obtain ⟨s', r1, r2⟩ := q3 s hS
  exact ⟨s', W_of h1 (h2 s) hc hv r1 hl, r2⟩
theorem evR_conv {c : Cv} (hc : c ≠ .b2s) (x : Opd) (s : St) : evR gl e s (.conv c x) = none := by
  simp only [evR]
  split
  · split
    · rw [if_neg (fun h => hc h.2.1)]
    · rfl
  · rfl
theorem conv_sim (c : Cv) (x : Opd) : Sim G S s (k_conv c x (opd gl e) call S) (ev1 gl call' e s (.conv c x)) := by
  have P : ∀ {c : Cv} {r : FR}, (∀ v S' k, r = .ok v S' k → convP c (opd gl e x) = some v ∧ S' = S ∧ k = 0) → Sim G S s r (ev1 gl call' e s (.conv c x)) := fun h => P_sim h
  cases c with
  | toInt kk =>
    refine P fun v S' k h => ?_
    have h : c_int kk (opd gl e x) S = .ok v S' k := h
    generalize opd gl e x = a at h ⊢
    cases a with
    | int k' m => cases h; exact ⟨by rw [wrapQ_eq]; rfl, rfl, rfl⟩
    | _ => cases h
  | same => exact P fun v S' k h => pf_ok h
  | itos => exact P fun v S' k h => pf_ok h
  | r2s => exact P fun v S' k h => pf_ok h
  | s2r => exact P fun v S' k h => pf_ok h
  | b2s =>
    intro v S' k h
    have h : c_b2s (opd gl e x) S = .ok v S' k := h
    unfold c_b2s at h
    split at h
    · rename_i z b q m hx
      obtain ⟨z', cs, t, h1, h2⟩ := cellsK_ok h
      obtain ⟨h3, h4⟩ := bK_t h2
      obtain ⟨h5, rfl, rfl⟩ := pfl_ok h4
      rw [Bool.and_eq_true] at h3
      refine ⟨Evo.refl _, fun _ hS => ⟨s, ?_, hS⟩⟩
      have q1 : evP gl e (.conv .b2s x) = none := by simp only [evP, hx, convP]
      have q2 : evR gl e s (.conv .b2s x) = some v := by
        simp only [evR, hx, hS.at_ b _ h1]
        rw [if_pos ⟨beq_n h3.1, trivial, ble_le h3.2⟩]
        exact h5
      simp only [ev1, q1, q2]
    · exact P (r := pf (convP .b2s (opd gl e x)) S) (fun v S' k h => pf_ok h) v S' k h
  | s2b =>
    refine W_sim (by simp only [evP]; generalize opd gl e x = a; cases a <;> rfl) ?_ (fun _ _ h => by cases h) (fun _ _ h => by cases h) rfl ?_
    · exact fun s => evR_conv (by decide) x s
    · intro v S' k h
      have h : c_s2b (opd gl e x) S = .ok v S' k := h
      unfold c_s2b at h
      split at h
      · rename_i b hx
        obtain ⟨h1, h2⟩ := bK_t h
        cases h2
        exact ⟨rfl, Evo.refl _, fun s hS => ⟨s, by simp only [evW, hx]; rw [if_pos (ble_le h1)], hS⟩⟩
      · cases h
  | s2h =>
    refine W_sim (by simp only [evP]; generalize opd gl e x = a; cases a <;> rfl) ?_ (fun _ _ h => by cases h) (fun _ _ h => by cases h) rfl ?_
    · exact fun s => evR_conv (by decide) x s
    · intro v S' k h
      have h : c_s2h (opd gl e x) S = .ok v S' k := h
      unfold c_s2h at h
      split at h
      · rename_i b hx
        obtain ⟨h1, h2⟩ := bK_t h
        have h3 := new_ok h2
        cases h3
        exact ⟨rfl, Evo.mk' _ _, fun s hS => ⟨_, by simp only [evW, hx]; rw [if_pos (ble_le h1), hS.nx], hS.new _⟩⟩
      · cases h
  | mark =>
    refine W_sim (by simp only [evP]; generalize opd gl e x = a; cases a <;> rfl) ?_ (fun _ _ h => by cases h) (fun _ _ h => by cases h) rfl ?_
    · exact fun s => evR_conv (by decide) x s
    · intro v S' k h
      have h : c_mark (opd gl e x) S = .ok v S' k := h
      unfold c_mark at h
      split at h
      · rename_i cs m t u z hx
        obtain ⟨z', u', t', h1, h2⟩ := tickK_ok h
        obtain ⟨h3, h4⟩ := bK_t h2
        cases h4
        exact ⟨rfl, Evo.upd _ _ _, fun s hS => ⟨_, by simp only [evW, hx, hS.at_ t _ h1]; rw [if_pos (beq_n h3)], hS.upd h1 _⟩⟩
      · cases h
/-- Each operation. -/
theorem op_sim (hE : RE n E e) (hc : CallSim G call call') (m : MOp) : Sim G S s ((oB gl m).r call E S) (ev1 gl call' e s m) := by
  have ho := hE.fo gl
  cases m with
  | mv x =>
    refine P_sim fun v S' k h => ?_
    have h : FR.ok (fo gl E x) S 0 = .ok v S' k := h
    rw [ho] at h; cases h; (refine ⟨?_, ?_, ?_⟩ <;> first | rfl | trivial)
  | pick c a b =>
    refine P_sim fun v S' k h => ?_
    have h : v_pick (fo gl E c) (fo gl E a) (fo gl E b) S = .ok v S' k := h
    rw [ho] at h
    simp only [evP]
    generalize opd gl e c = cv at h ⊢
    cases cv with
    | bool c => cases c <;> (cases h; (refine ⟨?_, ?_, ?_⟩ <;> first | rfl | trivial))
    | _ => cases h
  | bin op x y =>
    refine P_sim fun v S' k h => ?_
    have h : v_bin op (bB op).f (fo gl E x) (fo gl E y) S = .ok v S' k := h
    rw [ho] at h
    exact bin_ok h
  | eqv neg q x y =>
    refine P_sim fun v S' k h => ?_
    cases q with
    | flat f => have h : eqvB neg (.flat f) (fo gl E x) (fo gl E y) S = .ok v S' k := h; rw [ho] at h; exact eqvB_ok h
    | ptr => have h : isP neg (fo gl E x) (fo gl E y) S = .ok v S' k := h; rw [ho] at h; exact isP_ok h
    | slc => have h : isS neg (fo gl E x) (fo gl E y) S = .ok v S' k := h; rw [ho] at h; exact isS_ok h
    | ifc l => have h : eqvB neg (.ifc l) (fo gl E x) (fo gl E y) S = .ok v S' k := h; rw [ho] at h; exact eqvB_ok h
  | un op x =>
    refine P_sim fun v S' k h => ?_
    cases op with
    | not =>
      have h : v_not (fo gl E x) S = .ok v S' k := h
      rw [ho] at h
      simp only [evP]
      generalize opd gl e x = a at h ⊢
      cases a with
      | bool b => cases b <;> (cases h; (refine ⟨?_, ?_, ?_⟩ <;> first | rfl | trivial))
      | int kk i => exact pf_ok (q := unV .not (.int kk i)) h
      | _ => cases h
    | neg => have h : pf (unV .neg (fo gl E x)) S = .ok v S' k := h; rw [ho] at h; exact pf_ok h
    | xor => have h : pf (unV .xor (fo gl E x)) S = .ok v S' k := h; rw [ho] at h; exact pf_ok h
    | plus => have h : pf (unV .plus (fo gl E x)) S = .ok v S' k := h; rw [ho] at h; exact pf_ok h
  | conv c x =>
    have q : (oB gl (.conv c x)).r call E S = k_conv c x (fo gl E) call S := rfl
    rw [q, ho]
    exact conv_sim c x
  | mki t x =>
    refine P_sim fun v S' k h => ?_
    have h : FR.ok (.iface t (fo gl E x)) S 0 = .ok v S' k := h
    rw [ho] at h; cases h; (refine ⟨?_, ?_, ?_⟩ <;> first | rfl | trivial)
  | slc size x lo hi =>
    refine P_sim fun v S' k h => ?_
    have h : pf (slcV size (fo gl E x) (lo.map (fo gl E)) (hi.map (fo gl E))) S = .ok v S' k := h
    rw [ho] at h; exact pf_ok h
  | sls x lo hi =>
    refine P_sim fun v S' k h => ?_
    have h : pf (slcS (fo gl E x) (lo.map (fo gl E)) (hi.map (fo gl E))) S = .ok v S' k := h
    rw [ho] at h; exact pf_ok h
  | lens x =>
    refine P_sim fun v S' k h => ?_
    have h : k_lens x (fo gl E) call S = .ok v S' k := h
    rw [ho] at h
    unfold k_lens at h
    simp only [evP]
    generalize opd gl e x = a at h ⊢
    cases a <;> first | (cases h; done) | (cases h; (refine ⟨?_, ?_, ?_⟩ <;> first | rfl | trivial))
  | ixs x i =>
    refine P_sim fun v S' k h => ?_
    have h : k_ixs x i (fo gl E) call S = .ok v S' k := h
    rw [ho] at h
    unfold k_ixs at h
    simp only [evP]
    generalize opd gl e x = a at h ⊢
    cases a with
    | str b =>
      obtain ⟨j, h1, h2⟩ := idxK_ok h
      obtain ⟨c, h3, h4⟩ := optK_ok h2
      cases h4
      simp only [h1, h3]
      (refine ⟨?_, ?_, ?_⟩ <;> first | rfl | trivial)
    | _ => cases h
  | fa off x =>
    refine P_sim fun v S' k h => ?_
    have h : v_fa off (fo gl E x) S = .ok v S' k := h
    rw [ho] at h
    simp only [evP]
    generalize opd gl e x = a at h ⊢
    cases a with
    | ptr b q => cases h; (refine ⟨?_, ?_, ?_⟩ <;> first | rfl | trivial)
    | rp cs =>
      obtain ⟨h1, h2⟩ := bK_t h
      cases h2
      exact ⟨if_pos (ble_le h1), rfl, rfl⟩
    | _ => cases h
  | fld off m x =>
    refine P_sim fun v S' k h => ?_
    have h : k_fld off m x (fo gl E) call S = .ok v S' k := h
    rw [ho] at h
    unfold k_fld at h
    simp only [evP]
    generalize opd gl e x = a at h ⊢
    cases a with
    | agg cs => have h : pf (cutQ cs off m) S = .ok v S' k := h; rw [cutQ_eq] at h; exact pf_ok h
    | _ => cases h
  | ixa size x i =>
    refine P_sim fun v S' k h => ?_
    have h : v_ixa size (fo gl E x) (fo gl E i) S = .ok v S' k := h
    rw [ho] at h
    simp only [evP]
    generalize opd gl e x = a at h ⊢
    cases a with
    | sl cs m tk =>
      obtain ⟨j, h1, h2⟩ := idxK_ok h
      cases h2
      simp only [h1]
      (refine ⟨?_, ?_, ?_⟩ <;> first | rfl | trivial)
    | hs z b q m =>
      obtain ⟨j, h1, h2⟩ := idxK_ok h
      cases h2
      simp only [h1]
      (refine ⟨?_, ?_, ?_⟩ <;> first | rfl | trivial)
    | _ => cases h
  | ixp len size x i =>
    refine P_sim fun v S' k h => ?_
    have h : k_ixp len size x i (fo gl E) call S = .ok v S' k := h
    rw [ho] at h
    unfold k_ixp at h
    simp only [evP]
    generalize opd gl e x = a at h ⊢
    cases a with
    | ptr b q =>
      obtain ⟨j, h1, h2⟩ := idxK_ok h
      cases h2
      simp only [h1]
      (refine ⟨?_, ?_, ?_⟩ <;> first | rfl | trivial)
    | rp cs =>
      obtain ⟨j, h1, h2⟩ := idxK_ok h
      obtain ⟨h3, h4⟩ := bK_t h2
      cases h4
      simp only [h1]
      (refine ⟨?_, ?_, ?_⟩ <;> first | exact if_pos (ble_le h3) | rfl | trivial)
    | _ => cases h
  | ix len size agg x i =>
    refine P_sim fun v S' k h => ?_
    have h : k_ix len size agg x i (fo gl E) call S = .ok v S' k := h
    rw [ho] at h
    unfold k_ix at h
    simp only [evP]
    generalize opd gl e x = a at h ⊢
    cases a with
    | agg cs =>
      obtain ⟨j, h1, h2⟩ := idxK_ok h
      simp only [h1]
      exact pf_ok h2
    | _ => cases h
  | load m x =>
    have ld : ∀ (a : AV), opd gl e x = a → ∀ r : FR, (∀ v S' k, r = .ok v S' k → (∃ cs, a = .rp cs ∧ Ab.cut cs 0 m = some v ∧ S' = S ∧ k = 0) ∨ (∃ b q z cs t, a = .ptr b q ∧ S.at b = some ⟨.cells z cs, t⟩ ∧ Ab.cut cs q m = some v ∧ S' = S ∧ k = 1)) → Sim G S s r (ev1 gl call' e s (.load m x)) := by
      intro a hx r h v S' k hr
      rcases h v S' k hr with ⟨cs, rfl, h1, rfl, rfl⟩ | ⟨b, q, z, cs, t, rfl, h0, h1, rfl, rfl⟩
      · refine ⟨Evo.refl _, fun _ hS => ⟨s, ?_, hS⟩⟩
        have q1 : evP gl e (.load m x) = some v := by simp only [evP, hx]; exact h1
        simp only [ev1, q1]
      · refine ⟨Evo.refl _, fun _ hS => ⟨s, ?_, hS⟩⟩
        have q1 : evP gl e (.load m x) = none := by simp only [evP, hx]
        have q2 : evR gl e s (.load m x) = some v := by simp only [evR, hx, hS.at_ b _ h0]; exact h1
        simp only [ev1, q1, q2]
    refine ld _ rfl _ fun v S' k h => ?_
    cases m with
    | none =>
      have h : v_load1 (fo gl E x) S = .ok v S' k := h
      rw [ho] at h
      generalize opd gl e x = a at h ⊢
      cases a with
      | rp cs =>
        have h : pf ((nthN 0).f cs) S = .ok v S' k := h
        rw [nthN_f] at h
        exact .inl ⟨cs, rfl, pf_ok h⟩
      | ptr b q =>
        obtain ⟨z, cs, t, h1, h2⟩ := cellsK_ok (f := ld1 q S) h
        have h2 : pfl ((nthN q).f cs) S = .ok v S' k := h2
        rw [nthN_f] at h2
        exact .inr ⟨b, q, z, cs, t, rfl, h1, pfl_ok h2⟩
      | _ => cases h
    | some m =>
      have h : v_loadn m (fo gl E x) S = .ok v S' k := h
      rw [ho] at h
      generalize opd gl e x = a at h ⊢
      cases a with
      | rp cs =>
        obtain ⟨h1, h2⟩ := takeN_ok m cs (aggK S 0) h
        cases h2
        exact .inl ⟨cs, rfl, by rw [cut_some (Nat.zero_le _) (by simpa using h1), List.drop_zero], rfl, rfl⟩
      | ptr b q =>
        obtain ⟨z, cs, t, h1, h2⟩ := cellsK_ok (f := ldn m q S) h
        obtain ⟨h3, h4⟩ := dropN_ok q cs _ h2
        obtain ⟨h5, h6⟩ := takeN_ok m _ (aggK S 1) h4
        cases h6
        exact .inr ⟨b, q, z, cs, t, rfl, h1, cut_some h3 h5, rfl, rfl⟩
      | _ => cases h
  | store m x y =>
    refine W_sim rfl (fun _ => rfl) (fun _ _ h => by cases h) (fun _ _ h => by cases h) rfl fun v S' k h => ?_
    have h : v_store m (fo gl E x) (fo gl E y) S = .ok v S' k := h
    rw [ho] at h
    simp only [evW]
    generalize opd gl e x = a at h ⊢
    cases a with
    | ptr b q =>
      obtain ⟨z, cs, t, h1, h2⟩ := cellsK_ok (f := stK S b q m (opd gl e y)) h
      have h2 : (optK (cells1 (opd gl e y)) fun vs => bK (Nat.beq (lenQ vs) m) (ovlN q vs cs (updK S b z)) .bad) = .ok v S' k := h2
      obtain ⟨vs, h3, h4⟩ := optK_ok h2
      obtain ⟨h5, h6⟩ := bK_t h4
      obtain ⟨l', h7, h8⟩ := ovlN_ok _ _ _ _ h6
      cases h8
      rw [cells1_eq] at h3
      refine ⟨rfl, Evo.upd _ _ _, fun s hS => ⟨_, ?_, hS.upd h1 _⟩⟩
      simp only [hS.at_ b _ h1, h3]
      rw [if_pos (by rw [← lenQ_eq]; exact beq_n h5), h7]
    | _ => cases h
  | nchk x =>
    refine P_sim fun v S' k h => ?_
    have h : v_nchk (fo gl E x) S = .ok v S' k := h
    rw [ho] at h
    simp only [evP]
    generalize opd gl e x = a at h ⊢
    cases a <;> first | (cases h; done) | (cases h; (refine ⟨?_, ?_, ?_⟩ <;> first | rfl | trivial))
  | tas t z ok x =>
    refine P_sim fun v S' k h => ?_
    have h : k_tas t z ok x (fo gl E) call S = .ok v S' k := h
    rw [ho] at h
    unfold k_tas at h
    simp only [evP]
    generalize opd gl e x = a at h ⊢
    cases a with
    | iface u w => exact pf_ok h
    | nili => exact pf_ok h
    | _ => cases h
  | ext i x =>
    refine P_sim fun v S' k h => ?_
    have h : v_ext i (fo gl E x) S = .ok v S' k := h
    rw [ho] at h
    simp only [evP]
    generalize opd gl e x = a at h ⊢
    cases a with
    | tup vs => have h : pf ((nthN i).f vs) S = .ok v S' k := h; rw [nthN_f] at h; exact pf_ok h
    | _ => cases h
  | call f args =>
    intro v S' k h
    have h : (aB gl args).f E S (callC call f) = .ok v S' k := h
    obtain ⟨us, S1, h1, h2, h3⟩ := ab_ok args hE h
    have h1 : loud2 (call f us S1) = .ok v S' k := h1
    cases hr : call f us S1 with
    | bad => rw [hr] at h1; cases h1
    | ok v2 S2 k2 =>
      rw [hr] at h1
      cases h1
      obtain ⟨g1, g2⟩ := hc _ _ _ _ _ _ hr
      refine ⟨h2.trans g1, fun hG hS => ?_⟩
      obtain ⟨s1, q1, q2⟩ := h3 s hS
      obtain ⟨s2, r1, r2⟩ := g2 s1 hG q2
      exact ⟨s2, by simp only [ev1, evP, evR, q1, r1], r2⟩
  | len x =>
    refine P_sim fun v S' k h => ?_
    have h : v_len (fo gl E x) S = .ok v S' k := h
    rw [ho] at h
    simp only [evP]
    generalize opd gl e x = a at h ⊢
    cases a <;> first | (cases h; done) | (cases h; (refine ⟨?_, ?_, ?_⟩ <;> first | rfl | trivial))
  | mn args =>
    refine P_sim fun v S' k h => ?_
    have h : k_mn args (fo gl E) call S = .ok v S' k := h
    rw [ho] at h
    unfold k_mn at h
    simp only [evP]
    split at h
    · cases h
    · rename_i a as hx
      obtain ⟨h1, h2⟩ := bK_t h
      rw [hx]
      simp only
      rw [if_pos h1]
      exact pf_ok h2
  | mx args =>
    refine P_sim fun v S' k h => ?_
    have h : k_mx args (fo gl E) call S = .ok v S' k := h
    rw [ho] at h
    unfold k_mx at h
    simp only [evP]
    split at h
    · cases h
    · rename_i a as hx
      obtain ⟨h1, h2⟩ := bK_t h
      rw [hx]
      simp only
      rw [if_pos h1]
      exact pf_ok h2
  | app hp size bytes x y =>
    refine W_sim rfl (fun _ => rfl) (fun _ _ h => by cases h) (fun _ _ h => by cases h) rfl fun v S' k h => ?_
    have h : k_app hp size bytes x y (fo gl E) call S = .ok v S' k := h
    rw [ho] at h
    unfold k_app at h
    obtain ⟨news, m, h1, h2⟩ := news_ok h
    rcases bK_ok h1 with ⟨q, h3⟩ | ⟨q, h3⟩
    · obtain ⟨r1, r2, r3⟩ := appH_ok h3
      refine ⟨r1, r2, fun s hS => ?_⟩
      obtain ⟨s', t1, t2⟩ := r3 s hS
      exact ⟨s', by simp only [evW, h2 s hS]; rw [if_pos q]; exact t1, t2⟩
    · obtain ⟨r1, r2, r3⟩ := appS_ok h3
      refine ⟨r1, r2, fun s hS => ?_⟩
      obtain ⟨s', t1, t2⟩ := r3 s hS
      exact ⟨s', by simp only [evW, h2 s hS]; rw [if_neg (by rw [q]; simp)]; exact t1, t2⟩
  | build zs ps =>
    refine P_sim fun v S' k h => ?_
    have h : fillK ps (fo gl E) zs (aggK S 0) = .ok v S' k := h
    rw [ho] at h
    obtain ⟨cs', h1, h2⟩ := fillK_ok ps h
    cases h2
    exact ⟨by simp only [evP, h1, Option.map_some], rfl, rfl⟩
  | bsl hp size len zs ps =>
    refine W_sim rfl (fun _ => rfl) (fun _ _ h => by cases h) (fun _ _ h => by cases h) rfl fun v S' k h => ?_
    have h : k_bsl hp size len zs ps (fo gl E) call S = .ok v S' k := h
    rw [ho] at h
    unfold k_bsl at h
    obtain ⟨cs', h1, h2⟩ := fillK_ok ps h
    rcases bK_ok h2 with ⟨q, h3⟩ | ⟨q, h3⟩
    · have h4 := new_ok h3
      cases h4
      exact ⟨rfl, Evo.mk' _ _, fun s hS => ⟨_, by simp only [evW, h1]; rw [if_pos q, hS.nx], hS.new _⟩⟩
    · have h4 := new_ok h3
      cases h4
      exact ⟨rfl, Evo.mk' _ _, fun s hS => ⟨_, by simp only [evW, h1]; rw [if_neg (by rw [q]; simp), hS.nx], hS.new _⟩⟩
  | bsi size len zs ps =>
    intro v S' k h
    have h : k_bsi size len zs ps (fo gl E) call S = .ok v S' k := h
    rw [ho] at h
    obtain ⟨cs', h1, h2⟩ := fillK_ok ps h
    cases h2
    exact ⟨Evo.refl _, fun _ hS => ⟨s, by simp only [ev1, evP, evR, evW, h1, loudOf], hS⟩⟩
  | alloc zs =>
    refine W_sim rfl (fun _ => rfl) (fun _ _ h => by cases h) (fun _ _ h => by cases h) rfl fun v S' k h => ?_
    have h4 := new_ok (f := ptrC) h
    cases h4
    exact ⟨rfl, Evo.mk' _ _, fun s hS => ⟨_, by simp only [evW, hS.nx], hS.new _⟩⟩
  | box x =>
    refine W_sim rfl (fun _ => rfl) (fun _ _ h => by cases h) (fun _ _ h => by cases h) rfl fun v S' k h => ?_
    have h : (optK (cells1 (fo gl E x)) fun cs => S.newR (.cells 0 cs) ptrC) = .ok v S' k := h
    rw [ho] at h
    obtain ⟨cs, h1, h2⟩ := optK_ok h
    have h4 := new_ok h2
    cases h4
    rw [cells1_eq] at h1
    exact ⟨rfl, Evo.mk' _ _, fun s hS => ⟨_, by simp only [evW, h1, hS.nx], hS.new _⟩⟩
  | mks size bytes zs l c =>
    refine W_sim rfl (fun _ => rfl) (fun _ _ h => by cases h) (fun _ _ h => by cases h) rfl fun v S' k h => ?_
    have h : k_mks size bytes zs l c (fo gl E) call S = .ok v S' k := h
    rw [ho] at h
    unfold k_mks at h
    split at h
    · rename_i l' c' hl hc'
      obtain ⟨h1, h2⟩ := bK_t h
      have h4 := new_ok h2
      cases h4
      simp only [Bool.and_eq_true, decide_eq_true_eq] at h1
      exact ⟨rfl, Evo.mk' _ _, fun s hS => ⟨_, by simp only [evW, hl, hc']; rw [if_pos ⟨h1.1, h1.2.1, h1.2.2⟩, hS.nx], hS.new _⟩⟩
    · cases h
  | cpy size x y =>
    refine W_sim rfl (fun _ => rfl) (fun _ _ h => by cases h) (fun _ _ h => by cases h) rfl fun v S' k h => ?_
    have h : k_cpy size x y (fo gl E) call S = .ok v S' k := h
    rw [ho] at h
    unfold k_cpy at h
    split at h
    · rename_i z b q m hx
      obtain ⟨news, mm, h1, h2⟩ := news_ok h
      obtain ⟨z', cs, t, h3, h4⟩ := cellsK_ok h1
      obtain ⟨h5, h6⟩ := bK_t h4
      obtain ⟨cs', h7, h8⟩ := optK_ok h6
      cases h8
      refine ⟨rfl, Evo.upd _ _ _, fun s hS => ⟨_, ?_, hS.upd h3 _⟩⟩
      simp only [evW, hx, h2 s hS, hS.at_ b _ h3]
      rw [if_pos (beq_n h5), h7]
    · cases h
  | rng x =>
    refine W_sim rfl (fun _ => rfl) (fun _ _ h => by cases h) (fun _ _ h => by cases h) rfl fun v S' k h => ?_
    have h : k_rng x (fo gl E) call S = .ok v S' k := h
    rw [ho] at h
    unfold k_rng at h
    split at h
    · rename_i b hx
      have h4 := new_ok h
      cases h4
      exact ⟨rfl, Evo.mk' _ _, fun s hS => ⟨_, by simp only [evW, hx, hS.nx], hS.new _⟩⟩
    · cases h
  | nxt x =>
    refine W_sim rfl (fun _ => rfl) (fun _ _ h => by cases h) (fun _ _ h => by cases h) rfl fun v S' k h => ?_
    have h : k_nxt x (fo gl E) call S = .ok v S' k := h
    rw [ho] at h
    unfold k_nxt at h
    split at h
    · rename_i b hx
      cases hb : S.at b with
      | none => rw [hb] at h; cases h
      | some y =>
        rw [hb] at h
        obtain ⟨o, t⟩ := y
        have h : nxtO b S o = .ok v S' k := h
        unfold nxtO at h
        split at h
        · rename_i l p _
          rcases bK_ok h with ⟨q, h1⟩ | ⟨q, h1⟩
          · cases h1
            have q : p < l.length := by rw [Nat.blt_eq] at q; exact q
            exact ⟨rfl, Evo.upd _ _ _, fun s hS => ⟨_, by simp only [evW, hx, hS.at_ b _ hb]; rw [if_pos q], hS.upd hb _⟩⟩
          · cases h1
            have q : ¬ p < l.length := fun hh => by
              have : Nat.blt p l.length = true := by rw [Nat.blt_eq]; exact hh
              rw [this] at q; cases q
            exact ⟨rfl, Evo.refl _, fun s hS => ⟨s, by simp only [evW, hx, hS.at_ b _ hb]; rw [if_neg q], hS⟩⟩
        · cases h
    · cases h
  | mkc f cs =>
    refine P_sim fun v S' k h => ?_
    have h : FR.ok (.clo f (cs.map (fo gl E))) S 0 = .ok v S' k := h
    rw [ho] at h; cases h; (refine ⟨?_, ?_, ?_⟩ <;> first | rfl | trivial)
  | callv x args =>
    intro v S' k h
    have h : k_callv x args (fo gl E) call S = .ok v S' k := h
    rw [ho] at h
    unfold k_callv at h
    split at h
    · rename_i f cs hx
      obtain ⟨us, S1, h1, h2, h3⟩ := fzl_ok args h
      cases hr : call f (us ++ cs) S1 with
      | bad => rw [hr] at h1; cases h1
      | ok v2 S2 k2 =>
        rw [hr] at h1
        cases h1
        obtain ⟨g1, g2⟩ := hc _ _ _ _ _ _ hr
        refine ⟨h2.trans g1, fun hG hS => ?_⟩
        obtain ⟨s1, q1, q2⟩ := h3 s hS
        obtain ⟨s2, r1, r2⟩ := g2 s1 hG q2
        exact ⟨s2, by simp only [ev1, evP, evR, hx, q1, r1], r2⟩
    · cases h
end
end Go.Ab
