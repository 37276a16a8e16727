/- The quick evaluator is right: steps, regions, code, functions. No conditions. -/
import Derived.Test.YtgflghhffmjojaaGreatDoorFp
set_option linter.unusedSimpArgs false
set_option linter.unusedVariables false
set_option maxRecDepth 100000
namespace Go.Ab
open Go
mutual
theorem fsame_refl : ∀ a : AV, same a a = true
  | .undef => rfl
  | .bool a => by simp [same]
  | .int k a => by simp [same]
  | .str a => by simp [same]
  | .nilp => rfl
  | .ptr a c => by simp [same]
  | .rp a => by simp only [same]; exact fsameL_refl a
  | .nils => rfl
  | .sl a n t => by simp only [same, Bool.and_eq_true, beq_self_eq_true, and_true]; exact fsameL_refl a
  | .hs a c d f => by simp [same]
  | .nili => rfl
  | .iface t v => by simp only [same, Bool.and_eq_true, beq_self_eq_true, true_and]; exact fsame_refl v
  | .agg a => by simp only [same]; exact fsameL_refl a
  | .tup a => by simp only [same]; exact fsameL_refl a
  | .clo f a => by simp only [same, Bool.and_eq_true, beq_self_eq_true, true_and]; exact fsameL_refl a
theorem fsameL_refl : ∀ a : List AV, sameL a a = true
  | [] => rfl
  | x :: xs => by simp only [sameL, Bool.and_eq_true]; exact ⟨fsame_refl x, fsameL_refl xs⟩
end
theorem fsameO_refl (o : Option Obj) : sameO o o = true := by
  cases o with
  | none => rfl
  | some o => cases o <;> simp [sameO, fsameL_refl]
section
variable {G : List AV → Prop} {gl : Nat → AV} {call : FCall} {call' : Calls'} {n : Nat}
/-! ### Steps -/
theorem dB_put {E : FE} {e : Env} {d : Option Nat} {db : DB} (hE : RE n E e) (h : dB n d = some db) (v : AV) : RE n (db.f v E) (e.put d v) := by
  cases d with
  | none => cases h; exact hE
  | some d =>
    have h : (@Bool.rec (fun _ => Nat → Option DB) (fun _ => none) (fun i => some ⟨(wrN i).f⟩) (Nat.ble (Nat.succ d) n)) d = some db := h
    rcases bool_le (a := d) (b := n) with ⟨q, hd⟩ | ⟨q, hd⟩
    · rw [q] at h; cases h; exact hE.put hd v
    · rw [q] at h; cases h
def SimX (G : List AV → Prop) (n : Nat) (S : FS) (s : St) (r : FO) (q : Option (Env × St)) : Prop :=
  match r with
  | .nrm E' S' => Evo S S' ∧ (∃ e', RE n E' e') ∧ (GoodL G S' → RS S s → ∃ e' s', q = some (e', s') ∧ RE n E' e' ∧ RS S' s')
  | .bad => True
  | _ => False
theorem gd_sim {E : FE} {e : Env} {S : FS} {s : St} {i : Nat} {w : Bool} {a b : FO} {A B : Option (Env × St)} (hE : RE n E e) (ha : SimX G n S s a A) (hb : SimX G n S s b B) : SimX G n S s (gdK E i w a b) (guardR e (some (i, w)) A B) := by
  unfold gdK guardR
  rw [hE.fe i]
  simp only
  cases e.at i with
  | bool c => cases c <;> cases w <;> first | exact ha | exact hb
  | tup l => cases l with
    | nil => exact hb
    | cons x l => trivial
  | _ => trivial
theorem step_sim {E : FE} {e : Env} {S : FS} {s : St} {r : FR} {q : Option (AV × St × Nat)} {f : AV → FE → FE} {ih : QB} {K : AV → St → Nat → Option (Env × St)} (h : Sim G S s r q)
    (hk : ∀ v S' s' k, SimX G n S' s' (ih.q call (f v E) S') (K v s' k)) : SimX G n S s (frQ r f ih call E) (opR q K) := by
  cases r with
  | bad => trivial
  | ok v S' k =>
    obtain ⟨h1, h2⟩ := h v S' k rfl
    show SimX G n S s (ih.q call (f v E) S') (opR q K)
    have hq := fun s' => hk v S' s' k
    cases hr : ih.q call (f v E) S' with
    | bad => trivial
    | nrm E2 S2 =>
      have hq1 := hq s
      rw [hr] at hq1
      refine ⟨h1.trans hq1.1, hq1.2.1, fun hG hS => ?_⟩
      have hG1 : GoodL G S' := fun a ha => hG a (hq1.1.log a ha)
      obtain ⟨s1, q1, q2⟩ := h2 hG1 hS
      have hq2 := hq s1
      rw [hr] at hq2
      obtain ⟨e2, s2, r1, r2⟩ := hq2.2.2 hG q2
      exact ⟨e2, s2, by rw [q1]; exact r1, r2⟩
    | exit i E2 S2 => have := hq s; rw [hr] at this; exact this.elim
    | ret E2 S2 => have := hq s; rw [hr] at this; exact this.elim
theorem ops_sim (hc : CallSim G call call') : ∀ (ops : List MIns) {E : FE} {e : Env} {S : FS} {s : St}, RE n E e → SimX G n S s ((opsQ gl n ops).q call E S) (evOps gl call' ops e s) := by
  intro ops
  induction ops with
  | nil => intro E e S s hE; exact ⟨Evo.refl _, ⟨e, hE⟩, fun _ hS => ⟨e, s, rfl, hE, hS⟩⟩
  | cons i is ih =>
    intro E e S s hE
    obtain ⟨d, op, g⟩ := i
    show SimX G n S s ((@Option.rec DB (fun _ => (Nat → AV) → MOp → Option (Nat × Bool) → QB → QB) (fun _ _ _ _ => ⟨fun _ _ _ => .bad⟩) (fun d gl op g ih => insQ gl d op g ih) (dB n d) gl op g (opsQ gl n is)).q call E S) _
    cases hd : dB n d with
    | none => trivial
    | some db =>
      have st : SimX G n S s (frQ ((oB gl op).r call E S) db.f (opsQ gl n is) call E) (opR (ev1 gl call' e s op) fun v s' _ => evOps gl call' is (e.put d v) s') :=
        step_sim (e := e) (op_sim hE hc op) fun v S' s' k => ih (dB_put hE hd v)
      cases g with
      | none => exact st
      | some p =>
        obtain ⟨i, w⟩ := p
        exact gd_sim hE st (ih (dB_put hE hd _))
/-! ### Regions in which an order is drawn -/
theorem still_ok {S S' : FS} {s s' : St} {b : Nat} (h : stillF S S' b = true) (hS : RS S s) (hS' : RS S' s') (he : Evo S S') : s.get b = s'.get b := by
  unfold stillF at h
  cases hb : Nat.ble S'.nx b with
  | true =>
    have hb := ble_le hb
    rw [hS.wf b (by rw [← hS.nx]; exact Nat.le_trans he.nx hb), hS'.wf b (by rw [← hS'.nx]; exact hb)]
  | false =>
    rw [hb] at h
    cases h1 : S.at b with
    | none => rw [h1] at h; cases h
    | some x =>
      rw [h1] at h
      cases h2 : S'.at b with
      | none => rw [h2] at h; cases h
      | some y =>
        rw [h2] at h
        have ht : x.t = y.t := beq_n h
        have h3 := he.old b y h2 (by rw [← ht]; exact hS.ts b x h1)
        rw [h1] at h3
        cases h3
        rw [hS.at_ b _ h1, hS'.at_ b _ h2]
structure RecOk (f : FRec) (x : Rec) : Prop where
  n : f.n = x.n
  b : f.b = x.b
  s : RS f.S x.s
  s' : RS f.S' x.s'
  evo : Evo f.S f.S'
theorem calm2_ok {f g : FRec} {x y : Rec} (hf : RecOk f x) (hg : RecOk g y) (h : calm2 f g = true) : calmTwo x y = true := by
  unfold calm2 at h
  unfold calmTwo
  rw [hf.n, hg.n] at h
  have h1 : stillF g.S g.S' f.b = true → sameO (y.s.get x.b) (y.s'.get x.b) = true := fun h => by
    have hs := still_ok h hg.s hg.s' hg.evo
    rw [hf.b] at hs
    rw [hs]; exact fsameO_refl _
  have h2 : stillF f.S f.S' g.b = true → sameO (x.s.get y.b) (x.s'.get y.b) = true := fun h => by
    have hs := still_ok h hf.s hf.s' hf.evo
    rw [hg.b] at hs
    rw [hs]; exact fsameO_refl _
  generalize x.n = a at h ⊢
  generalize y.n = b at h ⊢
  rcases a with _ | _ | a <;> rcases b with _ | _ | b <;> first | rfl | exact h1 h | exact h2 h | cases h
structure RL (F : List FRec) (acc : List Rec) : Prop where
  ord : F.Pairwise (fun y x => x.j < y.j)
  lt : ∀ f ∈ F, f.j < acc.length
  at_ : ∀ j x, acc.reverse[j]? = some x → x.n = 0 ∨ ∃ f ∈ F, f.j = j ∧ RecOk f x
theorem RL.nil : RL [] [] := ⟨.nil, (fun _ h => by cases h), fun j x h => by simp at h⟩
theorem RL.quiet {F : List FRec} {acc : List Rec} (h : RL F acc) {x : Rec} (hx : x.n = 0) : RL F (x :: acc) := by
  refine ⟨h.ord, fun f hf => Nat.lt_succ_of_lt (h.lt f hf), fun j y hy => ?_⟩
  rw [List.reverse_cons, List.getElem?_append] at hy
  split at hy
  · exact h.at_ j y hy
  · rename_i hj
    have : y = x := by
      cases hq : j - acc.reverse.length with
      | zero => rw [hq] at hy; simpa using hy.symm
      | succ m => rw [hq] at hy; simp at hy
    subst this
    exact .inl hx
theorem RL.add {F : List FRec} {acc : List Rec} (h : RL F acc) {f : FRec} {x : Rec} (hx : RecOk f x) (hj : f.j = acc.length) : RL (f :: F) (x :: acc) := by
  refine ⟨List.pairwise_cons.2 ⟨fun g hg => by rw [hj]; exact h.lt g hg, h.ord⟩, fun g hg => ?_, fun j y hy => ?_⟩
  · rcases List.mem_cons.1 hg with rfl | hg
    · rw [hj]; exact Nat.lt_succ_self _
    · exact Nat.lt_succ_of_lt (h.lt g hg)
  · rw [List.reverse_cons, List.getElem?_append] at hy
    split at hy
    · rcases h.at_ j y hy with q | ⟨g, g1, g2⟩
      · exact .inl q
      · exact .inr ⟨g, List.mem_cons_of_mem _ g1, g2⟩
    · rename_i hlt
      have hj2 : j = acc.length ∧ y = x := by
        cases hq : j - acc.reverse.length with
        | zero => rw [hq] at hy; rw [List.length_reverse] at hlt hq; exact ⟨by omega, by simpa using hy.symm⟩
        | succ m => rw [hq] at hy; simp at hy
      obtain ⟨rfl, rfl⟩ := hj2
      exact .inr ⟨f, by simp, hj, hx⟩
theorem calmF_pair {before : List Nat} : ∀ {F : List FRec}, calmF before F = true → F.Pairwise (fun y x => ((before.getD y.j 0).testBit x.j || calm2 x y) = true) := by
  intro F
  induction F with
  | nil => intro _; exact .nil
  | cons y l ih =>
    intro h
    simp only [calmF, Bool.and_eq_true, List.all_eq_true] at h
    exact List.pairwise_cons.2 ⟨fun x hx => h.1 x hx, ih h.2⟩
theorem pair_of {α : Type} {R Q : α → α → Prop} : ∀ {l : List α}, l.Pairwise R → l.Pairwise Q → ∀ {a b : α}, a ∈ l → b ∈ l → ¬ R a b → ¬ (a = b) → Q b a := by
  intro l
  induction l with
  | nil => intro _ _ a b ha; cases ha
  | cons x l ih =>
    intro h g a b ha hb hn hne
    obtain ⟨h1, h2⟩ := List.pairwise_cons.1 h
    obtain ⟨g1, g2⟩ := List.pairwise_cons.1 g
    rcases List.mem_cons.1 ha with e1 | ha'
    · rcases List.mem_cons.1 hb with e2 | hb'
      · exact absurd (e1.trans e2.symm) hne
      · exact absurd (e1 ▸ h1 b hb') hn
    · rcases List.mem_cons.1 hb with e2 | hb'
      · rw [e2]; exact g1 a ha'
      · exact ih h2 g2 ha' hb' hn hne
theorem calm_ok {before : List Nat} {F : List FRec} {acc : List Rec} (h : RL F acc) (hc : calmF before F = true) : calm before acc.reverse = true := by
  unfold calm
  rw [List.all_eq_true]
  intro j hj
  rw [List.all_eq_true]
  intro i hi
  have hj := List.mem_range.1 hj
  have hi := List.mem_range.1 hi
  unfold calmPair
  have gj : acc.reverse[j]? = some (acc.reverse.getD j default) := by rw [List.getD_eq_getElem?_getD, List.getElem?_eq_getElem hj]; rfl
  have gi : acc.reverse[i]? = some (acc.reverse.getD i default) := by rw [List.getD_eq_getElem?_getD, List.getElem?_eq_getElem (Nat.lt_trans hi hj)]; rfl
  generalize acc.reverse.getD j default = y at gj
  generalize acc.reverse.getD i default = x at gi
  rcases h.at_ j y gj with q | ⟨f, f1, f2, f3⟩
  · rw [Bool.or_eq_true]; right
    unfold calmTwo
    rw [q]
    rcases x.n with _ | _ | _ <;> rfl
  · rcases h.at_ i x gi with q | ⟨g, g1, g2, g3⟩
    · rw [Bool.or_eq_true]; right
      unfold calmTwo
      rw [q]
      rcases y.n with _ | _ | _ <;> rfl
    · have hp := pair_of (R := fun y x : FRec => x.j < y.j) h.ord (calmF_pair hc) g1 f1 (show ¬ f.j < g.j by omega) (fun e => by subst e; omega)
      rw [f2, g2] at hp
      rw [Bool.or_eq_true] at hp ⊢
      rcases hp with hp | hp
      · exact .inl hp
      · exact .inr (calm2_ok g3 f3 hp)
theorem blk_eq (e : Env) (op : MOp) : blkF (opd gl e) op = blockOf gl e op := by cases op <;> rfl
theorem placeo_eq (e : Env) (op : MOp) (m : Nat) : placeo (opd gl e) op m = placeV gl e op m := by cases op <;> rfl
theorem azo_eq (e : Env) (is : List MIns) : azo (opd gl e) is = allocZ gl e is := by
  funext i
  obtain ⟨d, op, g⟩ := i
  cases op <;> cases g <;> rfl
theorem isA_none {e : Env} {is : List MIns} {i : MIns} (h : isA i = false) : allocZ gl e is i = none := by
  obtain ⟨d, op, g⟩ := i
  cases op <;> cases g <;> first | rfl | cases h
def SimY (G : List AV → Prop) (n : Nat) (before : List Nat) (S : FS) (s : St) (F : List FRec) (acc : List Rec) (r : FO) (q : Option (Env × St × List Rec)) : Prop :=
  match r with
  | .nrm E' S' => Evo S S' ∧ (∃ e', RE n E' e') ∧ (GoodL G S' → RS S s → RL F acc → ∃ e' s' l, q = some (e', s', l) ∧ calm before l = true ∧ RE n E' e' ∧ RS S' s')
  | .bad => True
  | _ => False
theorem gdY_sim {before : List Nat} {F : List FRec} {acc : List Rec} {E : FE} {e : Env} {S : FS} {s : St} {i : Nat} {w : Bool} {a b : FO} {A B : Option (Env × St × List Rec)} (hE : RE n E e) (ha : SimY G n before S s F acc a A) (hb : SimY G n before S s F acc b B) :
    SimY G n before S s F acc (gdK E i w a b) (guardR e (some (i, w)) A B) := by
  unfold gdK guardR
  rw [hE.fe i]
  simp only
  cases e.at i with
  | bool c => cases c <;> cases w <;> first | exact ha | exact hb
  | tup l => cases l with
    | nil => exact hb
    | cons x l => trivial
  | _ => trivial
theorem loud_sim (hc : CallSim G call call') {az : AZ} {before : List Nat} (haz : ∀ i, isA i = false → az i = none) : ∀ (ops : List MIns) {j m : Nat} {E : FE} {e : Env} {S : FS} {s : St} {F : List FRec} {acc : List Rec},
    RE n E e → (∀ i ∈ ops, isA i = true → (az i).isSome = true) → acc.length = j → SimY G n before S s F acc ((loudQ gl n before ops).q call j m E S F) (evLoud gl call' az ops m e s acc) := by
  intro ops
  induction ops with
  | nil =>
    intro j m E e S s F acc hE _ hj
    show SimY G n before S s F acc (@Bool.rec (fun _ => FO) .bad (.nrm E S) (calmF before F)) _
    cases hq : calmF before F with
    | false => trivial
    | true => exact ⟨Evo.refl _, ⟨e, hE⟩, fun _ hS hL => ⟨e, s, acc.reverse, rfl, calm_ok hL hq, hE, hS⟩⟩
  | cons i is ih =>
    intro j m E e S s F acc hE hA hj
    have hA' : ∀ i ∈ is, isA i = true → (az i).isSome = true := fun i' hi' => hA i' (List.mem_cons_of_mem _ hi')
    show SimY G n before S s F acc ((@Option.rec DB (fun _ => (Nat → AV) → MIns → LQ → LQ) (fun _ _ _ => ⟨fun _ _ _ _ _ _ => .bad⟩) (fun d gl i ih => insA gl d i ih) (dB n i.dst) gl i (loudQ gl n before is)).q call j m E S F) _
    cases hd : dB n i.dst with
    | none => trivial
    | some db =>
      -- a later piece, handed on
      have pass : ∀ {E' : FE} {e1 : Env} {S1 : FS} {F1 : List FRec} {m1 : Nat} {q : Option (Env × St × List Rec)}, Evo S S1 →
          (∀ s1 acc1, acc1.length = j + 1 → SimY G n before S1 s1 F1 acc1 ((loudQ gl n before is).q call (j + 1) m1 E' S1 F1) (evLoud gl call' az is m1 e1 s1 acc1)) →
          (GoodL G S1 → RS S s → RL F acc → ∃ s1 x, q = evLoud gl call' az is m1 e1 s1 (x :: acc) ∧ RS S1 s1 ∧ RL F1 (x :: acc)) →
          SimY G n before S s F acc ((loudQ gl n before is).q call (j + 1) m1 E' S1 F1) q := by
        intro E' e1 S1 F1 m1 q h1 h2 h3
        have h2' := fun s1 (x : Rec) => h2 s1 (x :: acc) (by simp [hj])
        cases hr : (loudQ gl n before is).q call (j + 1) m1 E' S1 F1 with
        | bad => trivial
        | nrm E2 S2 =>
          have q0 := h2' s ⟨0, 0, s, s⟩
          rw [hr] at q0
          refine ⟨h1.trans q0.1, q0.2.1, fun hG hS hL => ?_⟩
          have hG1 : GoodL G S1 := fun a ha => hG a (q0.1.log a ha)
          obtain ⟨s1, x, r1, r2, r3⟩ := h3 hG1 hS hL
          have q1 := h2' s1 x
          rw [hr] at q1
          obtain ⟨e2, s2, l, t1, t2⟩ := q1.2.2 hG r2 r3
          exact ⟨e2, s2, l, by rw [r1]; exact t1, t2⟩
        | exit a b c => have := h2' s ⟨0, 0, s, s⟩; rw [hr] at this; exact this.elim
        | ret a b => have := h2' s ⟨0, 0, s, s⟩; rw [hr] at this; exact this.elim
      cases hi : isA i with
      | true =>
        have hs := hA i (by simp) hi
        obtain ⟨z, hz⟩ := Option.isSome_iff_exists.1 hs
        have e1 : (insA gl db i (loudQ gl n before is)).q call j m E S F = (placeF gl i.op db.f (loudQ gl n before is)).q call j m E S F := by
          show ((@Bool.rec (fun _ => (Nat → AV) → DB → MIns → LQ → LQ) (fun gl d i ih => insL gl d i.op i.guard ih) (fun gl d i ih => @DB.rec (fun _ => (Nat → AV) → MOp → LQ → LQ) (fun f gl op ih => placeF gl op f ih) d gl i.op ih) (isA i) gl db i (loudQ gl n before is))).q call j m E S F = _
          rw [hi]
        show SimY G n before S s F acc ((insA gl db i (loudQ gl n before is)).q call j m E S F) _
        rw [e1]
        show SimY G n before S s F acc (@Option.rec (AV × Nat × List AV) (fun _ => FO) .bad (fun p => @Bool.rec (fun _ => FO) .bad ((loudQ gl n before is).q call (Nat.succ j) (Nat.succ m) (db.f p.1 E) S (⟨j, 1, m, S, S⟩ :: F)) (sameO ((S.at m).map FB.o) (some (.cells p.2.1 p.2.2)))) (placeo (fo gl E) i.op m)) _
        rw [hE.fo gl, placeo_eq]
        simp only [evLoud, hz]
        cases hp : placeV gl e i.op m with
        | none => trivial
        | some p =>
          obtain ⟨v, zc⟩ := p
          simp only
          cases hsm : sameO ((S.at m).map FB.o) (some (.cells zc.1 zc.2)) with
          | false => trivial
          | true =>
            refine pass (Evo.refl S) (fun s1 acc1 h1 => ih (dB_put hE hd v) hA' h1) (fun hG hS hL => ⟨s, ⟨1, m, s, s⟩, ?_, hS, hL.add ⟨rfl, rfl, hS, hS, Evo.refl _⟩ hj.symm⟩)
            unfold placeR
            rw [if_pos]
            cases hb : S.at m with
            | none => rw [hb] at hsm; simp [sameO] at hsm
            | some x => rw [hb] at hsm; rw [hS.at_ m x hb]; exact hsm
      | false =>
        have hz := haz i hi
        have e1 : (insA gl db i (loudQ gl n before is)).q call j m E S F = (insL gl db i.op i.guard (loudQ gl n before is)).q call j m E S F := by
          show ((@Bool.rec (fun _ => (Nat → AV) → DB → MIns → LQ → LQ) (fun gl d i ih => insL gl d i.op i.guard ih) (fun gl d i ih => @DB.rec (fun _ => (Nat → AV) → MOp → LQ → LQ) (fun f gl op ih => placeF gl op f ih) d gl i.op ih) (isA i) gl db i (loudQ gl n before is))).q call j m E S F = _
          rw [hi]
        show SimY G n before S s F acc ((insA gl db i (loudQ gl n before is)).q call j m E S F) _
        rw [e1]
        obtain ⟨d, op, g⟩ := i
        simp only [evLoud, hz]
        have st : SimY G n before S s F acc (frL ((oB gl op).r call E S) gl op db.f (loudQ gl n before is) call j m E S F) (opR (ev1 gl call' e s op) fun v s' k => evLoud gl call' az is m (e.put d v) s' (⟨k, blockOf gl e op, s, s'⟩ :: acc)) := by
          have hs := op_sim (gl := gl) (S := S) (s := s) hE hc op
          cases hr : (oB gl op).r call E S with
          | bad => trivial
          | ok v S1 k =>
            obtain ⟨h1, h2⟩ := hs v S1 k hr
            show SimY G n before S s F acc ((loudQ gl n before is).q call (Nat.succ j) m (db.f v E) S1 (addR k j op (fo gl E) S S1 F)) _
            refine pass h1 (fun s1 acc1 q1 => ih (dB_put hE hd v) hA' q1) (fun hG hS hL => ?_)
            obtain ⟨s1, r1, r2⟩ := h2 hG hS
            refine ⟨s1, ⟨k, blockOf gl e op, s, s1⟩, by rw [r1]; rfl, r2, ?_⟩
            cases k with
            | zero => exact hL.quiet rfl
            | succ k =>
              show RL (⟨j, Nat.succ k, blkF (fo gl E) op, S, S1⟩ :: F) _
              rw [hE.fo gl, blk_eq]
              exact hL.add ⟨rfl, rfl, hS, r2, h1⟩ hj.symm
        cases g with
        | none => exact st
        | some p =>
          obtain ⟨i, w⟩ := p
          refine gdY_sim hE st ?_
          exact pass (Evo.refl S) (fun s1 acc1 h1 => ih (dB_put hE hd _) hA' h1) (fun hG hS hL => ⟨s, ⟨0, 0, s, s⟩, rfl, hS, hL.quiet rfl⟩)
theorem res_ok {o : Opd → AV} {all : List MIns} : ∀ (ops : List MIns) {S : FS} {f : FS → FO}, (resF all ops).f o S f ≠ .bad →
    ∃ S1, (resF all ops).f o S f = f S1 ∧ Evo S S1 ∧ (∀ i ∈ ops, isA i = true → (azo o all i).isSome = true) ∧ ∀ s, RS S s → (∀ i, isA i = false → azo o all i = none) → RS S1 (reserve (azo o all) ops s) := by
  intro ops
  induction ops with
  | nil => intro S f _; exact ⟨S, rfl, Evo.refl _, (fun i hi => by cases hi), fun s hS _ => hS⟩
  | cons i is ih =>
    intro S f h
    cases hi : isA i with
    | false =>
      have e1 : (resF all (i :: is)).f o S f = (resF all is).f o S f := by
        show (@Bool.rec (fun _ => MIns → List MIns → SB → SB) (fun _ _ r => r) (fun i all r => ⟨fun o S f => @Option.rec (Nat × List AV) (fun _ => FO) .bad (fun zs => S.newO (.cells zs.1 zs.2) fun _ S' => r.f o S' f) (azo o all i)⟩) (isA i) i all (resF all is)).f o S f = _
        rw [hi]
      rw [e1] at h ⊢
      obtain ⟨S1, h1, h2, h3, h4⟩ := ih h
      refine ⟨S1, h1, h2, fun i' hi' hA => ?_, fun s hS hn => ?_⟩
      · rcases List.mem_cons.1 hi' with rfl | hi'
        · rw [hi] at hA; cases hA
        · exact h3 i' hi' hA
      · simp only [reserve, hn i hi]
        exact h4 s hS hn
    | true =>
      have e1 : (resF all (i :: is)).f o S f = @Option.rec (Nat × List AV) (fun _ => FO) .bad (fun zs => S.newO (.cells zs.1 zs.2) fun _ S' => (resF all is).f o S' f) (azo o all i) := by
        show (@Bool.rec (fun _ => MIns → List MIns → SB → SB) (fun _ _ r => r) (fun i all r => ⟨fun o S f => @Option.rec (Nat × List AV) (fun _ => FO) .bad (fun zs => S.newO (.cells zs.1 zs.2) fun _ S' => r.f o S' f) (azo o all i)⟩) (isA i) i all (resF all is)).f o S f = _
        rw [hi]
      rw [e1] at h ⊢
      cases hz : azo o all i with
      | none => rw [hz] at h; exact absurd rfl h
      | some zs =>
        rw [hz] at h
        simp only at h ⊢
        rw [newO_eq] at h ⊢
        obtain ⟨S1, h1, h2, h3, h4⟩ := ih h
        refine ⟨S1, h1, (Evo.mk' _ _).trans h2, fun i' hi' hA => ?_, fun s hS hn => ?_⟩
        · rcases List.mem_cons.1 hi' with rfl | hi'
          · rw [hz]; rfl
          · exact h3 i' hi' hA
        · simp only [reserve, hz]
          exact h4 _ (hS.new _) hn
end
end Go.Ab
/- The quick evaluator is right: code, functions. No conditions. -/
set_option linter.unusedSimpArgs false
set_option linter.unusedVariables false
set_option maxRecDepth 100000
namespace Go.Ab
open Go
section
variable {G : List AV → Prop} {gl : Nat → AV} {call : FCall} {call' : Calls'} {n : Nat}
def SimO (G : List AV → Prop) (n : Nat) (S : FS) (s : St) (r : FO) (q : Out) : Prop :=
  match r with
  | .bad => True
  | .nrm E' S' => Evo S S' ∧ (∃ e', RE n E' e') ∧ (GoodL G S' → RS S s → ∃ e' s', q = some (.nrm, e', s') ∧ RE n E' e' ∧ RS S' s')
  | .exit i E' S' => Evo S S' ∧ (∃ e', RE n E' e') ∧ (GoodL G S' → RS S s → ∃ e' s', q = some (.exit i, e', s') ∧ RE n E' e' ∧ RS S' s')
  | .ret E' S' => Evo S S' ∧ (∃ e', RE n E' e') ∧ (GoodL G S' → RS S s → ∃ e' s', q = some (.ret, e', s') ∧ RE n E' e' ∧ RS S' s')
theorem draw_sim (hc : CallSim G call call') (ops : List MIns) (before : List Nat) {k : Nat} {E : FE} {e : Env} {S : FS} {s : St} (hE : RE n E e) :
    SimO G n S s ((drawC gl ops (loudQ gl n before ops)).c k call E S) (drawR before (evLoud gl call' (allocZ gl e ops) ops s.next e (reserve (allocZ gl e ops) ops s) [])) := by
  show SimO G n S s ((resF ops ops).f (fo gl E) S fun S' => (loudQ gl n before ops).q call 0 S.nx E S' []) _
  rw [hE.fo gl]
  cases hr : (resF ops ops).f (opd gl e) S fun S' => (loudQ gl n before ops).q call 0 S.nx E S' [] with
  | bad => trivial
  | _ =>
    obtain ⟨S1, h1, h2, h3, h4⟩ := res_ok ops (o := opd gl e) (all := ops) (S := S) (f := fun S' => (loudQ gl n before ops).q call 0 S.nx E S' []) (by rw [hr]; exact fun h => by cases h)
    rw [azo_eq] at h3 h4
    have hz : ∀ i, isA i = false → allocZ gl e ops i = none := fun i hi => isA_none hi
    have hL := fun s1 => loud_sim (gl := gl) (n := n) hc (az := allocZ gl e ops) (before := before) hz ops (j := 0) (m := S.nx) (E := E) (e := e) (S := S1) (s := s1) (F := []) (acc := []) hE h3 rfl
    rw [hr] at h1
    rw [← h1] at hL
    first
    | (refine ⟨h2.trans (hL s).1, (hL s).2.1, fun hG hS => ?_⟩
       obtain ⟨e', s', l, q1, q2, q3, q4⟩ := (hL _).2.2 hG (h4 s hS hz) RL.nil
       refine ⟨e', s', ?_, q3, q4⟩
       rw [hS.nx] at q1
       unfold drawR
       rw [q1]
       exact if_pos q2)
    | exact (hL s).elim
theorem mask_len : ∀ (l : List Bool) (e : Env), List.length (maskE l e) = List.length e := by
  intro l
  induction l with
  | nil => intro e; cases e <;> rfl
  | cons b l ih => intro e; cases e with
    | nil => rfl
    | cons v e => show List.length (_ :: maskE l e) = _; rw [List.length_cons, ih]; rfl
theorem mask_at : ∀ (l : List Bool) (e : Env) (i : Nat), l.length = List.length e → (maskE l e).at i = if l[i]? = some true then e.at i else .undef := by
  intro l
  induction l with
  | nil => intro e i h; cases e with
    | nil => simp [maskE, Env.at]
    | cons v e => simp at h
  | cons b l ih =>
    intro e i h
    cases e with
    | nil => simp at h
    | cons v e =>
      cases i with
      | zero => cases b <;> simp [maskE, Env.at]
      | succ i =>
        have := ih e i (by simpa using h)
        simp only [maskE, Env.at, List.getD_cons_succ, List.getElem?_cons_succ] at this ⊢
        exact this
theorem live_mem : ∀ (l : List Bool) (k i : Nat), i ∈ liveL l k ↔ ∃ j, i = k + j ∧ l[j]? = some true := by
  intro l
  induction l with
  | nil => intro k i; simp [liveL]
  | cons b l ih =>
    intro k i
    cases b with
    | false =>
      show i ∈ liveL l (k + 1) ↔ _
      rw [ih]
      constructor
      · rintro ⟨j, h1, h2⟩; exact ⟨j + 1, by omega, by simpa using h2⟩
      · rintro ⟨j, h1, h2⟩
        cases j with
        | zero => simp at h2
        | succ j => exact ⟨j, by omega, by simpa using h2⟩
    | true =>
      show i ∈ k :: liveL l (k + 1) ↔ _
      rw [List.mem_cons, ih]
      constructor
      · rintro (h | ⟨j, h1, h2⟩)
        · exact ⟨0, by omega, rfl⟩
        · exact ⟨j + 1, by omega, by simpa using h2⟩
      · rintro ⟨j, h1, h2⟩
        cases j with
        | zero => exact .inl (by omega)
        | succ j => exact .inr ⟨j, by omega, by simpa using h2⟩
theorem keepB_at (E : FE) : ∀ (l : List Nat) (i : Nat), (∀ j ∈ l, j < 256) → i < 256 → (rdN i).f ((keepB l).f E) = if i ∈ l then (rdN i).f E else .undef := by
  intro l
  induction l with
  | nil => intro i _ hi; simp; exact rd_nil hi
  | cons j l ih =>
    intro i hl hi
    show (rdN i).f ((wrN j).f ((rdN j).f E) ((keepB l).f E)) = _
    rw [rd_wr hi (hl j (by simp)), ih i (fun j hj => hl j (List.mem_cons_of_mem _ hj)) hi]
    by_cases e : i = j
    · subst e; simp
    · rw [if_neg e]
      simp [e]
theorem keep_ok {E : FE} {e : Env} {l : List Bool} (hE : RE n E e) (hl : l.length = n) : RE n (keepE E l) (maskE l e) := by
  refine ⟨by rw [mask_len]; exact hE.len, hE.le, fun i hi => ?_⟩
  show (rdN i).f ((keepB (liveL l 0)).f E) = _
  have hlt : ∀ j ∈ liveL l 0, j < 256 := fun j hj => by
    obtain ⟨a, h1, h2⟩ := (live_mem l 0 j).1 hj
    have := (List.getElem?_eq_some_iff.1 h2).1
    have := hE.le
    omega
  rw [keepB_at E _ i hlt hi, mask_at l e i (hl.trans hE.len.symm), hE.at_ i hi]
  by_cases h : l[i]? = some true
  · rw [if_pos h, if_pos ((live_mem l 0 i).2 ⟨i, by omega, h⟩)]
  · rw [if_neg h, if_neg (fun hm => by
      obtain ⟨a, h1, h2⟩ := (live_mem l 0 i).1 hm
      rw [show i = a by omega] at h
      exact h h2)]
theorem seq_sim {S : FS} {s : St} {r : FO} {q : Out} {f : FE → FS → FO} {g : Env → St → Out} (h : SimO G n S s r q) (hk : ∀ (E' : FE) (e' : Env) (S' : FS) (s' : St), RE n E' e' → SimO G n S' s' (f E' S') (g e' s')) : SimO G n S s (seqK r f) (seqR q g) := by
  cases r with
  | bad => trivial
  | nrm E1 S1 =>
    show SimO G n S s (f E1 S1) _
    obtain ⟨h1, ⟨e0, h0⟩, h2⟩ := h
    have a0 := hk E1 e0 S1 s h0
    have fin : ∀ {x : Ex} {E2 : FE} {S2 : FS}, Evo S1 S2 → (∀ e' s', RE n E1 e' → RS S1 s' → GoodL G S2 → ∃ e2 s2, g e' s' = some (x, e2, s2) ∧ RE n E2 e2 ∧ RS S2 s2) → GoodL G S2 → RS S s → ∃ e2 s2, seqR q g = some (x, e2, s2) ∧ RE n E2 e2 ∧ RS S2 s2 := by
      intro x E2 S2 he hx hG hS
      obtain ⟨e1, s1, q1, q2, q3⟩ := h2 (fun a ha => hG a (he.log a ha)) hS
      obtain ⟨e2, s2, r1, r2⟩ := hx e1 s1 q2 q3 hG
      exact ⟨e2, s2, by rw [q1]; exact r1, r2⟩
    cases hr : f E1 S1 with
    | bad => trivial
    | nrm E2 S2 =>
      rw [hr] at a0
      refine ⟨h1.trans a0.1, a0.2.1, fin a0.1 fun e' s' he hs hG => ?_⟩
      have a1 := hk E1 e' S1 s' he
      rw [hr] at a1
      exact a1.2.2 hG hs
    | exit i E2 S2 =>
      rw [hr] at a0
      refine ⟨h1.trans a0.1, a0.2.1, fin a0.1 fun e' s' he hs hG => ?_⟩
      have a1 := hk E1 e' S1 s' he
      rw [hr] at a1
      exact a1.2.2 hG hs
    | ret E2 S2 =>
      rw [hr] at a0
      refine ⟨h1.trans a0.1, a0.2.1, fin a0.1 fun e' s' he hs hG => ?_⟩
      have a1 := hk E1 e' S1 s' he
      rw [hr] at a1
      exact a1.2.2 hG hs
  | exit i E1 S1 =>
    obtain ⟨h1, h0, h2⟩ := h
    refine ⟨h1, h0, fun hG hS => ?_⟩
    obtain ⟨e', s', q1, q2⟩ := h2 hG hS
    exact ⟨e', s', by rw [q1]; rfl, q2⟩
  | ret E1 S1 =>
    obtain ⟨h1, h0, h2⟩ := h
    refine ⟨h1, h0, fun hG hS => ?_⟩
    obtain ⟨e', s', q1, q2⟩ := h2 hG hS
    exact ⟨e', s', by rw [q1]; rfl, q2⟩
theorem block_sim {S : FS} {s : St} {r : FO} {q : Out} (i : Nat) (h : SimO G n S s r q) : SimO G n S s (blockK i r) (blockR i q) := by
  cases r with
  | bad => trivial
  | nrm E1 S1 =>
    obtain ⟨h1, h0, h2⟩ := h
    refine ⟨h1, h0, fun hG hS => ?_⟩
    obtain ⟨e', s', q1, q2⟩ := h2 hG hS
    exact ⟨e', s', by rw [q1]; rfl, q2⟩
  | ret E1 S1 =>
    obtain ⟨h1, h0, h2⟩ := h
    refine ⟨h1, h0, fun hG hS => ?_⟩
    obtain ⟨e', s', q1, q2⟩ := h2 hG hS
    exact ⟨e', s', by rw [q1]; rfl, q2⟩
  | exit j E1 S1 =>
    obtain ⟨h1, h0, h2⟩ := h
    show SimO G n S s (@Bool.rec (fun _ => FO) (.exit j E1 S1) (.nrm E1 S1) (Nat.beq j i)) _
    cases hb : Nat.beq j i with
    | true =>
      have := beq_n hb
      subst this
      refine ⟨h1, h0, fun hG hS => ?_⟩
      obtain ⟨e', s', q1, q2⟩ := h2 hG hS
      exact ⟨e', s', by rw [q1]; simp only [blockR, if_true], q2⟩
    | false =>
      have hne : ¬ j = i := Nat.ne_of_beq_eq_false hb
      refine ⟨h1, h0, fun hG hS => ?_⟩
      obtain ⟨e', s', q1, q2⟩ := h2 hG hS
      exact ⟨e', s', by rw [q1]; simp only [blockR, if_neg hne], q2⟩
theorem iter_sim {f : FE → FS → FO} {g : Env → St → Out} {live : List Bool} (hl : live.length = n) (hf : ∀ (E' : FE) (e' : Env) (S' : FS) (s' : St), RE n E' e' → SimO G n S' s' (f E' S') (g e' s')) :
    ∀ (k : Nat) (E : FE) (e : Env) (S : FS) (s : St), RE n E e → SimO G n S s (fIter f live k E S) (iter g live k e s) := by
  intro k
  induction k with
  | zero => intro E e S s hE; trivial
  | succ k ih =>
    intro E e S s hE
    exact seq_sim (hf _ _ S s (keep_ok hE hl)) fun E' e' S' s' hE' => ih E' e' S' s' hE'
theorem reg_sim {S : FS} {s : St} {r : FO} {q : Option (Env × St)} (h : SimX G n S s r q) : SimO G n S s r (regR q) := by
  cases r with
  | bad => trivial
  | nrm E1 S1 =>
    obtain ⟨h1, h0, h2⟩ := h
    refine ⟨h1, h0, fun hG hS => ?_⟩
    obtain ⟨e', s', q1, q2⟩ := h2 hG hS
    exact ⟨e', s', by rw [q1]; rfl, q2⟩
  | exit j E1 S1 => exact h.elim
  | ret E1 S1 => exact h.elim
theorem code_sim (hc : CallSim G call call') (k : Nat) : ∀ (c : MC) (E : FE) (e : Env) (S : FS) (s : St), RE n E e → SimO G n S s ((cB gl n c).c k call E S) (evC gl call' k c e s) := by
  intro c
  induction c with
  | skip => intro E e S s hE; exact ⟨Evo.refl _, ⟨e, hE⟩, fun _ hS => ⟨e, s, rfl, hE, hS⟩⟩
  | reg ops => intro E e S s hE; exact reg_sim (ops_sim hc ops hE)
  | draw ops before => intro E e S s hE; exact draw_sim hc ops before hE
  | seq a b iha ihb => intro E e S s hE; exact seq_sim (iha E e S s hE) fun E' e' S' s' hE' => ihb E' e' S' s' hE'
  | cond x a b iha ihb =>
    intro E e S s hE
    show SimO G n S s ((condV (fo gl E x) (cB gl n a) (cB gl n b)).c k call E S) (condR (opd gl e x) (evC gl call' k a e s) (evC gl call' k b e s))
    rw [hE.fo gl]
    cases opd gl e x with
    | bool c => cases c with
      | true => exact iha E e S s hE
      | false => exact ihb E e S s hE
    | _ => trivial
  | block i a ih => intro E e S s hE; exact block_sim i (ih E e S s hE)
  | loop live a ih =>
    intro E e S s hE
    show SimO G n S s ((@Bool.rec (fun _ => CB) ⟨fun _ _ _ _ => .bad⟩ (loopC live (cB gl n a)) (Nat.beq live.length n)).c k call E S) (iter (evC gl call' k a) live k e s)
    cases hb : Nat.beq live.length n with
    | false => trivial
    | true => exact iter_sim (beq_n hb) (fun E' e' S' s' hE' => ih E' e' S' s' hE') k E e S s hE
  | exit i => intro E e S s hE; exact ⟨Evo.refl _, ⟨e, hE⟩, fun _ hS => ⟨e, s, rfl, hE, hS⟩⟩
  | ret => intro E e S s hE; exact ⟨Evo.refl _, ⟨e, hE⟩, fun _ hS => ⟨e, s, rfl, hE, hS⟩⟩
/-! ### Functions -/
theorem resL_ok : ∀ (rs : List MRes) {E : FE} {e : Env} {S : FS} {f : List AV → FS → FR} {v : AV} {S' : FS} {k : Nat}, RE n E e → resL rs E S f = .ok v S' k →
    ∃ us S1, f us S1 = .ok v S' k ∧ Evo S S1 ∧ ∀ s, RS S s → ∃ s1, resVs e s rs = some (us, s1) ∧ RS S1 s1 := by
  intro rs
  induction rs with
  | nil => intro E e S f v S' k hE h; exact ⟨[], S, h, Evo.refl _, fun s hS => ⟨s, rfl, hS⟩⟩
  | cons r rs ih =>
    intro E e S f v S' k hE h
    have one : ∃ u S1, resL rs E S1 (fun vs S'' => f (u :: vs) S'') = .ok v S' k ∧ Evo S S1 ∧ ∀ s, RS S s → ∃ s1, resV e s r = some (u, s1) ∧ RS S1 s1 := by
      cases r with
      | tmp size i =>
        have h : fzK size S (FE.at E i) (fun v S' => resL rs E S' fun vs S'' => f (v :: vs) S'') = .ok v S' k := h
        rw [hE.fe] at h
        obtain ⟨u, S1, h1, h2, h3⟩ := fz_ok h
        exact ⟨u, S1, h1, h2, h3⟩
      | cell i m =>
        have h : cellR E S i m (fun v S' => resL rs E S' fun vs S'' => f (v :: vs) S'') = .ok v S' k := h
        unfold cellR at h
        rw [hE.fe] at h
        split at h
        · rename_i b q hx
          obtain ⟨z, cs, t, h1, h2⟩ := cellsK_ok h
          obtain ⟨u, h3, h4⟩ := optK_ok h2
          rw [cutQ_eq] at h3
          exact ⟨u, S, h4, Evo.refl _, fun s hS => ⟨s, by simp only [resV, hx, hS.at_ b _ h1, h3], hS⟩⟩
        · cases h
    obtain ⟨u, S1, h1, h2, h3⟩ := one
    obtain ⟨us, S2, g1, g2, g3⟩ := ih hE h1
    refine ⟨u :: us, S2, g1, h2.trans g2, fun s hS => ?_⟩
    obtain ⟨s1, q1, q2⟩ := h3 s hS
    obtain ⟨s2, r1, r2⟩ := g3 s1 q2
    exact ⟨s2, by simp only [resVs, q1, r1], r2⟩
theorem env_len (args : List AV) (n : Nat) (h : args.length ≤ n) : List.length (env0 n args) = n := by unfold env0; simp; omega
theorem lenK_eq (args : List AV) : lenK args = args.length := lenQ_eq args
theorem envK_at : ∀ (args : List AV) (i j : Nat), i + args.length ≤ 256 → j < 256 → (rdN j).f (envK args i) = if i ≤ j then args.getD (j - i) .undef else .undef := by
  intro args
  induction args with
  | nil => intro i j _ hj; show (rdN j).f N16.nil = _; rw [rd_nil hj]; simp
  | cons v args ih =>
    intro i j h hj
    rw [List.length_cons] at h
    show (rdN j).f ((wrN i).f v (envK args (i + 1))) = _
    rw [rd_wr hj (by omega), ih (i + 1) j (by omega) hj]
    by_cases e : j = i
    · subst e; simp
    · rw [if_neg e]
      by_cases h1 : i + 1 ≤ j
      · rw [if_pos h1, if_pos (by omega), show j - i = (j - (i + 1)) + 1 by omega, List.getD_cons_succ]
      · rw [if_neg h1, if_neg (by omega)]
theorem env_ok {args : List AV} (h : args.length ≤ n) (hn : n ≤ 256) : RE n (envK args 0) (env0 n args) := by
  refine ⟨env_len args n h, hn, fun i hi => ?_⟩
  rw [envK_at args 0 i (by omega) hi, if_pos (Nat.zero_le _), Nat.sub_zero]
  unfold env0 Env.at
  rw [List.getD_eq_getElem?_getD, List.getD_eq_getElem?_getD, List.getElem?_append]
  split
  · rfl
  · rename_i hge
    rw [List.getElem?_eq_none (by omega), List.getElem?_replicate]
    split <;> rfl
theorem out_ok {E : FE} {e : Env} {S : FS} {rs : List MRes} {v : AV} {S' : FS} {k : Nat} (hE : RE n E e) (h : resL rs E S outE = .ok v S' k) : Evo S S' ∧ ∀ s, RS S s → ∃ us s1, resVs e s rs = some (us, s1) ∧ oneOr us = v ∧ RS S' s1 := by
  obtain ⟨us, S1, h1, h2, h3⟩ := resL_ok rs hE h
  cases h1
  refine ⟨h2, fun s hS => ?_⟩
  obtain ⟨s1, q1, q2⟩ := h3 s hS
  exact ⟨us, s1, q1, rfl, q2⟩
theorem raw_eq {E : FE} {e : Env} (hE : RE n E e) : ∀ rs : List MRes, rawL E rs = (rs.foldr (fun r acc => match r with | .tmp _ i => acc.map (e.at i :: ·) | .cell _ _ => none) (some [])) := by
  intro rs
  induction rs with
  | nil => rfl
  | cons r rs ih =>
    cases r with
    | tmp size i => simp only [rawL, List.foldr_cons, ih, hE.fe]
    | cell i m => rfl
/-- A function's body. -/
theorem run_sim (hc : CallSim G call call') (m : MFun) (k : Nat) {args : List AV} {S : FS} {v : AV} {S' : FS} {kk : Nat} (h : runM m gl k call args S = .ok v S' kk) :
    Evo S S' ∧ ∀ s, GoodL G S' → RS S s → ∃ s', outR m.res (evC gl call' k m.body (env0 m.ntmps args) s) = some (v, s') ∧ RS S' s' := by
  obtain ⟨n, res, body⟩ := m
  have h : (@Bool.rec (fun _ => FR) .bad (outK ((cB gl n body).c k call (envK args 0) S) res) (Nat.ble (lenK args) n && Nat.ble n 256)) = .ok v S' kk := h
  cases hb : (Nat.ble (lenK args) n && Nat.ble n 256) with
  | false => rw [hb] at h; cases h
  | true =>
    rw [hb] at h
    rw [Bool.and_eq_true, lenK_eq] at hb
    have hE := env_ok (ble_le hb.1) (ble_le hb.2)
    have hs := fun s => code_sim (gl := gl) hc k body (envK args 0) (env0 n args) S s hE
    cases hr : (cB gl n body).c k call (envK args 0) S with
    | bad => rw [hr] at h; cases h
    | exit i E1 S1 => rw [hr] at h; cases h
    | nrm E1 S1 =>
      rw [hr] at h
      have hs' := fun s => by have := hs s; rw [hr] at this; exact this
      have h : resL res E1 S1 outE = .ok v S' kk := h
      have h0 := hs' ⟨[], 0⟩
      obtain ⟨e0, he0⟩ := h0.2.1
      obtain ⟨g1, _⟩ := out_ok he0 h
      refine ⟨h0.1.trans g1, fun s hG hS => ?_⟩
      obtain ⟨e1, s1, q1, q2, q3⟩ := (hs' s).2.2 (fun a ha => hG a (g1.log a ha)) hS
      obtain ⟨us, s2, r1, r2, r3⟩ := (out_ok q2 h).2 s1 q3
      exact ⟨s2, by simp only [q1, outR, r1, r2], r3⟩
    | ret E1 S1 =>
      rw [hr] at h
      have hs' := fun s => by have := hs s; rw [hr] at this; exact this
      have h : resL res E1 S1 outE = .ok v S' kk := h
      have h0 := hs' ⟨[], 0⟩
      obtain ⟨e0, he0⟩ := h0.2.1
      obtain ⟨g1, _⟩ := out_ok he0 h
      refine ⟨h0.1.trans g1, fun s hG hS => ?_⟩
      obtain ⟨e1, s1, q1, q2, q3⟩ := (hs' s).2.2 (fun a ha => hG a (g1.log a ha)) hS
      obtain ⟨us, s2, r1, r2, r3⟩ := (out_ok q2 h).2 s1 q3
      exact ⟨s2, by simp only [q1, outR, r1, r2], r3⟩
/-- What stands in place of a function. -/
def XSim (G : List AV → Prop) (X : Nat → Option (List AV → FS → FR)) (ext : Nat → Option (List AV → St → Option (AV × St))) : Prop :=
  ∀ f, (X f = none → ext f = none) ∧ ∀ h, X f = some h → ∃ h', ext f = some h' ∧ ∀ args S v S' k, h args S = .ok v S' k → Evo S S' ∧ ∀ s, GoodL G S' → RS S s → ∃ s', h' args s = some (v, s') ∧ RS S' s'
theorem fun_sim {F F' : Nat → Option MFun} {X : Nat → Option (List AV → FS → FR)} {ext : Nat → Option (List AV → St → Option (AV × St))} (hF : ∀ f m, F f = some m → F' f = some m) (hX : XSim G X ext) : ∀ k, CallSim G (fF gl F X k) (evF gl F' ext k) := by
  intro k
  induction k with
  | zero => intro f args S v S' kk h; cases h
  | succ k ih =>
    intro f args S v S' kk h
    obtain ⟨x1, x2⟩ := hX f
    cases hx : X f with
    | some h0 =>
      have h : h0 args S = .ok v S' kk := by
        have h : (@Option.rec (List AV → FS → FR) (fun _ => Option MFun → (Nat → AV) → Nat → FCall → List AV → FS → FR)
          (fun m gl k ih args S => @Option.rec MFun (fun _ => (Nat → AV) → Nat → FCall → List AV → FS → FR) (fun _ _ _ _ _ => .bad) runM m gl k ih args S) (fun h _ _ _ _ args S => h args S) (X f) (F f) gl k (fF gl F X k) args S) = .ok v S' kk := h
        rw [hx] at h; exact h
      obtain ⟨h', e1, e2⟩ := x2 h0 hx
      obtain ⟨g1, g2⟩ := e2 args S v S' kk h
      refine ⟨g1, fun s hG hS => ?_⟩
      obtain ⟨s', q1, q2⟩ := g2 s hG hS
      exact ⟨s', by simp only [evF, e1]; exact q1, q2⟩
    | none =>
      have e1 := x1 hx
      have h : (@Option.rec MFun (fun _ => (Nat → AV) → Nat → FCall → List AV → FS → FR) (fun _ _ _ _ _ => .bad) runM (F f) gl k (fF gl F X k) args S) = .ok v S' kk := by
        have h : (@Option.rec (List AV → FS → FR) (fun _ => Option MFun → (Nat → AV) → Nat → FCall → List AV → FS → FR)
          (fun m gl k ih args S => @Option.rec MFun (fun _ => (Nat → AV) → Nat → FCall → List AV → FS → FR) (fun _ _ _ _ _ => .bad) runM m gl k ih args S) (fun h _ _ _ _ args S => h args S) (X f) (F f) gl k (fF gl F X k) args S) = .ok v S' kk := h
        rw [hx] at h; exact h
      cases hm : F f with
      | none => rw [hm] at h; cases h
      | some m =>
        rw [hm] at h
        obtain ⟨g1, g2⟩ := run_sim ih m k h
        refine ⟨g1, fun s hG hS => ?_⟩
        obtain ⟨s', q1, q2⟩ := g2 s hG hS
        exact ⟨s', by simp only [evF, e1, hF f m hm]; exact q1, q2⟩
end
end Go.Ab
