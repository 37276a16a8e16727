/- The quick evaluator with unknowns is right: steps, regions, code, functions. No conditions. -/
import Derived.Test.YtgflghhffmjojaaGreatDoorHq
set_option linter.unusedSimpArgs false
set_option linter.unusedVariables false
set_option maxRecDepth 100000
namespace Go.Ab
open Go
mutual
theorem fsame_refl : ∀ a : AV, same a a = true
  | .undef => rfl
  | .bool a => by simp [same]
  | .int k a => by simp [same]
  | .str a => by simp [same]
  | .nilp => rfl
  | .ptr a c => by simp [same]
  | .rp a => by simp only [same]; exact fsameL_refl a
  | .nils => rfl
  | .sl a n t => by simp only [same, Bool.and_eq_true, beq_self_eq_true, and_true]; exact fsameL_refl a
  | .hs a c d f => by simp [same]
  | .nili => rfl
  | .iface t v => by simp only [same, Bool.and_eq_true, beq_self_eq_true, true_and]; exact fsame_refl v
  | .agg a => by simp only [same]; exact fsameL_refl a
  | .tup a => by simp only [same]; exact fsameL_refl a
  | .clo f a => by simp only [same, Bool.and_eq_true, beq_self_eq_true, true_and]; exact fsameL_refl a
theorem fsameL_refl : ∀ a : List AV, sameL a a = true
  | [] => rfl
  | x :: xs => by simp only [sameL, Bool.and_eq_true]; exact ⟨fsame_refl x, fsameL_refl xs⟩
end
theorem fsameO_refl (o : Option Obj) : sameO o o = true := by
  cases o with
  | none => rfl
  | some o => cases o <;> simp [sameO, fsameL_refl]
section
variable {g : Sg} {cx : Nat → List AV → AV → Prop} {gl : Nat → AV} {call : FCall} {call' : Calls'} {n : Nat}
/-! ### Steps -/
theorem dB_put {E : FE} {e : Env} {d : Option Nat} {db : DB} (hE : ET g n E e) (h : dB n d = some db) (v : AV) : ET g n (db.f v E) (e.put d (sv g v)) := by
  obtain ⟨e0, h0, rfl⟩ := hE
  cases d with
  | none => cases h; exact ⟨e0, h0, rfl⟩
  | some d =>
    have h : (@Bool.rec (fun _ => Nat → Option DB) (fun _ => none) (fun i => some ⟨(wrN i).f⟩) (Nat.ble (Nat.succ d) n)) d = some db := h
    rcases bool_le (a := d) (b := n) with ⟨q, hd⟩ | ⟨q, hd⟩
    · rw [q] at h; cases h
      exact ⟨e0.put (some d) v, h0.put hd v, by show (svL g e0).set d (sv g v) = svL g (e0.set d v); rw [svL_set]⟩
    · rw [q] at h; cases h
def SimX (g : Sg) (cx : Nat → List AV → AV → Prop) (n : Nat) (S : FS) (s : St) (r : FO) (q : Option (Env × St)) : Prop :=
  match r with
  | .nrm E' S' => Evo S S' ∧ (∃ e', ET g n E' e') ∧ (GoodT g cx S' → RT g S s → ∃ e' s', q = some (e', s') ∧ ET g n E' e' ∧ RT g S' s')
  | .bad => True
  | _ => False
theorem gd_sim {E : FE} {e : Env} {S : FS} {s : St} {i : Nat} {w : Bool} {a b : FO} {A B : Option (Env × St)} (hE : ET g n E e) (ha : SimX g cx n S s a A) (hb : SimX g cx n S s b B) : SimX g cx n S s (gdK E i w a b) (guardR e (some (i, w)) A B) := by
  unfold gdK guardR
  simp only [hE.at i]
  cases FE.at E i with
  | bool c => cases c <;> cases w <;> first | exact ha | exact hb
  | tup l => cases l with
    | nil => exact hb
    | cons x l => trivial
  | _ => trivial
theorem step_sim {E : FE} {e : Env} {S : FS} {s : St} {r : FR} {q : Option (AV × St × Nat)} {f : AV → FE → FE} {ih : QB} {K : AV → St → Nat → Option (Env × St)} (h : SimT g cx S s r q)
    (hk : ∀ v S' s' k, SimX g cx n S' s' (ih.q call (f v E) S') (K (sv g v) s' k)) : SimX g cx n S s (frQ r f ih call E) (opR q K) := by
  cases r with
  | bad => trivial
  | ok v S' k =>
    obtain ⟨h1, h2⟩ := h v S' k rfl
    show SimX g cx n S s (ih.q call (f v E) S') (opR q K)
    have hq := fun s' => hk v S' s' k
    cases hr : ih.q call (f v E) S' with
    | bad => trivial
    | nrm E2 S2 =>
      have hq1 := hq s
      rw [hr] at hq1
      refine ⟨h1.trans hq1.1, hq1.2.1, fun hG hS => ?_⟩
      have hG1 : GoodT g cx S' := fun a ha => hG a (hq1.1.log a ha)
      obtain ⟨s1, q1, q2⟩ := h2 hG1 hS
      have hq2 := hq s1
      rw [hr] at hq2
      obtain ⟨e2, s2, r1, r2⟩ := hq2.2.2 hG q2
      exact ⟨e2, s2, by rw [q1]; exact r1, r2⟩
    | exit i E2 S2 => have := hq s; rw [hr] at this; exact this.elim
    | ret E2 S2 => have := hq s; rw [hr] at this; exact this.elim
theorem ops_sim (hgl : ∀ i, plainV (gl i) = true) (hc : CallT g cx call call') : ∀ (ops : List MIns) {E : FE} {e : Env} {S : FS} {s : St}, ET g n E e → SimX g cx n S s ((opsQ gl n ops).q call E S) (evOps gl call' ops e s) := by
  intro ops
  induction ops with
  | nil => intro E e S s hE; exact ⟨Evo.refl _, ⟨e, hE⟩, fun _ hS => ⟨e, s, rfl, hE, hS⟩⟩
  | cons i is ih =>
    intro E e S s hE
    obtain ⟨d, op, gd⟩ := i
    show SimX g cx n S s ((@Option.rec DB (fun _ => (Nat → AV) → MOp → Option (Nat × Bool) → QB → QB) (fun _ _ _ _ => ⟨fun _ _ _ => .bad⟩) (fun d gl op g ih => insQ gl d op g ih) (dB n d) gl op gd (opsQ gl n is)).q call E S) _
    cases hd : dB n d with
    | none => trivial
    | some db =>
      have st : SimX g cx n S s (frQ ((hB gl op).r call E S) db.f (opsQ gl n is) call E) (opR (ev1 gl call' e s op) fun v s' _ => evOps gl call' is (e.put d v) s') :=
        step_sim (e := e) (op_T hgl hE hc op).1 fun v S' s' k => ih (dB_put hE hd v)
      cases gd with
      | none => exact st
      | some p =>
        obtain ⟨i, w⟩ := p
        exact gd_sim hE st (ih (dB_put hE hd _))
/-! ### Regions in which an order is drawn -/
theorem RT.le {S S' : FS} {s s' : St} (h : RT g S s) (h' : RT g S' s') (he : Evo S S') {b : Nat} (hb : S'.nx ≤ b) : s.get (g.r b) = none ∧ s'.get (g.r b) = none := by
  have q : ∀ x y, g.n0 ≤ x → x ≤ y → g.r x ≤ g.r y := fun x y h1 h2 => by
    obtain ⟨i, rfl⟩ : ∃ i, x = g.n0 + i := ⟨x - g.n0, by omega⟩
    obtain ⟨j, rfl⟩ : ∃ j, y = g.n0 + j := ⟨y - g.n0, by omega⟩
    rw [g.sh, g.sh]; omega
  exact ⟨h.wf _ (by rw [h.nx]; exact q _ _ h.n0 (Nat.le_trans he.nx hb)), h'.wf _ (by rw [h'.nx]; exact q _ _ h'.n0 hb)⟩
theorem still_ok {S S' : FS} {s s' : St} {b : Nat} (h : stillF S S' b = true) (hS : RT g S s) (hS' : RT g S' s') (he : Evo S S') : s.get (g.r b) = s'.get (g.r b) := by
  unfold stillF at h
  cases hb : Nat.ble S'.nx b with
  | true =>
    have hb := ble_le hb
    rw [(hS.le hS' he hb).1, (hS.le hS' he hb).2]
  | false =>
    rw [hb] at h
    cases h1 : S.at b with
    | none => rw [h1] at h; cases h
    | some x =>
      rw [h1] at h
      cases h2 : S'.at b with
      | none => rw [h2] at h; cases h
      | some y =>
        rw [h2] at h
        have ht : x.t = y.t := beq_n h
        have h3 := he.old b y h2 (by rw [← ht]; exact hS.ts b x h1)
        rw [h1] at h3
        cases h3
        rw [hS.at_ b _ h1, hS'.at_ b _ h2]
structure RecOk (g : Sg) (f : FRec) (x : Rec) : Prop where
  n : f.n = x.n
  b : f.n = 1 → x.b = g.r f.b
  s : RT g f.S x.s
  s' : RT g f.S' x.s'
  evo : Evo f.S f.S'
theorem calm2_ok {f k : FRec} {x y : Rec} (hf : RecOk g f x) (hg : RecOk g k y) (h : calm2 f k = true) : calmTwo x y = true := by
  unfold calm2 at h
  unfold calmTwo
  have h1 : f.n = 1 → stillF k.S k.S' f.b = true → sameO (y.s.get x.b) (y.s'.get x.b) = true := fun q h => by
    have hs := still_ok h hg.s hg.s' hg.evo
    rw [hf.b q, hs]; exact fsameO_refl _
  have h2 : k.n = 1 → stillF f.S f.S' k.b = true → sameO (x.s.get y.b) (x.s'.get y.b) = true := fun q h => by
    have hs := still_ok h hf.s hf.s' hf.evo
    rw [hg.b q, hs]; exact fsameO_refl _
  rw [hf.n] at h1
  rw [hg.n] at h2
  rw [hf.n, hg.n] at h
  generalize x.n = a at h h1 ⊢
  generalize y.n = b at h h2 ⊢
  rcases a with _ | _ | a <;> rcases b with _ | _ | b <;> first | rfl | exact h1 rfl h | exact h2 rfl h | cases h
structure RL (g : Sg) (F : List FRec) (acc : List Rec) : Prop where
  ord : F.Pairwise (fun y x => x.j < y.j)
  lt : ∀ f ∈ F, f.j < acc.length
  at_ : ∀ j x, acc.reverse[j]? = some x → x.n = 0 ∨ ∃ f ∈ F, f.j = j ∧ RecOk g f x
theorem RL.nil : RL g [] [] := ⟨.nil, (fun _ h => by cases h), fun j x h => by simp at h⟩
theorem RL.quiet {F : List FRec} {acc : List Rec} (h : RL g F acc) {x : Rec} (hx : x.n = 0) : RL g F (x :: acc) := by
  refine ⟨h.ord, fun f hf => Nat.lt_succ_of_lt (h.lt f hf), fun j y hy => ?_⟩
  rw [List.reverse_cons, List.getElem?_append] at hy
  split at hy
  · exact h.at_ j y hy
  · rename_i hj
    have : y = x := by
      cases hq : j - acc.reverse.length with
      | zero => rw [hq] at hy; simpa using hy.symm
      | succ m => rw [hq] at hy; simp at hy
    subst this
    exact .inl hx
theorem RL.add {F : List FRec} {acc : List Rec} (h : RL g F acc) {f : FRec} {x : Rec} (hx : RecOk g f x) (hj : f.j = acc.length) : RL g (f :: F) (x :: acc) := by
  refine ⟨List.pairwise_cons.2 ⟨fun f2 hg => by rw [hj]; exact h.lt f2 hg, h.ord⟩, fun f2 hg => ?_, fun j y hy => ?_⟩
  · rcases List.mem_cons.1 hg with rfl | hg
    · rw [hj]; exact Nat.lt_succ_self _
    · exact Nat.lt_succ_of_lt (h.lt f2 hg)
  · rw [List.reverse_cons, List.getElem?_append] at hy
    split at hy
    · rcases h.at_ j y hy with q | ⟨f2, g1, g2⟩
      · exact .inl q
      · exact .inr ⟨f2, List.mem_cons_of_mem _ g1, g2⟩
    · rename_i hlt
      have hj2 : j = acc.length ∧ y = x := by
        cases hq : j - acc.reverse.length with
        | zero => rw [hq] at hy; rw [List.length_reverse] at hlt hq; exact ⟨by omega, by simpa using hy.symm⟩
        | succ m => rw [hq] at hy; simp at hy
      obtain ⟨rfl, rfl⟩ := hj2
      exact .inr ⟨f, by simp, hj, hx⟩
theorem calmF_pair {before : List Nat} : ∀ {F : List FRec}, calmF before F = true → F.Pairwise (fun y x => ((before.getD y.j 0).testBit x.j || calm2 x y) = true) := by
  intro F
  induction F with
  | nil => intro _; exact .nil
  | cons y l ih =>
    intro h
    simp only [calmF, Bool.and_eq_true, List.all_eq_true] at h
    exact List.pairwise_cons.2 ⟨fun x hx => h.1 x hx, ih h.2⟩
theorem pair_of {α : Type} {R Q : α → α → Prop} : ∀ {l : List α}, l.Pairwise R → l.Pairwise Q → ∀ {a b : α}, a ∈ l → b ∈ l → ¬ R a b → ¬ (a = b) → Q b a := by
  intro l
  induction l with
  | nil => intro _ _ a b ha; cases ha
  | cons x l ih =>
    intro h g a b ha hb hn hne
    obtain ⟨h1, h2⟩ := List.pairwise_cons.1 h
    obtain ⟨g1, g2⟩ := List.pairwise_cons.1 g
    rcases List.mem_cons.1 ha with e1 | ha'
    · rcases List.mem_cons.1 hb with e2 | hb'
      · exact absurd (e1.trans e2.symm) hne
      · exact absurd (e1 ▸ h1 b hb') hn
    · rcases List.mem_cons.1 hb with e2 | hb'
      · rw [e2]; exact g1 a ha'
      · exact ih h2 g2 ha' hb' hn hne
theorem calm_ok {before : List Nat} {F : List FRec} {acc : List Rec} (h : RL g F acc) (hc : calmF before F = true) : calm before acc.reverse = true := by
  unfold calm
  rw [List.all_eq_true]
  intro j hj
  rw [List.all_eq_true]
  intro i hi
  have hj := List.mem_range.1 hj
  have hi := List.mem_range.1 hi
  unfold calmPair
  have gj : acc.reverse[j]? = some (acc.reverse.getD j default) := by rw [List.getD_eq_getElem?_getD, List.getElem?_eq_getElem hj]; rfl
  have gi : acc.reverse[i]? = some (acc.reverse.getD i default) := by rw [List.getD_eq_getElem?_getD, List.getElem?_eq_getElem (Nat.lt_trans hi hj)]; rfl
  generalize acc.reverse.getD j default = y at gj
  generalize acc.reverse.getD i default = x at gi
  rcases h.at_ j y gj with q | ⟨f, f1, fj, f3⟩
  · rw [Bool.or_eq_true]; right
    unfold calmTwo
    rw [q]
    rcases x.n with _ | _ | _ <;> rfl
  · rcases h.at_ i x gi with q | ⟨f2, g1, gj2, g3⟩
    · rw [Bool.or_eq_true]; right
      unfold calmTwo
      rw [q]
      rcases y.n with _ | _ | _ <;> rfl
    · have hp := pair_of (R := fun y x : FRec => x.j < y.j) h.ord (calmF_pair hc) g1 f1 (show ¬ f.j < f2.j by omega) (fun e => by subst e; omega)
      rw [fj, gj2] at hp
      rw [Bool.or_eq_true] at hp ⊢
      rcases hp with hp | hp
      · exact .inl hp
      · exact .inr (calm2_ok g3 f3 hp)
theorem placeo_eq (e : Env) (op : MOp) (m : Nat) : placeo (opd gl e) op m = placeV gl e op m := by cases op <;> rfl
theorem azo_eq (e : Env) (is : List MIns) : azo (opd gl e) is = allocZ gl e is := by
  funext i
  obtain ⟨d, op, gd⟩ := i
  cases op <;> cases gd <;> rfl
theorem opd_int (hgl : ∀ i, plainV (gl i) = true) {e0 : Env} {x : Opd} {k : IntKind} {i : Int} (h : opd gl e0 x = .int k i) : opd gl (svL g e0) x = .int k i := by
  cases x with
  | s j =>
    have h : e0.at j = .int k i := h
    show Env.at (svL g e0) j = _
    rw [at_sv, h]; rfl
  | c v => exact h
  | g j => exact h
theorem opd_bool {e0 : Env} {x : Opd} {c : Bool} (h : opd gl e0 x = .bool c) : opd gl (svL g e0) x = .bool c := by
  cases x with
  | s j =>
    have h : e0.at j = .bool c := h
    show Env.at (svL g e0) j = _
    rw [at_sv, h]; rfl
  | c v => exact h
  | g j => exact h
theorem madeV_ok {size bytes : Nat} {zs : List AV} {m : Nat} {l c : AV} {p : AV × Nat × List AV} (h : madeV size bytes zs m l c = some p) : ∃ i, l = .int .i64 i ∧ c = .int .i64 i ∧ p = (.hs size m 0 i.toNat, size, (List.replicate i.toNat zs).flatten) ∧ ∀ m', madeV size bytes zs m' l c = some (.hs size m' 0 i.toNat, size, (List.replicate i.toNat zs).flatten) := by
  unfold madeV at h
  split at h
  · rename_i l c
    split at h
    · rename_i q
      cases h
      obtain ⟨rfl, q⟩ := q
      exact ⟨l, rfl, rfl, rfl, fun m' => by unfold madeV; exact if_pos ⟨rfl, q⟩⟩
    · cases h
  · cases h
theorem place_sv (hgl : ∀ i, plainV (gl i) = true) {e0 : Env} {op : MOp} (hm : okOp op = true) {m : Nat} {v : AV} {zs : Nat × List AV} (h : placeV gl e0 op m = some (v, zs)) : placeV gl (svL g e0) op (g.r m) = some (sv g v, zs) ∧ svL g zs.2 = zs.2 := by
  cases op <;> first | (cases h; done) | skip
  · cases h
    exact ⟨rfl, plain_svL g _ hm⟩
  · rename_i size bytes zs0 l c
    simp only [okOp, Bool.and_eq_true] at hm
    have h : madeV size bytes zs0 m (opd gl e0 l) (opd gl e0 c) = some (v, zs) := h
    obtain ⟨i, h1, h2, h3, h4⟩ := madeV_ok h
    cases h3
    refine ⟨?_, flat_rep _ _ hm.1⟩
    show madeV size bytes zs0 (g.r m) (opd gl (svL g e0) l) (opd gl (svL g e0) c) = _
    rw [opd_int hgl h1, opd_int hgl h2, ← h1]
    have := h4 (g.r m)
    rw [h1, h2] at this
    rw [h1]
    exact this
theorem alloc_sv (hgl : ∀ i, plainV (gl i) = true) {e0 : Env} {is : List MIns} {i : MIns} (hm : okOp i.op = true) {zs : Nat × List AV} (h : allocZ gl e0 is i = some zs) : allocZ gl (svL g e0) is i = some zs ∧ svL g zs.2 = zs.2 := by
  obtain ⟨d, op, gd⟩ := i
  cases op <;> cases gd <;> first | (cases h; done) | skip
  · cases h
    exact ⟨rfl, plain_svL g _ hm⟩
  · rename_i size bytes zs0 l c
    simp only [okOp, Bool.and_eq_true] at hm
    have h : (madeV size bytes zs0 0 (opd gl e0 (rootO is 8 l)) (opd gl e0 (rootO is 8 c))).map (·.2) = some zs := h
    obtain ⟨p, h1, h2⟩ := Option.map_eq_some_iff.1 h
    obtain ⟨j, q1, q2, q3, q4⟩ := madeV_ok h1
    subst q3
    subst h2
    refine ⟨?_, flat_rep _ _ hm.1⟩
    show (madeV size bytes zs0 0 (opd gl (svL g e0) (rootO is 8 l)) (opd gl (svL g e0) (rootO is 8 c))).map (·.2) = _
    rw [opd_int hgl q1, opd_int hgl q2]
    rw [q1, q2] at h1
    rw [h1]; rfl
theorem isA_none {e : Env} {is : List MIns} {i : MIns} (h : isA i = false) : allocZ gl e is i = none := by
  obtain ⟨d, op, gd⟩ := i
  cases op <;> cases gd <;> first | rfl | cases h
def SimY (g : Sg) (cx : Nat → List AV → AV → Prop) (n : Nat) (before : List Nat) (S : FS) (s : St) (F : List FRec) (acc : List Rec) (P : Prop) (r : FO) (q : Option (Env × St × List Rec)) : Prop :=
  match r with
  | .nrm E' S' => Evo S S' ∧ (∃ e', ET g n E' e') ∧ (GoodT g cx S' → RT g S s → RL g F acc → P → ∃ e' s' l, q = some (e', s', l) ∧ calm before l = true ∧ ET g n E' e' ∧ RT g S' s')
  | .bad => True
  | _ => False
theorem gdY_sim {before : List Nat} {F : List FRec} {acc : List Rec} {E : FE} {e : Env} {S : FS} {s : St} {i : Nat} {w : Bool} {a b : FO} {A B : Option (Env × St × List Rec)} {P : Prop} (hE : ET g n E e) (ha : SimY g cx n before S s F acc P a A) (hb : SimY g cx n before S s F acc P b B) :
    SimY g cx n before S s F acc P (gdK E i w a b) (guardR e (some (i, w)) A B) := by
  unfold gdK guardR
  simp only [hE.at i]
  cases FE.at E i with
  | bool c => cases c <;> cases w <;> first | exact ha | exact hb
  | tup l => cases l with
    | nil => exact hb
    | cons x l => trivial
  | _ => trivial
theorem loud_sim (hgl : ∀ i, plainV (gl i) = true) (hc : CallT g cx call call') {az : AZ} {before : List Nat} (haz : ∀ i, isA i = false → az i = none) : ∀ (ops : List MIns) {j m m' : Nat} {E : FE} {e : Env} {S : FS} {s : St} {F : List FRec} {acc : List Rec},
    ET g n E e → (∀ i ∈ ops, isA i = true → (az i).isSome = true) → (∀ i ∈ ops, okOp i.op = true) → acc.length = j → SimY g cx n before S s F acc (m' = g.r m ∧ g.n0 ≤ m) ((loudQ gl n before ops).q call j m E S F) (evLoud gl call' az ops m' e s acc) := by
  intro ops
  induction ops with
  | nil =>
    intro j m m' E e S s F acc hE _ _ hj
    show SimY g cx n before S s F acc (m' = g.r m ∧ g.n0 ≤ m) (@Bool.rec (fun _ => FO) .bad (.nrm E S) (calmF before F)) _
    cases hq : calmF before F with
    | false => trivial
    | true => exact ⟨Evo.refl _, ⟨e, hE⟩, fun _ hS hL _ => ⟨e, s, acc.reverse, rfl, calm_ok hL hq, hE, hS⟩⟩
  | cons i is ih =>
    intro j m m' E e S s F acc hE hA hO hj
    have hO' : ∀ i ∈ is, okOp i.op = true := fun i' hi' => hO i' (List.mem_cons_of_mem _ hi')
    have hA' : ∀ i ∈ is, isA i = true → (az i).isSome = true := fun i' hi' => hA i' (List.mem_cons_of_mem _ hi')
    show SimY g cx n before S s F acc (m' = g.r m ∧ g.n0 ≤ m) ((@Option.rec DB (fun _ => (Nat → AV) → MIns → LQ → LQ) (fun _ _ _ => ⟨fun _ _ _ _ _ _ => .bad⟩) (fun d gl i ih => insA gl d i ih) (dB n i.dst) gl i (loudQ gl n before is)).q call j m E S F) _
    cases hd : dB n i.dst with
    | none => trivial
    | some db =>
      -- a later piece, handed on
      have pass : ∀ {E' : FE} {e1 : Env} {S1 : FS} {F1 : List FRec} {m1 m2 : Nat} {q : Option (Env × St × List Rec)}, Evo S S1 →
          (∀ s1 acc1, acc1.length = j + 1 → SimY g cx n before S1 s1 F1 acc1 (m2 = g.r m1 ∧ g.n0 ≤ m1) ((loudQ gl n before is).q call (j + 1) m1 E' S1 F1) (evLoud gl call' az is m2 e1 s1 acc1)) →
          (GoodT g cx S1 → RT g S s → RL g F acc → (m' = g.r m ∧ g.n0 ≤ m) → ∃ s1 x, q = evLoud gl call' az is m2 e1 s1 (x :: acc) ∧ RT g S1 s1 ∧ RL g F1 (x :: acc) ∧ (m2 = g.r m1 ∧ g.n0 ≤ m1)) →
          SimY g cx n before S s F acc (m' = g.r m ∧ g.n0 ≤ m) ((loudQ gl n before is).q call (j + 1) m1 E' S1 F1) q := by
        intro E' e1 S1 F1 m1 m2 q h1 h2 h3
        have h2' := fun s1 (x : Rec) => h2 s1 (x :: acc) (by simp [hj])
        cases hr : (loudQ gl n before is).q call (j + 1) m1 E' S1 F1 with
        | bad => trivial
        | nrm E2 S2 =>
          have q0 := h2' s ⟨0, 0, s, s⟩
          rw [hr] at q0
          refine ⟨h1.trans q0.1, q0.2.1, fun hG hS hL hP => ?_⟩
          have hG1 : GoodT g cx S1 := fun a ha => hG a (q0.1.log a ha)
          obtain ⟨s1, x, r1, r2, r3, r4⟩ := h3 hG1 hS hL hP
          have q1 := h2' s1 x
          rw [hr] at q1
          obtain ⟨e2, s2, l, t1, t2⟩ := q1.2.2 hG r2 r3 r4
          exact ⟨e2, s2, l, by rw [r1]; exact t1, t2⟩
        | exit a b c => have := h2' s ⟨0, 0, s, s⟩; rw [hr] at this; exact this.elim
        | ret a b => have := h2' s ⟨0, 0, s, s⟩; rw [hr] at this; exact this.elim
      cases hi : isA i with
      | true =>
        have hs := hA i (by simp) hi
        obtain ⟨z, hz⟩ := Option.isSome_iff_exists.1 hs
        have e1 : (insA gl db i (loudQ gl n before is)).q call j m E S F = (placeF gl i.op db.f (loudQ gl n before is)).q call j m E S F := by
          show ((@Bool.rec (fun _ => (Nat → AV) → DB → MIns → LQ → LQ) (fun gl d i ih => insL gl d i.op i.guard ih) (fun gl d i ih => @DB.rec (fun _ => (Nat → AV) → MOp → LQ → LQ) (fun f gl op ih => placeF gl op f ih) d gl i.op ih) (isA i) gl db i (loudQ gl n before is))).q call j m E S F = _
          rw [hi]
        show SimY g cx n before S s F acc (m' = g.r m ∧ g.n0 ≤ m) ((insA gl db i (loudQ gl n before is)).q call j m E S F) _
        rw [e1]
        show SimY g cx n before S s F acc (m' = g.r m ∧ g.n0 ≤ m) (@Option.rec (AV × Nat × List AV) (fun _ => FO) .bad (fun p => @Bool.rec (fun _ => FO) .bad ((loudQ gl n before is).q call (Nat.succ j) (Nat.succ m) (db.f p.1 E) S (⟨j, 1, m, S, S⟩ :: F)) (sameO ((S.at m).map FB.o) (some (.cells p.2.1 p.2.2)))) (placeo (fo gl E) i.op m)) _
        simp only [evLoud, hz]
        obtain ⟨e0, h0, rfl⟩ := hE
        rw [h0.fo gl, placeo_eq]
        cases hp : placeV gl e0 i.op m with
        | none => trivial
        | some p =>
          obtain ⟨v, zc⟩ := p
          obtain ⟨k1, k2⟩ := place_sv (g := g) hgl (hO i (by simp)) hp
          simp only
          cases hsm : sameO ((S.at m).map FB.o) (some (.cells zc.1 zc.2)) with
          | false => trivial
          | true =>
            refine pass (m2 := m' + 1) (Evo.refl S) (fun s1 acc1 h1 => ih (dB_put ⟨e0, h0, rfl⟩ hd v) hA' hO' h1) (fun hG hS hL hP => ⟨s, ⟨1, g.r m, s, s⟩, ?_, hS, hL.add ⟨rfl, fun _ => rfl, hS, hS, Evo.refl _⟩ hj.symm, by rw [g.nxt hP.2, hP.1], Nat.le_succ_of_le hP.2⟩)
            rw [hP.1, k1]
            simp only
            unfold placeR
            rw [if_pos]
            cases hb : S.at m with
            | none => rw [hb] at hsm; simp [sameO] at hsm
            | some x =>
              rw [hb] at hsm
              rw [hS.at_ m x hb]
              have := sameO_eq hsm
              simp only [Option.map_some, Option.some.injEq] at this
              rw [this]
              simp only [so, k2]
              exact fsameO_refl _
      | false =>
        have hz := haz i hi
        have e1 : (insA gl db i (loudQ gl n before is)).q call j m E S F = (insL gl db i.op i.guard (loudQ gl n before is)).q call j m E S F := by
          show ((@Bool.rec (fun _ => (Nat → AV) → DB → MIns → LQ → LQ) (fun gl d i ih => insL gl d i.op i.guard ih) (fun gl d i ih => @DB.rec (fun _ => (Nat → AV) → MOp → LQ → LQ) (fun f gl op ih => placeF gl op f ih) d gl i.op ih) (isA i) gl db i (loudQ gl n before is))).q call j m E S F = _
          rw [hi]
        show SimY g cx n before S s F acc (m' = g.r m ∧ g.n0 ≤ m) ((insA gl db i (loudQ gl n before is)).q call j m E S F) _
        rw [e1]
        obtain ⟨d, op, gd⟩ := i
        simp only [evLoud, hz]
        have st : SimY g cx n before S s F acc (m' = g.r m ∧ g.n0 ≤ m) (frL ((hB gl op).r call E S) gl op db.f (loudQ gl n before is) call j m E S F) (opR (ev1 gl call' e s op) fun v s' k => evLoud gl call' az is m' (e.put d v) s' (⟨k, blockOf gl e op, s, s'⟩ :: acc)) := by
          have hs := op_T (gl := gl) (S := S) (s := s) hgl hE hc op
          cases hr : (hB gl op).r call E S with
          | bad => trivial
          | ok v S1 k =>
            obtain ⟨h1, h2⟩ := hs.1 v S1 k hr
            have hbk := hs.2 v S1 k hr
            show SimY g cx n before S s F acc (m' = g.r m ∧ g.n0 ≤ m) ((loudQ gl n before is).q call (Nat.succ j) m (db.f v E) S1 (addR k j op (fo gl E) S S1 F)) _
            refine pass (m2 := m') h1 (fun s1 acc1 q1 => ih (dB_put hE hd v) hA' hO' q1) (fun hG hS hL hP => ?_)
            obtain ⟨s1, r1, r2⟩ := h2 hG hS
            refine ⟨s1, ⟨k, blockOf gl e op, s, s1⟩, by rw [r1]; rfl, r2, ?_, hP⟩
            cases k with
            | zero => exact hL.quiet rfl
            | succ k =>
              show RL g (⟨j, Nat.succ k, blkF (fo gl E) op, S, S1⟩ :: F) _
              exact hL.add ⟨rfl, fun hk => hbk hS hk, hS, r2, h1⟩ hj.symm
        cases gd with
        | none => exact st
        | some p =>
          obtain ⟨i, w⟩ := p
          refine gdY_sim hE st ?_
          exact pass (m2 := m') (Evo.refl S) (fun s1 acc1 h1 => ih (dB_put hE hd (.tup [])) hA' hO' h1) (fun hG hS hL hP => ⟨s, ⟨0, 0, s, s⟩, rfl, hS, hL.quiet rfl, hP⟩)
theorem res_ok (hgl : ∀ i, plainV (gl i) = true) {e0 : Env} {all : List MIns} : ∀ (ops : List MIns) {S : FS} {f : FS → FO}, (∀ i ∈ ops, okOp i.op = true) → (resF all ops).f (opd gl e0) S f ≠ .bad →
    ∃ S1, (resF all ops).f (opd gl e0) S f = f S1 ∧ Evo S S1 ∧ (∀ i ∈ ops, isA i = true → (allocZ gl (svL g e0) all i).isSome = true) ∧ ∀ s, RT g S s → RT g S1 (reserve (allocZ gl (svL g e0) all) ops s) := by
  intro ops
  induction ops with
  | nil => intro S f _ _; exact ⟨S, rfl, Evo.refl _, (fun i hi => by cases hi), fun s hS => hS⟩
  | cons i is ih =>
    intro S f hO h
    have hO' : ∀ i ∈ is, okOp i.op = true := fun i' hi' => hO i' (List.mem_cons_of_mem _ hi')
    cases hi : isA i with
    | false =>
      have e1 : (resF all (i :: is)).f (opd gl e0) S f = (resF all is).f (opd gl e0) S f := by
        show (@Bool.rec (fun _ => MIns → List MIns → SB → SB) (fun _ _ r => r) (fun i all r => ⟨fun o S f => @Option.rec (Nat × List AV) (fun _ => FO) .bad (fun zs => S.newO (.cells zs.1 zs.2) fun _ S' => r.f o S' f) (azo o all i)⟩) (isA i) i all (resF all is)).f (opd gl e0) S f = _
        rw [hi]
      rw [e1] at h ⊢
      obtain ⟨S1, h1, h2, h3, h4⟩ := ih hO' h
      refine ⟨S1, h1, h2, fun i' hi' hA => ?_, fun s hS => ?_⟩
      · rcases List.mem_cons.1 hi' with rfl | hi'
        · rw [hi] at hA; cases hA
        · exact h3 i' hi' hA
      · simp only [reserve, isA_none (gl := gl) (e := svL g e0) (is := all) hi]
        exact h4 s hS
    | true =>
      have e1 : (resF all (i :: is)).f (opd gl e0) S f = @Option.rec (Nat × List AV) (fun _ => FO) .bad (fun zs => S.newO (.cells zs.1 zs.2) fun _ S' => (resF all is).f (opd gl e0) S' f) (azo (opd gl e0) all i) := by
        show (@Bool.rec (fun _ => MIns → List MIns → SB → SB) (fun _ _ r => r) (fun i all r => ⟨fun o S f => @Option.rec (Nat × List AV) (fun _ => FO) .bad (fun zs => S.newO (.cells zs.1 zs.2) fun _ S' => r.f o S' f) (azo o all i)⟩) (isA i) i all (resF all is)).f (opd gl e0) S f = _
        rw [hi]
      rw [e1] at h ⊢
      rw [azo_eq] at h ⊢
      cases hz : allocZ gl e0 all i with
      | none => rw [hz] at h; exact absurd rfl h
      | some zs =>
        obtain ⟨k1, k2⟩ := alloc_sv (g := g) hgl (hO i (by simp)) hz
        rw [hz] at h
        simp only at h ⊢
        rw [newO_eq] at h ⊢
        obtain ⟨S1, h1, h2, h3, h4⟩ := ih hO' h
        refine ⟨S1, h1, (Evo.mk' _ _).trans h2, fun i' hi' hA => ?_, fun s hS => ?_⟩
        · rcases List.mem_cons.1 hi' with rfl | hi'
          · rw [k1]; rfl
          · exact h3 i' hi' hA
        · simp only [reserve, k1]
          have := hS.new (.cells zs.1 zs.2)
          simp only [so, k2] at this
          exact h4 _ this
end
end Go.Ab
/- The quick evaluator is right: code, functions. No conditions. -/
set_option linter.unusedSimpArgs false
set_option linter.unusedVariables false
set_option maxRecDepth 100000
namespace Go.Ab
open Go
section
variable {g : Sg} {cx : Nat → List AV → AV → Prop} {gl : Nat → AV} {call : FCall} {call' : Calls'} {n : Nat}
def SimO (g : Sg) (cx : Nat → List AV → AV → Prop) (n : Nat) (S : FS) (s : St) (r : FO) (q : Out) : Prop :=
  match r with
  | .bad => True
  | .nrm E' S' => Evo S S' ∧ (∃ e', ET g n E' e') ∧ (GoodT g cx S' → RT g S s → ∃ e' s', q = some (.nrm, e', s') ∧ ET g n E' e' ∧ RT g S' s')
  | .exit i E' S' => Evo S S' ∧ (∃ e', ET g n E' e') ∧ (GoodT g cx S' → RT g S s → ∃ e' s', q = some (.exit i, e', s') ∧ ET g n E' e' ∧ RT g S' s')
  | .ret E' S' => Evo S S' ∧ (∃ e', ET g n E' e') ∧ (GoodT g cx S' → RT g S s → ∃ e' s', q = some (.ret, e', s') ∧ ET g n E' e' ∧ RT g S' s')
theorem draw_sim (hgl : ∀ i, plainV (gl i) = true) (hc : CallT g cx call call') (ops : List MIns) (before : List Nat) {k : Nat} {E : FE} {e : Env} {S : FS} {s : St} (hE : ET g n E e) :
    SimO g cx n S s ((drawH gl ops (loudQ gl n before ops)).c k call E S) (drawR before (evLoud gl call' (allocZ gl e ops) ops s.next e (reserve (allocZ gl e ops) ops s) [])) := by
  show SimO g cx n S s ((@Bool.rec (fun _ => CB) ⟨fun _ _ _ _ => .bad⟩ (drawC gl ops (loudQ gl n before ops)) (ops.all fun i => okOp i.op)).c k call E S) _
  cases hO : (ops.all fun i => okOp i.op) with
  | false => trivial
  | true =>
  have hO : ∀ i ∈ ops, okOp i.op = true := List.all_eq_true.1 hO
  show SimO g cx n S s ((resF ops ops).f (fo gl E) S fun S' => (loudQ gl n before ops).q call 0 S.nx E S' []) _
  obtain ⟨e0, h0, rfl⟩ := hE
  rw [h0.fo gl]
  cases hr : (resF ops ops).f (opd gl e0) S fun S' => (loudQ gl n before ops).q call 0 S.nx E S' [] with
  | bad => trivial
  | _ =>
    obtain ⟨S1, h1, h2, h3, h4⟩ := res_ok (g := g) hgl ops (e0 := e0) (all := ops) (S := S) (f := fun S' => (loudQ gl n before ops).q call 0 S.nx E S' []) hO (by rw [hr]; exact fun h => by cases h)
    have hz : ∀ i, isA i = false → allocZ gl (svL g e0) ops i = none := fun i hi => isA_none hi
    have hL := fun s1 => loud_sim (gl := gl) (n := n) hgl hc (az := allocZ gl (svL g e0) ops) (before := before) hz ops (j := 0) (m := S.nx) (m' := s.next) (E := E) (e := svL g e0) (S := S1) (s := s1) (F := []) (acc := []) ⟨e0, h0, rfl⟩ h3 hO rfl
    rw [hr] at h1
    rw [← h1] at hL
    first
    | (refine ⟨h2.trans (hL s).1, (hL s).2.1, fun hG hS => ?_⟩
       obtain ⟨e', s', l, q1, q2, q3, q4⟩ := (hL _).2.2 hG (h4 s hS) RL.nil ⟨hS.nx, hS.n0⟩
       refine ⟨e', s', ?_, q3, q4⟩
       unfold drawR
       rw [q1]
       exact if_pos q2)
    | exact (hL s).elim
theorem mask_len : ∀ (l : List Bool) (e : Env), List.length (maskE l e) = List.length e := by
  intro l
  induction l with
  | nil => intro e; cases e <;> rfl
  | cons b l ih => intro e; cases e with
    | nil => rfl
    | cons v e => show List.length (_ :: maskE l e) = _; rw [List.length_cons, ih]; rfl
theorem mask_at : ∀ (l : List Bool) (e : Env) (i : Nat), l.length = List.length e → (maskE l e).at i = if l[i]? = some true then e.at i else .undef := by
  intro l
  induction l with
  | nil => intro e i h; cases e with
    | nil => simp [maskE, Env.at]
    | cons v e => simp at h
  | cons b l ih =>
    intro e i h
    cases e with
    | nil => simp at h
    | cons v e =>
      cases i with
      | zero => cases b <;> simp [maskE, Env.at]
      | succ i =>
        have := ih e i (by simpa using h)
        simp only [maskE, Env.at, List.getD_cons_succ, List.getElem?_cons_succ] at this ⊢
        exact this
theorem live_mem : ∀ (l : List Bool) (k i : Nat), i ∈ liveL l k ↔ ∃ j, i = k + j ∧ l[j]? = some true := by
  intro l
  induction l with
  | nil => intro k i; simp [liveL]
  | cons b l ih =>
    intro k i
    cases b with
    | false =>
      show i ∈ liveL l (k + 1) ↔ _
      rw [ih]
      constructor
      · rintro ⟨j, h1, h2⟩; exact ⟨j + 1, by omega, by simpa using h2⟩
      · rintro ⟨j, h1, h2⟩
        cases j with
        | zero => simp at h2
        | succ j => exact ⟨j, by omega, by simpa using h2⟩
    | true =>
      show i ∈ k :: liveL l (k + 1) ↔ _
      rw [List.mem_cons, ih]
      constructor
      · rintro (h | ⟨j, h1, h2⟩)
        · exact ⟨0, by omega, rfl⟩
        · exact ⟨j + 1, by omega, by simpa using h2⟩
      · rintro ⟨j, h1, h2⟩
        cases j with
        | zero => exact .inl (by omega)
        | succ j => exact .inr ⟨j, by omega, by simpa using h2⟩
theorem keepB_at (E : FE) : ∀ (l : List Nat) (i : Nat), (∀ j ∈ l, j < 256) → i < 256 → (rdN i).f ((keepB l).f E) = if i ∈ l then (rdN i).f E else .undef := by
  intro l
  induction l with
  | nil => intro i _ hi; simp; exact rd_nil hi
  | cons j l ih =>
    intro i hl hi
    show (rdN i).f ((wrN j).f ((rdN j).f E) ((keepB l).f E)) = _
    rw [rd_wr hi (hl j (by simp)), ih i (fun j hj => hl j (List.mem_cons_of_mem _ hj)) hi]
    by_cases e : i = j
    · subst e; simp
    · rw [if_neg e]
      simp [e]
theorem keep_ok0 {E : FE} {e : Env} {l : List Bool} (hE : RE n E e) (hl : l.length = n) : RE n (keepE E l) (maskE l e) := by
  refine ⟨by rw [mask_len]; exact hE.len, hE.le, fun i hi => ?_⟩
  show (rdN i).f ((keepB (liveL l 0)).f E) = _
  have hlt : ∀ j ∈ liveL l 0, j < 256 := fun j hj => by
    obtain ⟨a, h1, h2⟩ := (live_mem l 0 j).1 hj
    have := (List.getElem?_eq_some_iff.1 h2).1
    have := hE.le
    omega
  rw [keepB_at E _ i hlt hi, mask_at l e i (hl.trans hE.len.symm), hE.at_ i hi]
  by_cases h : l[i]? = some true
  · rw [if_pos h, if_pos ((live_mem l 0 i).2 ⟨i, by omega, h⟩)]
  · rw [if_neg h, if_neg (fun hm => by
      obtain ⟨a, h1, h2⟩ := (live_mem l 0 i).1 hm
      rw [show i = a by omega] at h
      exact h h2)]
theorem mask_sv : ∀ (l : List Bool) (e : Env), maskE l (svL g e) = svL g (maskE l e) := by
  intro l
  induction l with
  | nil => intro e; cases e <;> rfl
  | cons b l ih =>
    intro e
    cases e with
    | nil => rfl
    | cons v e => cases b <;> simp [svL, maskE, ih, sv]
theorem keep_ok {E : FE} {e : Env} {l : List Bool} (hE : ET g n E e) (hl : l.length = n) : ET g n (keepE E l) (maskE l e) := by
  obtain ⟨e0, h0, rfl⟩ := hE
  exact ⟨maskE l e0, keep_ok0 h0 hl, mask_sv l e0⟩
theorem seq_sim {S : FS} {s : St} {r : FO} {q : Out} {f : FE → FS → FO} {gg : Env → St → Out} (h : SimO g cx n S s r q) (hk : ∀ (E' : FE) (e' : Env) (S' : FS) (s' : St), ET g n E' e' → SimO g cx n S' s' (f E' S') (gg e' s')) : SimO g cx n S s (seqK r f) (seqR q gg) := by
  cases r with
  | bad => trivial
  | nrm E1 S1 =>
    show SimO g cx n S s (f E1 S1) _
    obtain ⟨h1, ⟨e0, h0⟩, h2⟩ := h
    have a0 := hk E1 e0 S1 s h0
    have fin : ∀ {x : Ex} {E2 : FE} {S2 : FS}, Evo S1 S2 → (∀ e' s', ET g n E1 e' → RT g S1 s' → GoodT g cx S2 → ∃ e2 s2, gg e' s' = some (x, e2, s2) ∧ ET g n E2 e2 ∧ RT g S2 s2) → GoodT g cx S2 → RT g S s → ∃ e2 s2, seqR q gg = some (x, e2, s2) ∧ ET g n E2 e2 ∧ RT g S2 s2 := by
      intro x E2 S2 he hx hG hS
      obtain ⟨e1, s1, q1, q2, q3⟩ := h2 (fun a ha => hG a (he.log a ha)) hS
      obtain ⟨e2, s2, r1, r2⟩ := hx e1 s1 q2 q3 hG
      exact ⟨e2, s2, by rw [q1]; exact r1, r2⟩
    cases hr : f E1 S1 with
    | bad => trivial
    | nrm E2 S2 =>
      rw [hr] at a0
      refine ⟨h1.trans a0.1, a0.2.1, fin a0.1 fun e' s' he hs hG => ?_⟩
      have a1 := hk E1 e' S1 s' he
      rw [hr] at a1
      exact a1.2.2 hG hs
    | exit i E2 S2 =>
      rw [hr] at a0
      refine ⟨h1.trans a0.1, a0.2.1, fin a0.1 fun e' s' he hs hG => ?_⟩
      have a1 := hk E1 e' S1 s' he
      rw [hr] at a1
      exact a1.2.2 hG hs
    | ret E2 S2 =>
      rw [hr] at a0
      refine ⟨h1.trans a0.1, a0.2.1, fin a0.1 fun e' s' he hs hG => ?_⟩
      have a1 := hk E1 e' S1 s' he
      rw [hr] at a1
      exact a1.2.2 hG hs
  | exit i E1 S1 =>
    obtain ⟨h1, h0, h2⟩ := h
    refine ⟨h1, h0, fun hG hS => ?_⟩
    obtain ⟨e', s', q1, q2⟩ := h2 hG hS
    exact ⟨e', s', by rw [q1]; rfl, q2⟩
  | ret E1 S1 =>
    obtain ⟨h1, h0, h2⟩ := h
    refine ⟨h1, h0, fun hG hS => ?_⟩
    obtain ⟨e', s', q1, q2⟩ := h2 hG hS
    exact ⟨e', s', by rw [q1]; rfl, q2⟩
theorem block_sim {S : FS} {s : St} {r : FO} {q : Out} (i : Nat) (h : SimO g cx n S s r q) : SimO g cx n S s (blockK i r) (blockR i q) := by
  cases r with
  | bad => trivial
  | nrm E1 S1 =>
    obtain ⟨h1, h0, h2⟩ := h
    refine ⟨h1, h0, fun hG hS => ?_⟩
    obtain ⟨e', s', q1, q2⟩ := h2 hG hS
    exact ⟨e', s', by rw [q1]; rfl, q2⟩
  | ret E1 S1 =>
    obtain ⟨h1, h0, h2⟩ := h
    refine ⟨h1, h0, fun hG hS => ?_⟩
    obtain ⟨e', s', q1, q2⟩ := h2 hG hS
    exact ⟨e', s', by rw [q1]; rfl, q2⟩
  | exit j E1 S1 =>
    obtain ⟨h1, h0, h2⟩ := h
    show SimO g cx n S s (@Bool.rec (fun _ => FO) (.exit j E1 S1) (.nrm E1 S1) (Nat.beq j i)) _
    cases hb : Nat.beq j i with
    | true =>
      have := beq_n hb
      subst this
      refine ⟨h1, h0, fun hG hS => ?_⟩
      obtain ⟨e', s', q1, q2⟩ := h2 hG hS
      exact ⟨e', s', by rw [q1]; simp only [blockR, if_true], q2⟩
    | false =>
      have hne : ¬ j = i := Nat.ne_of_beq_eq_false hb
      refine ⟨h1, h0, fun hG hS => ?_⟩
      obtain ⟨e', s', q1, q2⟩ := h2 hG hS
      exact ⟨e', s', by rw [q1]; simp only [blockR, if_neg hne], q2⟩
theorem iter_sim {f : FE → FS → FO} {gg : Env → St → Out} {live : List Bool} (hl : live.length = n) (hf : ∀ (E' : FE) (e' : Env) (S' : FS) (s' : St), ET g n E' e' → SimO g cx n S' s' (f E' S') (gg e' s')) :
    ∀ (k : Nat) (E : FE) (e : Env) (S : FS) (s : St), ET g n E e → SimO g cx n S s (fIter f live k E S) (iter gg live k e s) := by
  intro k
  induction k with
  | zero => intro E e S s hE; trivial
  | succ k ih =>
    intro E e S s hE
    exact seq_sim (hf _ _ S s (keep_ok hE hl)) fun E' e' S' s' hE' => ih E' e' S' s' hE'
theorem reg_sim {S : FS} {s : St} {r : FO} {q : Option (Env × St)} (h : SimX g cx n S s r q) : SimO g cx n S s r (regR q) := by
  cases r with
  | bad => trivial
  | nrm E1 S1 =>
    obtain ⟨h1, h0, h2⟩ := h
    refine ⟨h1, h0, fun hG hS => ?_⟩
    obtain ⟨e', s', q1, q2⟩ := h2 hG hS
    exact ⟨e', s', by rw [q1]; rfl, q2⟩
  | exit j E1 S1 => exact h.elim
  | ret E1 S1 => exact h.elim
theorem code_sim (hgl : ∀ i, plainV (gl i) = true) (hc : CallT g cx call call') (k : Nat) : ∀ (c : MC) (E : FE) (e : Env) (S : FS) (s : St), ET g n E e → SimO g cx n S s ((cB gl n c).c k call E S) (evC gl call' k c e s) := by
  intro c
  induction c with
  | skip => intro E e S s hE; exact ⟨Evo.refl _, ⟨e, hE⟩, fun _ hS => ⟨e, s, rfl, hE, hS⟩⟩
  | reg ops => intro E e S s hE; exact reg_sim (ops_sim hgl hc ops hE)
  | draw ops before => intro E e S s hE; exact draw_sim hgl hc ops before hE
  | seq a b iha ihb => intro E e S s hE; exact seq_sim (iha E e S s hE) fun E' e' S' s' hE' => ihb E' e' S' s' hE'
  | cond x a b iha ihb =>
    intro E e S s hE
    show SimO g cx n S s ((condV (fo gl E x) (cB gl n a) (cB gl n b)).c k call E S) (condR (opd gl e x) (evC gl call' k a e s) (evC gl call' k b e s))
    obtain ⟨e0, h0, rfl⟩ := hE
    rw [h0.fo gl]
    cases hq : opd gl e0 x with
    | bool c =>
      rw [opd_bool hq]
      cases c with
      | true => exact iha E _ S s ⟨e0, h0, rfl⟩
      | false => exact ihb E _ S s ⟨e0, h0, rfl⟩
    | _ => trivial
  | block i a ih => intro E e S s hE; exact block_sim i (ih E e S s hE)
  | loop live a ih =>
    intro E e S s hE
    show SimO g cx n S s ((@Bool.rec (fun _ => CB) ⟨fun _ _ _ _ => .bad⟩ (loopC live (cB gl n a)) (Nat.beq live.length n)).c k call E S) (iter (evC gl call' k a) live k e s)
    cases hb : Nat.beq live.length n with
    | false => trivial
    | true => exact iter_sim (beq_n hb) (fun E' e' S' s' hE' => ih E' e' S' s' hE') k E e S s hE
  | exit i => intro E e S s hE; exact ⟨Evo.refl _, ⟨e, hE⟩, fun _ hS => ⟨e, s, rfl, hE, hS⟩⟩
  | ret => intro E e S s hE; exact ⟨Evo.refl _, ⟨e, hE⟩, fun _ hS => ⟨e, s, rfl, hE, hS⟩⟩
/-! ### Functions -/
theorem resL_ok : ∀ (rs : List MRes) {E : FE} {e : Env} {S : FS} {f : List AV → FS → FR} {v : AV} {S' : FS} {k : Nat}, ET g n E e → resL rs E S f = .ok v S' k →
    ∃ us S1, f us S1 = .ok v S' k ∧ Evo S S1 ∧ ∀ s, RT g S s → ∃ s1, resVs e s rs = some (svL g us, s1) ∧ RT g S1 s1 := by
  intro rs
  induction rs with
  | nil => intro E e S f v S' k hE h; exact ⟨[], S, h, Evo.refl _, fun s hS => ⟨s, rfl, hS⟩⟩
  | cons r rs ih =>
    intro E e S f v S' k hE h
    have one : ∃ u S1, resL rs E S1 (fun vs S'' => f (u :: vs) S'') = .ok v S' k ∧ Evo S S1 ∧ ∀ s, RT g S s → ∃ s1, resV e s r = some (sv g u, s1) ∧ RT g S1 s1 := by
      cases r with
      | tmp size i =>
        have h : fzK size S (FE.at E i) (fun v S' => resL rs E S' fun vs S'' => f (v :: vs) S'') = .ok v S' k := h
        obtain ⟨u, S1, h1, h2, h3⟩ := fz_ok h
        refine ⟨u, S1, h1, h2, fun s hS => ?_⟩
        obtain ⟨s1, q1, q2⟩ := h3 _ hS.rs
        obtain ⟨s2, q3, q4⟩ := freeze_sv hS.emb q1
        exact ⟨s2, by simp only [resV, hE.at i]; exact q3, RT.of q2 q4⟩
      | cell i m =>
        have h : cellR E S i m (fun v S' => resL rs E S' fun vs S'' => f (v :: vs) S'') = .ok v S' k := h
        unfold cellR at h
        split at h
        · rename_i b q hx
          obtain ⟨z, cs, t, h1, h2⟩ := cellsK_ok h
          obtain ⟨u, h3, h4⟩ := optK_ok h2
          rw [cutQ_eq] at h3
          refine ⟨u, S, h4, Evo.refl _, fun s hS => ⟨s, ?_, hS⟩⟩
          have hx' := hE.at i
          rw [hx] at hx'
          simp only [sv] at hx'
          simp only [resV, hx', hS.at_ b _ h1, so, cut_sv h3]
        · cases h
    obtain ⟨u, S1, h1, h2, h3⟩ := one
    obtain ⟨us, S2, g1, g2, g3⟩ := ih hE h1
    refine ⟨u :: us, S2, g1, h2.trans g2, fun s hS => ?_⟩
    obtain ⟨s1, q1, q2⟩ := h3 s hS
    obtain ⟨s2, r1, r2⟩ := g3 s1 q2
    exact ⟨s2, by simp only [resVs, q1, r1, svL], r2⟩
theorem env_len (args : List AV) (n : Nat) (h : args.length ≤ n) : List.length (env0 n args) = n := by unfold env0; simp; omega
theorem lenK_eq (args : List AV) : lenK args = args.length := lenQ_eq args
theorem envK_at : ∀ (args : List AV) (i j : Nat), i + args.length ≤ 256 → j < 256 → (rdN j).f (envK args i) = if i ≤ j then args.getD (j - i) .undef else .undef := by
  intro args
  induction args with
  | nil => intro i j _ hj; show (rdN j).f N16.nil = _; rw [rd_nil hj]; simp
  | cons v args ih =>
    intro i j h hj
    rw [List.length_cons] at h
    show (rdN j).f ((wrN i).f v (envK args (i + 1))) = _
    rw [rd_wr hj (by omega), ih (i + 1) j (by omega) hj]
    by_cases e : j = i
    · subst e; simp
    · rw [if_neg e]
      by_cases h1 : i + 1 ≤ j
      · rw [if_pos h1, if_pos (by omega), show j - i = (j - (i + 1)) + 1 by omega, List.getD_cons_succ]
      · rw [if_neg h1, if_neg (by omega)]
theorem env_ok0 {args : List AV} (h : args.length ≤ n) (hn : n ≤ 256) : RE n (envK args 0) (env0 n args) := by
  refine ⟨env_len args n h, hn, fun i hi => ?_⟩
  rw [envK_at args 0 i (by omega) hi, if_pos (Nat.zero_le _), Nat.sub_zero]
  unfold env0 Env.at
  rw [List.getD_eq_getElem?_getD, List.getD_eq_getElem?_getD, List.getElem?_append]
  split
  · rfl
  · rename_i hge
    rw [List.getElem?_eq_none (by omega), List.getElem?_replicate]
    split <;> rfl
theorem env_ok {args : List AV} (h : args.length ≤ n) (hn : n ≤ 256) : ET g n (envK args 0) (env0 n (svL g args)) := by
  refine ⟨env0 n args, env_ok0 h hn, ?_⟩
  unfold env0
  rw [svL_app, svL_len]
  congr 1
  generalize n - args.length = m
  induction m with
  | zero => rfl
  | succ m ih => rw [List.replicate_succ, svL, ← ih]; rfl
theorem oneOr_sv (us : List AV) : oneOr (svL g us) = sv g (oneOr us) := by
  cases us with
  | nil => rfl
  | cons u us => cases us <;> rfl
theorem out_ok {E : FE} {e : Env} {S : FS} {rs : List MRes} {v : AV} {S' : FS} {k : Nat} (hE : ET g n E e) (h : resL rs E S outE = .ok v S' k) : Evo S S' ∧ ∀ s, RT g S s → ∃ us s1, resVs e s rs = some (us, s1) ∧ oneOr us = sv g v ∧ RT g S' s1 := by
  obtain ⟨us, S1, h1, h2, h3⟩ := resL_ok rs hE h
  cases h1
  refine ⟨h2, fun s hS => ?_⟩
  obtain ⟨s1, q1, q2⟩ := h3 s hS
  exact ⟨svL g us, s1, q1, oneOr_sv us, q2⟩
/-- A function's body. -/
theorem run_sim (hgl : ∀ i, plainV (gl i) = true) (hc : CallT g cx call call') (m : MFun) (k : Nat) {args : List AV} {S : FS} {v : AV} {S' : FS} {kk : Nat} (h : runM m gl k call args S = .ok v S' kk) :
    Evo S S' ∧ ∀ s, GoodT g cx S' → RT g S s → ∃ s', outR m.res (evC gl call' k m.body (env0 m.ntmps (svL g args)) s) = some (sv g v, s') ∧ RT g S' s' := by
  obtain ⟨n, res, body⟩ := m
  have h : (@Bool.rec (fun _ => FR) .bad (outK ((cB gl n body).c k call (envK args 0) S) res) (Nat.ble (lenK args) n && Nat.ble n 256)) = .ok v S' kk := h
  cases hb : (Nat.ble (lenK args) n && Nat.ble n 256) with
  | false => rw [hb] at h; cases h
  | true =>
    rw [hb] at h
    rw [Bool.and_eq_true, lenK_eq] at hb
    have hE := env_ok (g := g) (ble_le hb.1) (ble_le hb.2)
    have hs := fun s => code_sim (gl := gl) hgl hc k body (envK args 0) (env0 n (svL g args)) S s hE
    cases hr : (cB gl n body).c k call (envK args 0) S with
    | bad => rw [hr] at h; cases h
    | exit i E1 S1 => rw [hr] at h; cases h
    | nrm E1 S1 =>
      rw [hr] at h
      have hs' := fun s => by have := hs s; rw [hr] at this; exact this
      have h : resL res E1 S1 outE = .ok v S' kk := h
      have h0 := hs' ⟨[], 0⟩
      obtain ⟨e0, he0⟩ := h0.2.1
      obtain ⟨g1, _⟩ := out_ok he0 h
      refine ⟨h0.1.trans g1, fun s hG hS => ?_⟩
      obtain ⟨e1, s1, q1, q2, q3⟩ := (hs' s).2.2 (fun a ha => hG a (g1.log a ha)) hS
      obtain ⟨us, s2, r1, r2, r3⟩ := (out_ok q2 h).2 s1 q3
      exact ⟨s2, by simp only [q1, outR, r1, r2], r3⟩
    | ret E1 S1 =>
      rw [hr] at h
      have hs' := fun s => by have := hs s; rw [hr] at this; exact this
      have h : resL res E1 S1 outE = .ok v S' kk := h
      have h0 := hs' ⟨[], 0⟩
      obtain ⟨e0, he0⟩ := h0.2.1
      obtain ⟨g1, _⟩ := out_ok he0 h
      refine ⟨h0.1.trans g1, fun s hG hS => ?_⟩
      obtain ⟨e1, s1, q1, q2, q3⟩ := (hs' s).2.2 (fun a ha => hG a (g1.log a ha)) hS
      obtain ⟨us, s2, r1, r2, r3⟩ := (out_ok q2 h).2 s1 q3
      exact ⟨s2, by simp only [q1, outR, r1, r2], r3⟩
/-- What stands in place of a function. -/
def XSim (g : Sg) (cx : Nat → List AV → AV → Prop) (X : Nat → Option (List AV → FS → FR)) (ext : Nat → Option (List AV → St → Option (AV × St))) : Prop :=
  ∀ f, (X f = none → ext f = none) ∧ ∀ h, X f = some h → ∃ h', ext f = some h' ∧ ∀ args S v S' k, h args S = .ok v S' k → Evo S S' ∧ ∀ s, GoodT g cx S' → RT g S s → ∃ s', h' (svL g args) s = some (sv g v, s') ∧ RT g S' s'
theorem fun_sim (hgl : ∀ i, plainV (gl i) = true) {F F' : Nat → Option MFun} {X : Nat → Option (List AV → FS → FR)} {ext : Nat → Option (List AV → St → Option (AV × St))} (hF : ∀ f m, F f = some m → F' f = some m) (hX : XSim g cx X ext) : ∀ k, CallT g cx (fF gl F X k) (evF gl F' ext k) := by
  intro k
  induction k with
  | zero => intro f args S v S' kk h; cases h
  | succ k ih =>
    intro f args S v S' kk h
    obtain ⟨x1, x2⟩ := hX f
    cases hx : X f with
    | some h0 =>
      have h : h0 args S = .ok v S' kk := by
        have h : (@Option.rec (List AV → FS → FR) (fun _ => Option MFun → (Nat → AV) → Nat → FCall → List AV → FS → FR)
          (fun m gl k ih args S => @Option.rec MFun (fun _ => (Nat → AV) → Nat → FCall → List AV → FS → FR) (fun _ _ _ _ _ => .bad) runM m gl k ih args S) (fun h _ _ _ _ args S => h args S) (X f) (F f) gl k (fF gl F X k) args S) = .ok v S' kk := h
        rw [hx] at h; exact h
      obtain ⟨h', e1, e2⟩ := x2 h0 hx
      obtain ⟨g1, g2⟩ := e2 args S v S' kk h
      refine ⟨g1, fun s hG hS => ?_⟩
      obtain ⟨s', q1, q2⟩ := g2 s hG hS
      exact ⟨s', by simp only [evF, e1]; exact q1, q2⟩
    | none =>
      have e1 := x1 hx
      have h : (@Option.rec MFun (fun _ => (Nat → AV) → Nat → FCall → List AV → FS → FR) (fun _ _ _ _ _ => .bad) runM (F f) gl k (fF gl F X k) args S) = .ok v S' kk := by
        have h : (@Option.rec (List AV → FS → FR) (fun _ => Option MFun → (Nat → AV) → Nat → FCall → List AV → FS → FR)
          (fun m gl k ih args S => @Option.rec MFun (fun _ => (Nat → AV) → Nat → FCall → List AV → FS → FR) (fun _ _ _ _ _ => .bad) runM m gl k ih args S) (fun h _ _ _ _ args S => h args S) (X f) (F f) gl k (fF gl F X k) args S) = .ok v S' kk := h
        rw [hx] at h; exact h
      cases hm : F f with
      | none => rw [hm] at h; cases h
      | some m =>
        rw [hm] at h
        obtain ⟨g1, g2⟩ := run_sim hgl ih m k h
        refine ⟨g1, fun s hG hS => ?_⟩
        obtain ⟨s', q1, q2⟩ := g2 s hG hS
        exact ⟨s', by simp only [evF, e1, hF f m hm]; exact q1, q2⟩
end
end Go.Ab
