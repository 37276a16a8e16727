/- The quick evaluator with unknowns is right: every operation. No conditions. -/
import Derived.Test.YtgflghhffmjojaaGreatDoorHp
import Derived.Test.YtgflghhffmjojaaGreatDoorHe
import Derived.Test.YtgflghhffmjojaaGreatDoorAbE
set_option linter.unusedSimpArgs false
set_option linter.unusedVariables false
set_option linter.unusedSectionVars false
set_option maxRecDepth 100000
namespace Go.Ab
open Go
/-- What was said is so. cx: what functions answer. -/
def NtOk (g : Sg) (cx : Nat → List AV → AV → Prop) : Nt → Prop
  | .bin op x y t => binV op (sv g x) (sv g y) = some (sv g t)
  | .un op x t => unV op (sv g x) = some (sv g t)
  | .conv c x t => convP c (sv g x) = some (sv g t)
  | .s2b x t => ∃ b, sv g x = .str b ∧ b.length ≤ 140737488355328 ∧ sv g t = .sl (bytesAV b) b.length none
  | .eqv neg q x y t => ∃ b, eqAV q (sv g x) (sv g y) = some b ∧ sv g t = .bool (if neg then !b else b)
  | .lens x t => ∃ b, sv g x = .str b ∧ sv g t = .int .i64 b.length
  | .len x t => ∃ cs n tk, sv g x = .sl cs n tk ∧ sv g t = .int .i64 n
  | .mn xs t => ∃ x ys, svL g xs = x :: ys ∧ isNum x = true ∧ foldV mnV x ys = some (sv g t)
  | .mx xs t => ∃ x ys, svL g xs = x :: ys ∧ isNum x = true ∧ foldV mxV x ys = some (sv g t)
  | .ixs x i t => ∃ b j c, sv g x = .str b ∧ idx b.length (sv g i) = some j ∧ b[j]? = some c ∧ sv g t = .int .u8 c.toNat
  | .sls x lo hi t => slcS (sv g x) (lo.map (sv g)) (hi.map (sv g)) = some (sv g t)
  | .slc z x lo hi t => slcV z (sv g x) (lo.map (sv g)) (hi.map (sv g)) = some (sv g t)
  | .ixa z x i t => ∃ cs n tk j, sv g x = .sl cs n tk ∧ idx n (sv g i) = some j ∧ sv g t = .rp (cs.drop (j * z))
  | .load n x t => ∃ cs, sv g x = .rp cs ∧ Ab.cut cs 0 n = some (sv g t)
  | .app size bytes x y t => ∃ cs n ds m, ((x = .nils ∧ cs = [] ∧ n = 0) ∨ ∃ tk, sv g x = .sl cs n tk) ∧ ((sv g y = .nils ∧ ds = [] ∧ m = 0) ∨ (∃ tk, sv g y = .sl ds m tk ∧ ds.length = m * size) ∨ ∃ b, sv g y = .str b ∧ size = 1 ∧ ds = bytesAV b ∧ m = b.length) ∧ m ≠ 0 ∧ cs.length = n * size ∧ fits (n + m) bytes = true ∧ sv g t = .sl (cs ++ ds) (n + m) none
  | .call f args t => cx f (svL g args) (sv g t)
structure RT (g : Sg) (S : FS) (s : St) : Prop where
  nx : s.next = g.r S.nx
  n0 : g.n0 ≤ S.nx
  at_ : ∀ b x, S.at b = some x → s.get (g.r b) = some (so g x.o)
  lt : ∀ b x, S.at b = some x → b < S.nx
  inj : ∀ a b x y, S.at a = some x → S.at b = some y → g.r a = g.r b → a = b
  wf : ∀ j, s.next ≤ j → s.get j = none
  ts : ∀ b x, S.at b = some x → x.t < S.ck
noncomputable def stOf (S : FS) : St := ⟨(List.range S.nx).filterMap fun b => (S.at b).map fun x => (b, x.o), S.nx⟩
theorem getH_of (f : Nat → Option FB) (b : Nat) : ∀ l : List Nat, getH (l.filterMap fun b => (f b).map fun x => (b, x.o)) b = if b ∈ l then (f b).map FB.o else none := by
  intro l
  induction l with
  | nil => simp [getH]
  | cons a l ih =>
    rw [List.filterMap_cons]
    cases hf : f a with
    | none =>
      simp only [Option.map_none]
      rw [ih]
      by_cases e : b = a
      · subst e; simp [hf]
      · simp [e]
    | some x =>
      simp only [Option.map_some, getH]
      by_cases e : a = b
      · subst e; simp [hf]
      · rw [if_neg e, ih]
        have : ¬ b = a := fun h => e h.symm
        simp [this]
section
variable {g : Sg} {cx : Nat → List AV → AV → Prop} {gl : Nat → AV} {call : FCall} {call' : Calls'} {n : Nat} {E : FE} {e : Env} {S : FS} {s : St}
theorem stOf_get (h : ∀ b x, S.at b = some x → b < S.nx) (b : Nat) : (stOf S).get b = (S.at b).map FB.o := by
  show getH ((List.range S.nx).filterMap fun b => (S.at b).map fun x => (b, x.o)) b = _
  rw [getH_of]
  split
  · rfl
  · rename_i hb
    cases hq : S.at b with
    | none => rfl
    | some x => exact absurd (List.mem_range.2 (h b x hq)) hb
theorem RT.rs (h : RT g S s) : RS S (stOf S) := by
  refine ⟨rfl, fun b x hb => by rw [stOf_get h.lt, hb]; rfl, fun j hj => ?_, h.ts⟩
  have hj : S.nx ≤ j := hj
  rw [stOf_get h.lt]
  cases hq : S.at j with
  | none => rfl
  | some x => exact absurd (h.lt j x hq) (by omega)
theorem RT.emb (h : RT g S s) : Emb g (stOf S) s := by
  have hg : ∀ b o, (stOf S).get b = some o → ∃ x, S.at b = some x ∧ x.o = o := fun b o hb => by
    rw [stOf_get h.lt] at hb
    cases hq : S.at b with
    | none => rw [hq] at hb; cases hb
    | some x => rw [hq] at hb; cases hb; exact ⟨x, rfl, rfl⟩
  refine ⟨h.nx, h.n0, fun b o hb => ?_, fun a b o p ha hb hr => ?_, h.wf⟩
  · obtain ⟨x, h1, rfl⟩ := hg b o hb; exact h.at_ b x h1
  · obtain ⟨x, h1, _⟩ := hg a o ha
    obtain ⟨y, h2, _⟩ := hg b p hb
    exact h.inj a b x y h1 h2 hr
theorem RT.of {s0 : St} (h : RS S s0) (hE : Emb g s0 s) : RT g S s := by
  refine ⟨by rw [hE.nx, h.nx], by rw [h.nx]; exact hE.n0, fun b x hb => hE.get b _ (h.at_ b x hb), fun b x hb => ?_, fun a b x y ha hb hr => hE.inj a b _ _ (h.at_ a x ha) (h.at_ b y hb) hr, hE.wf, h.ts⟩
  by_cases hl : b < S.nx
  · exact hl
  · have := h.wf b (by rw [← h.nx]; omega)
    rw [h.at_ b x hb] at this; cases this
/-- The environment, with what is put in the unknowns' stead. -/
def ET (g : Sg) (n : Nat) (E : FE) (e : Env) : Prop := ∃ e0, RE n E e0 ∧ e = svL g e0
theorem ET.at (h : ET g n E e) (i : Nat) : e.at i = sv g (FE.at E i) := by
  obtain ⟨e0, h0, rfl⟩ := h
  rw [at_sv, h0.fe]
def GoodT (g : Sg) (cx : Nat → List AV → AV → Prop) (S : FS) : Prop := GoodL (NtOk g cx) S
def SimT (g : Sg) (cx : Nat → List AV → AV → Prop) (S : FS) (s : St) (r : FR) (q : Option (AV × St × Nat)) : Prop :=
  ∀ v S' k, r = .ok v S' k → Evo S S' ∧ (GoodT g cx S' → RT g S s → ∃ s', q = some (sv g v, s', k) ∧ RT g S' s')
def CallT (g : Sg) (cx : Nat → List AV → AV → Prop) (call : FCall) (call' : Calls') : Prop :=
  ∀ f args S v S' k, call f args S = .ok v S' k → Evo S S' ∧ ∀ s, GoodT g cx S' → RT g S s → ∃ s', call' f (svL g args) s = some (sv g v, s') ∧ RT g S' s'
def noCall (m : MOp) : Prop := (∀ f a, m ≠ .call f a) ∧ ∀ x a, m ≠ .callv x a
theorem oB_call {m : MOp} (h : noCall m) (c1 c2 : FCall) (E : FE) (S : FS) : (oB gl m).r c1 E S = (oB gl m).r c2 E S := by
  cases m <;> first | rfl | exact absurd rfl (h.1 _ _) | exact absurd rfl (h.2 _ _) | (rename_i op x; cases op <;> rfl) | (rename_i q x y; cases q <;> rfl) | (rename_i op x y; cases op <;> rfl)
theorem blk_sv (hgl : ∀ i, plainV (gl i) = true) {e : Env} {m : MOp} (hm : okOp m = true) {s0 : St} {v : AV} (h : evR gl e s0 m = some v) : blockOf gl (svL g e) m = g.r (blockOf gl e m) := by
  cases m <;> first | (cases h; done) | skip
  · rename_i c x
    simp only [evR, blockOf, opd_sv hgl (x := x) hm] at h ⊢
    generalize opd gl e x = a at h ⊢
    cases a <;> first | (cases h; done) | rfl
  · rename_i n x
    simp only [evR, blockOf, opd_sv hgl (x := x) hm] at h ⊢
    generalize opd gl e x = a at h ⊢
    cases a <;> first | (cases h; done) | rfl
theorem plain_T (hgl : ∀ i, plainV (gl i) = true) {e0 : Env} (hE : RE n E e0) {m : MOp} (hm : okOp m = true) (hc : noCall m) (hn : ∀ x, m = .nchk x → notLf (opd gl e0 x) = true) {v : AV} {S' : FS} {k : Nat} (h : (oB gl m).r call E S = .ok v S' k) :
    Evo S S' ∧ (RT g S s → ∃ s', ev1 gl call' (svL g e0) s m = some (sv g v, s', k) ∧ RT g S' s' ∧ (k = 1 → blockOf gl (svL g e0) m = g.r (blkF (fo gl E) m))) := by
  rw [oB_call hc call (fun _ _ _ => .bad)] at h
  have key := fun s0 => op_sim (G := fun _ => True) (gl := gl) (call := fun _ _ _ => .bad) (call' := fun _ _ _ => none) (S := S) (s := s0) hE (fun f args S v S' k h => by cases h) m v S' k h
  refine ⟨(key ⟨[], 0⟩).1, fun hS => ?_⟩
  obtain ⟨s0', h1, h2⟩ := (key (stOf S)).2 (fun _ _ => trivial) hS.rs
  obtain ⟨s', h3, h4⟩ := ev1_sv (c := call') hgl hS.emb hS.rs.wf hm hc.1 hc.2 hn h1
  refine ⟨s', h3, RT.of h2 h4, fun hk => ?_⟩
  subst hk
  cases q1 : evP gl e0 m with
  | some w => simp only [ev1, q1] at h1; cases h1
  | none =>
    cases q2 : evR gl e0 (stOf S) m with
    | some w =>
      rw [blk_sv hgl hm q2, hE.fo gl]
      cases m <;> rfl
    | none =>
      have : ∃ p, evW gl e0 (stOf S) m = some p ∧ loudOf m = 1 := by
        cases m <;> first | exact absurd rfl (hc.1 _ _) | exact absurd rfl (hc.2 _ _) | skip
        all_goals
          simp only [ev1, q1, q2] at h1
          split at h1
          · rename_i v2 s2 hq
            cases h1
          · cases h1
      obtain ⟨p, _, hl⟩ := this
      cases m <;> cases hl
/-! ### What an oracle says -/
structure Pop (S S1 : FS) (a : Nt) : Prop where
  at_ : ∀ b, S1.at b = S.at b
  nx : S1.nx = S.nx
  ck : S1.ck = S.ck
  notes : S1.log.notes = a :: S.log.notes
theorem pop_ok {mk : AV → Nt} {w : AV → FS → FR} {v : AV} {S' : FS} {k : Nat} (h : popN S mk w = .ok v S' k) : ∃ t S1, Pop S S1 (mk t) ∧ w t S1 = .ok v S' k := by
  obtain ⟨hh, nx, ck, ⟨notes, orc⟩⟩ := S
  cases orc with
  | nil => cases h
  | cons t ts => exact ⟨t, ⟨hh, nx, ck, ⟨mk t :: notes, ts⟩⟩, ⟨fun _ => rfl, rfl, rfl, rfl⟩, h⟩
theorem Pop.evo {S1 : FS} {a : Nt} (h : Pop S S1 a) : Evo S S1 :=
  ⟨by rw [h.ck]; exact Nat.le_refl _, by rw [h.nx]; exact Nat.le_refl _, fun b x hb _ => by rw [h.at_] at hb; exact hb, fun c hc => by rw [h.notes]; exact List.mem_cons_of_mem _ hc⟩
theorem Pop.rt {S1 : FS} {a : Nt} (h : Pop S S1 a) (hS : RT g S s) : RT g S1 s :=
  ⟨by rw [h.nx]; exact hS.nx, by rw [h.nx]; exact hS.n0, fun b x hb => hS.at_ b x (by rw [← h.at_]; exact hb), fun b x hb => by rw [h.nx]; exact hS.lt b x (by rw [← h.at_]; exact hb),
   fun a b x y ha hb hr => hS.inj a b x y (by rw [← h.at_]; exact ha) (by rw [← h.at_]; exact hb) hr, hS.wf, fun b x hb => by rw [h.ck]; exact hS.ts b x (by rw [← h.at_]; exact hb)⟩
theorem Pop.good {S1 : FS} {a : Nt} (h : Pop S S1 a) (hG : GoodT g cx S1) : NtOk g cx a := hG a (by rw [h.notes]; simp)
theorem RT.new (h : RT g S s) (o : Obj) : RT g (S.mk' o) (s.new (so g o)) := RT.of (h.rs.new o) (h.emb.new o h.rs.wf)
theorem RT.upd (h : RT g S s) {b : Nat} {x : FB} (hb : S.at b = some x) (o : Obj) : RT g (S.upd b o) (s.upd (g.r b) (so g o)) :=
  RT.of (h.rs.upd hb o) (h.emb.upd (h.rs.at_ b x hb) o)
theorem sv_lf {t : AV} (h : isLf t = true) : ∃ f, t = .clo f [] ∧ ¬ f < bigN := by
  cases t <;> first | (cases h; done) | skip
  rename_i f cs
  cases cs with
  | nil => exact ⟨f, rfl, Nat.not_lt.2 (ble_le h)⟩
  | cons c cs => cases h
theorem sv_tkd {t : AV} (h : isLf t = true) {cs : List AV} {m : Nat} (hs : sv g t = .sl cs m none) (b v z : Nat) : sv g (tkd t b v z) = .sl cs m (some (g.r b, v, z)) := by
  obtain ⟨f, rfl, hf⟩ := sv_lf h
  simp only [sv, if_neg hf, lfT] at hs
  simp only [tkd, sv, if_neg hf, lfT, hs]
theorem leaf_T (hgl : ∀ i, plainV (gl i) = true) {e0 : Env} (hE : RE n E e0) {m : MOp} (hm : okOp m = true) {v : AV} {S' : FS} {k : Nat} (h : leafF m (fo gl E) S = .ok v S' k) :
    k ≠ 1 ∧ Evo S S' ∧ (GoodT g cx S' → RT g S s → ∃ s', ev1 gl call' (svL g e0) s m = some (sv g v, s', k) ∧ RT g S' s') := by
  rw [hE.fo gl] at h
  -- an answer that turns nothing
  have pure : ∀ {mk : AV → Nt}, popN S mk (okt 0) = .ok v S' k → (∀ t, NtOk g cx (mk t) → evP gl (svL g e0) m = some (sv g t)) → k ≠ 1 ∧ Evo S S' ∧ (GoodT g cx S' → RT g S s → ∃ s', ev1 gl call' (svL g e0) s m = some (sv g v, s', k) ∧ RT g S' s') := by
    intro mk h hk
    obtain ⟨t, S1, h1, h2⟩ := pop_ok h
    cases h2
    exact ⟨by decide, h1.evo, fun hG hS => ⟨s, by simp only [ev1, hk _ (h1.good hG)], h1.rt hS⟩⟩
  cases m with
  | bin op x y =>
    simp only [okOp, Bool.and_eq_true] at hm
    exact pure h fun t ht => by simp only [evP, opd_sv hgl hm.1, opd_sv hgl hm.2]; exact ht
  | un op x => exact pure h fun t ht => by simp only [evP, opd_sv hgl (x := x) hm]; exact ht
  | conv c x =>
    by_cases hc : c = .s2b
    · subst hc
      obtain ⟨t, S1, h1, h2⟩ := pop_ok h
      cases h2
      refine ⟨by decide, h1.evo, fun hG hS => ⟨s, ?_, h1.rt hS⟩⟩
      obtain ⟨b, q1, q2, q3⟩ := h1.good hG
      have p1 : evP gl (svL g e0) (.conv .s2b x) = none := by simp only [evP, opd_sv hgl (x := x) hm, q1]; rfl
      have p2 : evR gl (svL g e0) s (.conv .s2b x) = none := by simp only [evR, opd_sv hgl (x := x) hm, q1]
      have p3 : evW gl (svL g e0) s (.conv .s2b x) = some (.sl (bytesAV b) b.length none, s) := by simp only [evW, opd_sv hgl (x := x) hm, q1]; rw [if_pos q2]
      simp only [ev1, p1, p2, p3, q3]; rfl
    · have h : popN S (.conv c (opd gl e0 x)) (okt 0) = .ok v S' k := by cases c <;> first | exact absurd rfl hc | exact h
      exact pure h fun t ht => by simp only [evP, opd_sv hgl (x := x) hm]; exact ht
  | eqv neg q x y =>
    simp only [okOp, Bool.and_eq_true] at hm
    refine pure h fun t ht => ?_
    obtain ⟨b, h1, h2⟩ := ht
    simp only [evP, opd_sv hgl hm.1, opd_sv hgl hm.2, h1, h2]
  | lens x =>
    refine pure h fun t ht => ?_
    obtain ⟨b, h1, h2⟩ := ht
    simp only [evP, opd_sv hgl (x := x) hm, h1, h2]
  | len x =>
    refine pure h fun t ht => ?_
    obtain ⟨cs, m, tk, h1, h2⟩ := ht
    simp only [evP, opd_sv hgl (x := x) hm, h1, h2]
  | mn xs =>
    refine pure h fun t ht => ?_
    obtain ⟨x, ys, h1, h2, h3⟩ := ht
    simp only [evP, opds_sv hgl (l := xs) hm, h1]
    rw [if_pos h2, h3]
  | mx xs =>
    refine pure h fun t ht => ?_
    obtain ⟨x, ys, h1, h2, h3⟩ := ht
    simp only [evP, opds_sv hgl (l := xs) hm, h1]
    rw [if_pos h2, h3]
  | ixs x i =>
    simp only [okOp, Bool.and_eq_true] at hm
    refine pure h fun t ht => ?_
    obtain ⟨b, j, c, h1, h2, h3, h4⟩ := ht
    simp only [evP, opd_sv hgl hm.1, opd_sv hgl hm.2, h1, h2, h3, h4]
  | sls x lo hi =>
    simp only [okOp, Bool.and_eq_true] at hm
    exact pure h fun t ht => by simp only [evP, opd_sv hgl hm.1, opdo_sv hgl hm.2.1, opdo_sv hgl hm.2.2]; exact ht
  | slc z x lo hi =>
    simp only [okOp, Bool.and_eq_true] at hm
    exact pure h fun t ht => by simp only [evP, opd_sv hgl hm.1, opdo_sv hgl hm.2.1, opdo_sv hgl hm.2.2]; exact ht
  | ixa z x i =>
    simp only [okOp, Bool.and_eq_true] at hm
    refine pure h fun t ht => ?_
    obtain ⟨cs, m, tk, j, h1, h2, h3⟩ := ht
    simp only [evP, opd_sv hgl hm.1, opd_sv hgl hm.2, h1, h2, h3]
  | load m x =>
    refine pure h fun t ht => ?_
    obtain ⟨cs, h1, h2⟩ := ht
    simp only [evP, opd_sv hgl (x := x) hm, h1, h2]
  | app hp size bytes x y =>
    simp only [okOp, Bool.and_eq_true] at hm
    have h : bK hp .bad (appL size bytes (opd gl e0 x) (opd gl e0 y) S) = .ok v S' k := h
    rcases bK_ok h with ⟨_, h⟩ | ⟨hh, hA⟩
    · cases h
    · subst hh
      clear h
      have step : ∀ s', (∃ ds m, newsOf size s (sv g (opd gl e0 y)) = some (ds, m) ∧ appS size bytes s (sv g (opd gl e0 x)) ds m = some (sv g v, s')) → ev1 gl call' (svL g e0) s (.app false size bytes x y) = some (sv g v, s', 2) := by
        intro s' ⟨ds, m, h1, h2⟩
        simp only [ev1, evP, evR, evW, opd_sv hgl hm.1, opd_sv hgl hm.2, h1, Bool.false_and, Bool.false_eq_true, if_false, h2, loudOf]
      have news : ∀ {ds : List AV} {m : Nat}, ((sv g (opd gl e0 y) = .nils ∧ ds = [] ∧ m = 0) ∨ (∃ tk, sv g (opd gl e0 y) = .sl ds m tk ∧ ds.length = m * size) ∨ ∃ b, sv g (opd gl e0 y) = .str b ∧ size = 1 ∧ ds = bytesAV b ∧ m = b.length) → newsOf size s (sv g (opd gl e0 y)) = some (ds, m) := by
        intro ds m hy
        rcases hy with ⟨h1, rfl, rfl⟩ | ⟨tk, h1, h2⟩ | ⟨b, h1, h2, rfl, rfl⟩
        · rw [h1]; rfl
        · rw [h1]; simp only [newsOf]; rw [if_pos h2]
        · rw [h1]; simp only [newsOf]; rw [if_pos h2]
      have two : ∀ {b u : Nat}, (tickK S b fun z v' => bK (Nat.beq z size && Nat.beq u v') (popN S (.app size bytes (opd gl e0 x) (opd gl e0 y)) fun t S' => bK (isLf t) (.ok (tkd t b (Nat.succ u) size) (S'.upd b (.tick size (Nat.succ u))) 2) .bad) .bad) = .ok v S' k →
          (∀ cs m, (opd gl e0 x = .nils ∧ cs = [] ∧ m = 0) ∨ (∃ tk, sv g (opd gl e0 x) = .sl cs m tk) → ∃ z, sv g (opd gl e0 x) = .sl cs m (some (g.r b, u, z))) → k ≠ 1 ∧ Evo S S' ∧ (GoodT g cx S' → RT g S s → ∃ s', ev1 gl call' (svL g e0) s (.app false size bytes x y) = some (sv g v, s', k) ∧ RT g S' s') := by
        intro b u h hx
        obtain ⟨z, u', t0, h1, h2⟩ := tickK_ok h
        obtain ⟨h3, h4⟩ := bK_t h2
        rw [Bool.and_eq_true] at h3
        have e1 := beq_n h3.1
        have e2 := beq_n h3.2
        subst e1 e2
        obtain ⟨t, S1, h5, h6⟩ := pop_ok h4
        obtain ⟨h7, h8⟩ := bK_t h6
        cases h8
        refine ⟨by decide, h5.evo.trans (Evo.upd _ _ _), fun hG hS => ?_⟩
        have hG1 : GoodT g cx S1 := fun a ha => hG a (by rw [upd_log]; exact ha)
        obtain ⟨cs, m, ds, l, q1, q2, q3, q4, q5, q6⟩ := h5.good hG1
        obtain ⟨z', q7⟩ := hx cs m q1
        have h1' := h1
        rw [← h5.at_] at h1
        refine ⟨s.upd (g.r b) (.tick z (u + 1)), step _ ⟨ds, l, news q2, ?_⟩, (h5.rt hS).upd h1 _⟩
        rw [q7]
        simp only [appS, hS.at_ b _ h1', so]
        rw [if_pos ⟨trivial, trivial, q4, q5⟩, sv_tkd h7 q6]
      unfold appL at hA
      split at hA
      · rename_i hx
        obtain ⟨t, S1, h5, h6⟩ := pop_ok hA
        obtain ⟨h7, h8⟩ := bK_t h6
        have h9 := new_ok h8
        cases h9
        refine ⟨by decide, h5.evo.trans (Evo.mk' _ _), fun hG hS => ?_⟩
        obtain ⟨cs, m, ds, l, q1, q2, q3, q4, q5, q6⟩ := h5.good hG
        have hxs : sv g (opd gl e0 x) = .nils := by rw [hx]; rfl
        rw [hxs] at q1
        rcases q1 with ⟨_, rfl, rfl⟩ | ⟨tk, h⟩
        · refine ⟨s.new (.tick size 0), step _ ⟨ds, l, news q2, ?_⟩, (h5.rt hS).new _⟩
          rw [hxs]
          simp only [appS]
          rw [Nat.zero_add] at q5 q6
          rw [if_neg q3, if_pos q5, sv_tkd h7 q6, h5.nx, hS.nx]
          rfl
        · cases h
      · rename_i cs0 m0 b u z hx
        refine two hA fun cs m q1 => ?_
        rw [hx] at q1 ⊢
        simp only [sv, tkR] at q1 ⊢
        rcases q1 with ⟨q, _⟩ | ⟨tk, q⟩
        · cases q
        · cases q; exact ⟨z, rfl⟩
      · rename_i f z b u z0 hx
        refine two hA fun cs m q1 => ?_
        rw [hx] at q1 ⊢
        simp only [sv] at q1 ⊢
        split
        · rename_i hf
          rw [if_pos hf] at q1
          rcases q1 with ⟨q, _⟩ | ⟨tk, q⟩ <;> cases q
        · rename_i hf
          rw [if_neg hf] at q1
          simp only [lfT] at q1 ⊢
          rcases q1 with ⟨q, _⟩ | ⟨tk, q⟩
          · cases q
          · split at q
            · rename_i c1 m1 t1 hl
              cases q; exact ⟨z, rfl⟩
            · rename_i hne
              exact absurd q (hne _ _ _)
      · cases hA
  | _ => cases h
/-! ### Arguments handed on -/
theorem freeze_sv {s0 s1 : St} {v w : AV} {m : Nat} (hE : Emb g s0 s) (hv : Ab.freeze m s0 v = some (w, s1)) : ∃ s', Ab.freeze m s (sv g v) = some (sv g w, s') ∧ Emb g s1 s' := by
  cases v <;> first | (cases hv; exact ⟨s, rfl, hE⟩) | skip
  · rename_i z b o l
    simp only [Ab.freeze, sv] at hv ⊢
    split at hv
    · rename_i z' cs hb
      rw [hE.get _ _ hb]
      simp only [so, svL_len]
      split at hv
      · rename_i q
        cases hv
        rw [if_pos q]
        exact ⟨_, by simp only [sv, tkR, so, svL_take, svL_drop], hE.upd hb _⟩
      · cases hv
    · rename_i z' cs hb
      rw [hE.get _ _ hb]
      simp only [so, svL_len]
      split at hv
      · rename_i q
        cases hv
        rw [if_pos q]
        exact ⟨s, by simp only [sv, tkR, svL_take, svL_drop], hE⟩
      · cases hv
    · cases hv
  · rename_i f cs
    cases hv
    refine ⟨s, ?_, hE⟩
    simp only [sv]
    split
    · rfl
    · exact lfT_freeze g _ _ _ _
theorem freezeL_sv (hgl : ∀ i, plainV (gl i) = true) {e0 : Env} : ∀ {l : List (Nat × Opd)} {s0 s s1 : St} {us : List AV}, (l.all fun p => okO p.2) = true → Emb g s0 s → freezeL gl e0 s0 l = some (us, s1) → ∃ s', freezeL gl (svL g e0) s l = some (svL g us, s') ∧ Emb g s1 s' := by
  intro l
  induction l with
  | nil => intro s0 s s1 us _ hE h; cases h; exact ⟨s, rfl, hE⟩
  | cons p l ih =>
    intro s0 s s1 us hl hE h
    obtain ⟨m, x⟩ := p
    rw [List.all_cons, Bool.and_eq_true] at hl
    simp only [freezeL, opd_sv hgl hl.1] at h ⊢
    split at h
    · rename_i v s2 hv
      obtain ⟨s3, q1, q2⟩ := freeze_sv hE hv
      rw [q1]
      simp only
      split at h
      · rename_i vs s4 hvs
        obtain ⟨s5, q3, q4⟩ := ih hl.2 q2 hvs
        rw [q3]
        cases h
        exact ⟨s5, rfl, q4⟩
      · cases h
    · cases h
/-- Each operation. -/
theorem op_T (hgl : ∀ i, plainV (gl i) = true) (hE : ET g n E e) (hc : CallT g cx call call') (m : MOp) :
    SimT g cx S s ((hB gl m).r call E S) (ev1 gl call' e s m) ∧ ∀ v S' k, (hB gl m).r call E S = .ok v S' k → RT g S s → k = 1 → blockOf gl e m = g.r (blkF (fo gl E) m) := by
  obtain ⟨e0, h0, rfl⟩ := hE
  have all : ∀ v S' k, (hB gl m).r call E S = .ok v S' k → Evo S S' ∧ (GoodT g cx S' → RT g S s → ∃ s', ev1 gl call' (svL g e0) s m = some (sv g v, s', k) ∧ RT g S' s') ∧ (RT g S s → k = 1 → blockOf gl (svL g e0) m = g.r (blkF (fo gl E) m)) := by
    intro v S' k h
    have h : (@Bool.rec (fun _ => (Nat → AV) → MOp → OB) (fun _ _ => ⟨fun _ _ _ => .bad⟩) (fun gl m => hW gl m (oB gl m)) (okOp m) gl m).r call E S = .ok v S' k := h
    cases hm : okOp m with
    | false => rw [hm] at h; cases h
    | true =>
      rw [hm] at h
      have h : (hW gl m (oB gl m)).r call E S = .ok v S' k := h
      have plain : noCall m → (∀ x, m = .nchk x → notLf (opd gl e0 x) = true) → (oB gl m).r call E S = .ok v S' k → Evo S S' ∧ (GoodT g cx S' → RT g S s → ∃ s', ev1 gl call' (svL g e0) s m = some (sv g v, s', k) ∧ RT g S' s') ∧ (RT g S s → k = 1 → blockOf gl (svL g e0) m = g.r (blkF (fo gl E) m)) := by
        intro hn hk h
        obtain ⟨h1, h2⟩ := plain_T (g := g) (s := s) (call' := call') hgl h0 hm hn hk h
        exact ⟨h1, fun _ hS => by obtain ⟨s', q1, q2, _⟩ := h2 hS; exact ⟨s', q1, q2⟩, fun hS => by obtain ⟨s', _, _, q⟩ := h2 hS; exact q⟩
      have one : noCall m → (∀ x, m ≠ .nchk x) → orL gl m ((oB gl m).r call E S) E S = .ok v S' k → Evo S S' ∧ (GoodT g cx S' → RT g S s → ∃ s', ev1 gl call' (svL g e0) s m = some (sv g v, s', k) ∧ RT g S' s') ∧ (RT g S s → k = 1 → blockOf gl (svL g e0) m = g.r (blkF (fo gl E) m)) := by
        intro hn hk h
        cases hr : (oB gl m).r call E S with
        | bad =>
          rw [hr] at h
          obtain ⟨q0, q1, q2⟩ := leaf_T (g := g) (cx := cx) (s := s) (call' := call') hgl h0 hm (h : leafF m (fo gl E) S = .ok v S' k)
          exact ⟨q1, q2, fun _ hk => absurd hk q0⟩
        | ok v2 S2 k2 =>
          rw [hr] at h
          cases h
          exact plain hn (fun x hx => absurd hx (hk x)) hr
      cases m with
      | call f args =>
        have h : (aB gl args).f E S (callC call f) = .ok v S' k := h
        obtain ⟨us, S1, h1, h2, h3⟩ := ab_ok args h0 h
        have h1 : loud2 (call f us S1) = .ok v S' k := h1
        cases hr : call f us S1 with
        | bad => rw [hr] at h1; cases h1
        | ok v2 S2 k2 =>
          rw [hr] at h1
          cases h1
          obtain ⟨g1, g2⟩ := hc _ _ _ _ _ _ hr
          refine ⟨h2.trans g1, fun hG hS => ?_, fun _ hk => by cases hk⟩
          obtain ⟨s1, q1, q2⟩ := h3 _ hS.rs
          obtain ⟨s2, q3, q4⟩ := freezeL_sv hgl (l := args) hm hS.emb q1
          obtain ⟨s3, r1, r2⟩ := g2 s2 hG (RT.of q2 q4)
          exact ⟨s3, by simp only [ev1, evP, evR, q3, r1], r2⟩
      | callv x args =>
        have h : bK (notLf (fo gl E x)) (k_callv x args (fo gl E) call S) .bad = .ok v S' k := h
        obtain ⟨hnl, h⟩ := bK_t h
        simp only [okOp, Bool.and_eq_true] at hm
        rw [h0.fo gl] at h hnl
        unfold k_callv at h
        split at h
        · rename_i f cs hx
          obtain ⟨us, S1, h1, h2, h3⟩ := fzl_ok args h
          cases hr : call f (us ++ cs) S1 with
          | bad => rw [hr] at h1; cases h1
          | ok v2 S2 k2 =>
            rw [hr] at h1
            cases h1
            obtain ⟨g1, g2⟩ := hc _ _ _ _ _ _ hr
            refine ⟨h2.trans g1, fun hG hS => ?_, fun _ hk => by cases hk⟩
            obtain ⟨s1, q1, q2⟩ := h3 _ hS.rs
            obtain ⟨s2, q3, q4⟩ := freezeL_sv hgl (l := args) hm.2 hS.emb q1
            obtain ⟨s3, r1, r2⟩ := g2 s2 hG (RT.of q2 q4)
            rw [hx] at hnl
            have hf : f < bigN := of_decide_eq_true hnl
            have hxs : opd gl (svL g e0) x = .clo f (svL g cs) := by rw [opd_sv hgl hm.1, hx]; simp only [sv, if_pos hf]
            rw [svL_app] at r1
            exact ⟨s3, by simp only [ev1, evP, evR, hxs, q3, r1], r2⟩
        · cases h
      | nchk x =>
        have h : orN (v_nchk (fo gl E x) S) = .ok v S' k := h
        cases hr : v_nchk (fo gl E x) S with
        | bad => rw [hr] at h; cases h
        | ok v2 S2 k2 =>
          rw [hr] at h
          obtain ⟨q1, q2⟩ := bK_t h
          cases q2
          refine plain ⟨(fun _ _ h => by cases h), (fun _ _ h => by cases h)⟩ (fun y hy => ?_) (show (oB gl (.nchk x)).r call E S = _ from hr)
          cases hy
          rw [← h0.fo gl]
          generalize fo gl E x = a at hr
          cases a <;> first | rfl | (cases hr; exact q1)
      | bin op x y => exact one ⟨(fun _ _ h => by cases h), (fun _ _ h => by cases h)⟩ (fun _ h => by cases h) h
      | un op x => exact one ⟨(fun _ _ h => by cases h), (fun _ _ h => by cases h)⟩ (fun _ h => by cases h) h
      | conv c x => exact one ⟨(fun _ _ h => by cases h), (fun _ _ h => by cases h)⟩ (fun _ h => by cases h) h
      | eqv neg q x y => exact one ⟨(fun _ _ h => by cases h), (fun _ _ h => by cases h)⟩ (fun _ h => by cases h) h
      | lens x => exact one ⟨(fun _ _ h => by cases h), (fun _ _ h => by cases h)⟩ (fun _ h => by cases h) h
      | len x => exact one ⟨(fun _ _ h => by cases h), (fun _ _ h => by cases h)⟩ (fun _ h => by cases h) h
      | mn x => exact one ⟨(fun _ _ h => by cases h), (fun _ _ h => by cases h)⟩ (fun _ h => by cases h) h
      | mx x => exact one ⟨(fun _ _ h => by cases h), (fun _ _ h => by cases h)⟩ (fun _ h => by cases h) h
      | ixs x i => exact one ⟨(fun _ _ h => by cases h), (fun _ _ h => by cases h)⟩ (fun _ h => by cases h) h
      | sls x a b => exact one ⟨(fun _ _ h => by cases h), (fun _ _ h => by cases h)⟩ (fun _ h => by cases h) h
      | slc z x a b => exact one ⟨(fun _ _ h => by cases h), (fun _ _ h => by cases h)⟩ (fun _ h => by cases h) h
      | ixa z x i => exact one ⟨(fun _ _ h => by cases h), (fun _ _ h => by cases h)⟩ (fun _ h => by cases h) h
      | load m x => exact one ⟨(fun _ _ h => by cases h), (fun _ _ h => by cases h)⟩ (fun _ h => by cases h) h
      | app a b c d f => exact one ⟨(fun _ _ h => by cases h), (fun _ _ h => by cases h)⟩ (fun _ h => by cases h) h
      | _ => exact plain ⟨(fun _ _ h => by cases h), (fun _ _ h => by cases h)⟩ (fun _ h => by cases h) h
  exact ⟨fun v S' k h => ⟨(all v S' k h).1, (all v S' k h).2.1⟩, fun v S' k h => (all v S' k h).2.2⟩
end
end Go.Ab
