/- What a call can reach: blocks that it can't reach stay as they are. No conditions. -/
import Derived.Test.YtochnineebgbgaaDoorAbX
import Derived.Test.YtochnineebgbgaaDoorBy
set_option linter.unusedSimpArgs false
set_option linter.unusedVariables false
namespace Go.Ab
open Go
def inT (C : Nat → Prop) : Option (Nat × Nat × Nat) → Prop
  | none => True
  | some (t, _, _) => C t
mutual
def inV (C : Nat → Prop) : AV → Prop
  | .ptr b _ => C b
  | .hs _ b _ _ => C b
  | .rp cs => inL C cs
  | .sl cs _ tk => inL C cs ∧ inT C tk
  | .iface _ v => inV C v
  | .agg cs => inL C cs
  | .tup cs => inL C cs
  | _ => True
def inL (C : Nat → Prop) : List AV → Prop
  | [] => True
  | v :: vs => inV C v ∧ inL C vs
end
section
variable {C : Nat → Prop}
theorem inL_iff {l : List AV} : inL C l ↔ ∀ v ∈ l, inV C v := by
  induction l with
  | nil => simp [inL]
  | cons a l ih => simp [inL, ih]
mutual
theorem flat_in (v : AV) (h : flat v = true) : inV C v := by
  cases v with
  | ptr b o => simp [flat] at h
  | hs z b o n => simp [flat] at h
  | rp cs => exact flatL_in cs (by simpa [flat] using h)
  | sl cs n tk =>
    simp only [flat, Bool.and_eq_true, Option.isNone_iff_eq_none] at h
    obtain ⟨rfl, h⟩ := h
    exact ⟨flatL_in cs h, trivial⟩
  | iface t v => exact flat_in v (by simpa [flat] using h)
  | agg cs => exact flatL_in cs (by simpa [flat] using h)
  | tup cs => exact flatL_in cs (by simpa [flat] using h)
  | _ => trivial
theorem flatL_in (l : List AV) (h : flatL l = true) : inL C l := by
  cases l with
  | nil => trivial
  | cons a l =>
    simp only [flatL, Bool.and_eq_true] at h
    exact ⟨flat_in a h.1, flatL_in l h.2⟩
end
theorem inL_drop {l : List AV} (h : inL C l) (n : Nat) : inL C (l.drop n) := inL_iff.2 fun v hv => inL_iff.1 h v (List.mem_of_mem_drop hv)
theorem inL_take {l : List AV} (h : inL C l) (n : Nat) : inL C (l.take n) := inL_iff.2 fun v hv => inL_iff.1 h v (List.mem_of_mem_take hv)
theorem inL_app {l m : List AV} (h : inL C l) (g : inL C m) : inL C (l ++ m) := inL_iff.2 fun v hv => by
  rcases List.mem_append.1 hv with hv | hv
  · exact inL_iff.1 h v hv
  · exact inL_iff.1 g v hv
theorem inL_set {l : List AV} {v : AV} (h : inL C l) (hv : inV C v) (i : Nat) : inL C (l.set i v) := inL_iff.2 fun w hw => by
  rcases List.mem_or_eq_of_mem_set hw with hw | rfl
  · exact inL_iff.1 h w hw
  · exact hv
theorem inL_at {l : List AV} {v : AV} {i : Nat} (h : inL C l) (hv : l[i]? = some v) : inV C v := inL_iff.1 h v (List.mem_of_getElem? hv)
theorem cut_in {cs : List AV} {o : Nat} {n : Option Nat} {v : AV} (h : inL C cs) (hv : cut cs o n = some v) : inV C v := by
  cases n with
  | none => exact inL_at h hv
  | some n =>
    simp only [cut] at hv
    split at hv
    · cases hv; exact inL_take (inL_drop h _) _
    · cases hv
theorem fillL_in {vs : List AV} : ∀ {cs : List AV} {o : Nat}, inL C cs → inL C vs → inL C (fillL cs o vs) := by
  induction vs with
  | nil => intro cs o h _; exact h
  | cons v vs ih => intro cs o h g; exact ih (inL_set h g.1 _) g.2
theorem storeL_in {cs cs' vs : List AV} {o : Nat} (h : inL C cs) (g : inL C vs) (hv : storeL cs o vs = some cs') : inL C cs' := by
  simp only [storeL] at hv
  split at hv
  · cases hv; exact fillL_in h g
  · cases hv
theorem cellsOf_in {v : AV} {cs : List AV} (h : inV C v) (hv : cellsOf v = some cs) : inL C cs := by
  cases v <;> simp only [cellsOf, Option.some.injEq, reduceCtorEq] at hv <;> subst hv <;> first | exact h | exact ⟨h, trivial⟩ | exact ⟨trivial, trivial⟩
theorem bytes_in (l : List UInt8) : inL C (bytesAV l) := inL_iff.2 fun v hv => by
  obtain ⟨b, _, rfl⟩ := List.mem_map.1 hv
  trivial
/-! Operands. -/
def okO : Opd → Bool
  | .c v => flat v
  | _ => true
variable {gl : Nat → AV} {e : Env}
theorem at_in (he : inL C e) (i : Nat) : inV C (e.at i) := by
  unfold Env.at
  rw [List.getD_eq_getElem?_getD]
  cases h : e[i]? with
  | none => trivial
  | some v => exact inL_at he h
theorem opd_in (hg : ∀ g, inV C (gl g)) (he : inL C e) {x : Opd} (hx : okO x = true) : inV C (opd gl e x) := by
  cases x with
  | s i => exact at_in he i
  | c v => exact flat_in v hx
  | g i => exact hg i
theorem fill_in (hg : ∀ g, inV C (gl g)) (he : inL C e) : ∀ {ps : List (Nat × Nat × Opd)} {cs cs' : List AV}, (ps.all fun p => okO p.2.2) = true → inL C cs → fill gl e cs ps = some cs' → inL C cs' := by
  intro ps
  induction ps with
  | nil => intro cs cs' _ h hv; cases hv; exact h
  | cons p ps ih =>
    obtain ⟨o, n, x⟩ := p
    intro cs cs' hp h hv
    simp only [List.all_cons, Bool.and_eq_true] at hp
    simp only [fill] at hv
    split at hv
    · rename_i vs hvs
      split at hv
      · split at hv
        · rename_i c2 hc2
          exact ih hp.2 (storeL_in h (cellsOf_in (opd_in hg he hp.1) hvs) hc2) hv
        · cases hv
      · cases hv
    · cases hv
end
/-! Answers without blocks. -/
theorem binI_flat {op : BinOp} {k : IntKind} {a b : Int} {v : AV} (h : binI op k a b = some v) : flat v = true := by
  cases op <;> simp only [binI, Option.some.injEq, reduceCtorEq] at h <;> (try split at h) <;> (try cases h) <;> (try subst h) <;> rfl
theorem binV_flat {op : BinOp} {a b v : AV} (h : binV op a b = some v) : flat v = true := by
  unfold binV at h
  split at h
  · split at h
    · unfold shI at h; repeat' split at h
      all_goals first | (cases h; done) | (cases h; rfl)
    · unfold shI at h; repeat' split at h
      all_goals first | (cases h; done) | (cases h; rfl)
    · split at h
      · exact binI_flat h
      · cases h
  · unfold binS at h
    repeat' split at h
    all_goals first | (cases h; done) | (cases h; rfl)
  · cases h
theorem unV_flat {op : UnOp} {a v : AV} (h : unV op a = some v) : flat v = true := by
  unfold unV at h
  repeat' split at h
  all_goals first | (cases h; done) | (cases h; rfl)
theorem convP_flat {c : Cv} {a v : AV} (h : convP c a = some v) : flat v = true := by
  unfold convP at h
  repeat' split at h
  all_goals first
    | (cases h; done)
    | (cases h; rfl)
    | (obtain ⟨b, _, rfl⟩ := Option.map_eq_some_iff.1 h; rfl)
/-- Operations whose constants hold no blocks. -/
def okM : MOp → Bool
  | .mv x | .un _ x | .conv _ x | .mki _ x | .fa _ x | .fld _ _ x | .load _ x | .nchk x | .ext _ x | .len x | .lens x | .box x | .rng x | .nxt x => okO x
  | .tas _ z _ x => flat z && okO x
  | .pick a b c => okO a && okO b && okO c
  | .bin _ x y | .eqv _ _ x y | .ixa _ x y | .ixs x y | .ixp _ _ x y | .ix _ _ _ x y | .store _ x y | .cpy _ x y | .app _ _ _ x y => okO x && okO y
  | .mks _ _ zs x y => flatL zs && okO x && okO y
  | .slc _ x _ _ | .sls x _ _ => okO x
  | .call _ args => args.all fun p => okO p.2
  | .mn _ | .mx _ => true
  | .build zs ps | .bsl _ _ _ zs ps | .bsi _ _ zs ps => flatL zs && ps.all fun p => okO p.2.2
  | .alloc zs => flatL zs
theorem foldV_flat {f : AV → AV → Option AV} (hf : ∀ a b v, f a b = some v → flat v = true) : ∀ (l : List AV) (x v : AV), flat x = true → foldV f x l = some v → flat v = true := by
  intro l
  induction l with
  | nil => intro x v hx h; cases h; exact hx
  | cons y l ih =>
    intro x v hx h
    simp only [foldV] at h
    split at h
    · rename_i z hz; exact ih z v (hf _ _ _ hz) h
    · cases h
theorem mnV_flat (a b v : AV) (h : mnV a b = some v) : flat v = true := by
  unfold mnV at h
  repeat' split at h
  all_goals first | (cases h; done) | (cases h; rfl)
theorem mxV_flat (a b v : AV) (h : mxV a b = some v) : flat v = true := by
  unfold mxV at h
  repeat' split at h
  all_goals first | (cases h; done) | (cases h; rfl)
section
variable {C : Nat → Prop} {gl : Nat → AV} {e : Env}
theorem slcV_in {size : Nat} {x v : AV} {lo hi : Option AV} (hx : inV C x) (h : slcV size x lo hi = some v) : inV C v := by
  cases x <;> simp only [slcV, reduceCtorEq] at h
  case nils =>
    repeat' split at h
    all_goals first | (cases h; done) | (cases h; trivial)
  case sl cs n tk =>
    repeat' split at h
    all_goals first
      | (cases h; done)
      | (cases h
         refine ⟨inL_drop (inL_take hx.1 _) _, ?_⟩
         have := hx.2
         cases tk with
         | none => trivial
         | some p =>
           obtain ⟨t, u, z⟩ := p
           simp only [tkCut]
           split
           · exact this
           · trivial)
  case hs z b o n =>
    repeat' split at h
    all_goals first | (cases h; done) | (cases h; exact hx)
theorem evP_in (hg : ∀ g, inV C (gl g)) (he : inL C e) {m : MOp} (hm : okM m = true) {v : AV} (h : evP gl e m = some v) : inV C v := by
  cases m with
  | mv x => cases h; exact opd_in hg he hm
  | pick c a b =>
    simp only [okM, Bool.and_eq_true] at hm
    simp only [evP] at h
    split at h
    · cases h; exact opd_in hg he hm.1.2
    · cases h; exact opd_in hg he hm.2
    · cases h
  | bin op x y => exact flat_in _ (binV_flat h)
  | eqv neg q x y =>
    simp only [evP] at h
    split at h
    · cases h; trivial
    · cases h
  | un op x => exact flat_in _ (unV_flat h)
  | conv c x => exact flat_in _ (convP_flat h)
  | mki t x => cases h; exact opd_in hg he hm
  | slc size x lo hi => exact slcV_in (opd_in hg he hm) h
  | sls x lo hi =>
    simp only [evP, slcS] at h
    repeat' split at h
    all_goals first | (cases h; done) | (cases h; trivial)
  | lens x =>
    simp only [evP] at h
    split at h
    · cases h; trivial
    · cases h
  | ixs x i =>
    simp only [evP] at h
    repeat' split at h
    all_goals first | (cases h; done) | (cases h; trivial)
  | fa off x =>
    have hx := opd_in hg he (C := C) (show okO x = true from hm)
    simp only [evP] at h
    split at h
    · rename_i b o hb; rw [hb] at hx; cases h; exact hx
    · rename_i cs hb; rw [hb] at hx
      split at h
      · cases h; exact inL_drop hx _
      · cases h
    · cases h
  | fld off n x =>
    have hx := opd_in hg he (C := C) (show okO x = true from hm)
    simp only [evP] at h
    split at h
    · rename_i cs hb; rw [hb] at hx; exact cut_in hx h
    · cases h
  | ixa size x i =>
    simp only [okM, Bool.and_eq_true] at hm
    have hx := opd_in hg he (C := C) hm.1
    simp only [evP] at h
    split at h
    · rename_i cs n tk hb; rw [hb] at hx
      split at h
      · cases h; exact inL_drop hx.1 _
      · cases h
    · rename_i z b o n hb; rw [hb] at hx
      split at h
      · cases h; exact hx
      · cases h
    · cases h
  | ixp len size x i =>
    simp only [okM, Bool.and_eq_true] at hm
    have hx := opd_in hg he (C := C) hm.1
    simp only [evP] at h
    split at h
    · rename_i b o hb; rw [hb] at hx
      split at h
      · cases h; exact hx
      · cases h
    · rename_i cs hb; rw [hb] at hx
      split at h
      · split at h
        · cases h; exact inL_drop hx _
        · cases h
      · cases h
    · cases h
  | ix len size agg x i =>
    simp only [okM, Bool.and_eq_true] at hm
    have hx := opd_in hg he (C := C) hm.1
    simp only [evP] at h
    split at h
    · rename_i cs hb; rw [hb] at hx
      split at h
      · exact cut_in hx h
      · cases h
    · cases h
  | load n x =>
    have hx := opd_in hg he (C := C) (show okO x = true from hm)
    simp only [evP] at h
    split at h
    · rename_i cs hb; rw [hb] at hx; exact cut_in hx h
    · cases h
  | nchk x =>
    have hx := opd_in hg he (C := C) (show okO x = true from hm)
    simp only [evP] at h
    split at h
    · rename_i b o hb; rw [hb] at hx; cases h; exact hx
    · rename_i cs hb; rw [hb] at hx; cases h; exact hx
    · cases h
  | tas t zero ok x =>
    simp only [okM, Bool.and_eq_true] at hm
    have hx := opd_in hg he (C := C) hm.2
    have hz := flat_in (C := C) zero hm.1
    simp only [evP] at h
    split at h
    · rename_i u v' hb; rw [hb] at hx
      split at h
      · cases h
        split
        · exact ⟨hx, trivial, trivial⟩
        · exact hx
      · split at h
        · cases h; exact ⟨hz, trivial, trivial⟩
        · cases h
    · split at h
      · cases h; exact ⟨hz, trivial, trivial⟩
      · cases h
    · cases h
  | ext i x =>
    have hx := opd_in hg he (C := C) (show okO x = true from hm)
    simp only [evP] at h
    split at h
    · rename_i cs hb; rw [hb] at hx; exact inL_at hx h
    · cases h
  | len x =>
    simp only [evP] at h
    repeat' split at h
    all_goals first | (cases h; done) | (cases h; trivial)
  | mn args =>
    simp only [evP] at h
    split at h
    · cases h
    · split at h
      · rename_i x xs _ hx
        exact flat_in _ (foldV_flat mnV_flat xs x v (by cases x <;> first | rfl | cases hx) h)
      · cases h
  | mx args =>
    simp only [evP] at h
    split at h
    · cases h
    · split at h
      · rename_i x xs _ hx
        exact flat_in _ (foldV_flat mxV_flat xs x v (by cases x <;> first | rfl | cases hx) h)
      · cases h
  | build zs ps =>
    simp only [okM, Bool.and_eq_true] at hm
    obtain ⟨cs, hc, rfl⟩ := Option.map_eq_some_iff.1 h
    exact fill_in hg he hm.2 (flatL_in zs hm.1) hc
  | _ => cases h
/-! The state. -/
/-- What is reachable holds what is reachable; new blocks are; all others are as they were. -/
structure Fp (C : Nat → Prop) (s0 s : St) : Prop where
  le : s0.next ≤ s.next
  new : ∀ j, s0.next ≤ j → C j
  cells : ∀ j z cs, C j → s.get j = some (.cells z cs) → inL C cs
  froz : ∀ j z cs, C j → s.get j = some (.froz z cs) → inL C cs
  same : ∀ j, ¬ C j → s.get j = s0.get j
  wf : ∀ j, s.next ≤ j → s.get j = none
/-- What an object holds. -/
def inO (C : Nat → Prop) : Obj → Prop
  | .cells _ cs => inL C cs
  | .froz _ cs => inL C cs
  | _ => True
variable {s0 s : St}
theorem Fp.mk' (h : Fp C s0 s) {q : Obj} (hq : inO C q) : Fp C s0 (s.new q) := by
  have hC : C s.next := h.new _ h.le
  refine ⟨Nat.le_trans h.le (by simp [St.new]), h.new, fun j z cs hj hg => ?_, fun j z cs hj hg => ?_, fun j hj => ?_, fun j hj => ?_⟩
  · by_cases e : j = s.next
    · subst e; rw [get_new_eq] at hg; cases hg; exact hq
    · rw [get_new_ne _ _ e] at hg; exact h.cells j z cs hj hg
  · by_cases e : j = s.next
    · subst e; rw [get_new_eq] at hg; cases hg; exact hq
    · rw [get_new_ne _ _ e] at hg; exact h.froz j z cs hj hg
  · rw [get_new_ne _ _ (fun e => hj (by rw [e]; exact hC))]; exact h.same j hj
  · have : s.next + 1 ≤ j := hj
    rw [get_new_ne _ _ (by omega)]; exact h.wf j (by omega)
theorem Fp.upd (h : Fp C s0 s) {b : Nat} {p q : Obj} (hb : C b) (hp : s.get b = some p) (hq : inO C q) : Fp C s0 (s.upd b q) := by
  refine ⟨h.le, h.new, fun j z cs hj hg => ?_, fun j z cs hj hg => ?_, fun j hj => ?_, fun j hj => ?_⟩
  · by_cases e : j = b
    · subst e; rw [get_upd_eq _ _ hp] at hg; cases hg; exact hq
    · rw [get_upd_ne _ _ e] at hg; exact h.cells j z cs hj hg
  · by_cases e : j = b
    · subst e; rw [get_upd_eq _ _ hp] at hg; cases hg; exact hq
    · rw [get_upd_ne _ _ e] at hg; exact h.froz j z cs hj hg
  · rw [get_upd_ne _ _ (fun e => hj (by rw [e]; exact hb))]; exact h.same j hj
  · have hj' : s.next ≤ j := hj
    rw [get_upd_ne _ _ (fun e => by rw [← e, h.wf j hj'] at hp; cases hp)]; exact h.wf j hj'
theorem evR_in (hg : ∀ g, inV C (gl g)) (he : inL C e) (hs : Fp C s0 s) {m : MOp} (hm : okM m = true) {v : AV} (h : evR gl e s m = some v) : inV C v := by
  unfold evR at h
  split at h
  · rename_i n x
    have hx := opd_in hg he (C := C) (show okO x = true from hm)
    split at h
    · rename_i b o hb; rw [hb] at hx
      split at h
      · rename_i z cs hc; exact cut_in (hs.cells _ _ _ hx hc) h
      · cases h
    · cases h
  · repeat' split at h
    all_goals first
      | (cases h; done)
      | (obtain ⟨b, _, rfl⟩ := Option.map_eq_some_iff.1 h; trivial)
  · cases h
theorem freeze_in (hs : Fp C s0 s) {n : Nat} {x v : AV} {s' : St} (hx : inV C x) (h : freeze n s x = some (v, s')) : inV C v ∧ Fp C s0 s' := by
  unfold freeze at h
  split at h
  · split at h
    · rename_i z cs hc
      split at h
      · cases h
        have := hs.cells _ _ _ hx hc
        exact ⟨⟨inL_take (inL_drop this _) _, trivial⟩, hs.upd hx hc this⟩
      · cases h
    · rename_i z cs hc
      split at h
      · cases h
        exact ⟨⟨inL_take (inL_drop (hs.froz _ _ _ hx hc) _) _, trivial⟩, hs⟩
      · cases h
    · cases h
  · cases h; exact ⟨hx, hs⟩
theorem freezeL_in (hg : ∀ g, inV C (gl g)) (he : inL C e) : ∀ {args : List (Nat × Opd)} {s : St} {vs : List AV} {s' : St}, (args.all fun p => okO p.2) = true → Fp C s0 s → freezeL gl e s args = some (vs, s') → inL C vs ∧ Fp C s0 s' := by
  intro args
  induction args with
  | nil => intro s vs s' _ hs h; cases h; exact ⟨trivial, hs⟩
  | cons p args ih =>
    obtain ⟨n, x⟩ := p
    intro s vs s' hp hs h
    simp only [List.all_cons, Bool.and_eq_true] at hp
    simp only [freezeL] at h
    split at h
    · rename_i v s1 h1
      obtain ⟨q1, q2⟩ := freeze_in hs (opd_in hg he hp.1) h1
      split at h
      · rename_i vs' s2 h2
        cases h
        obtain ⟨q3, q4⟩ := ih hp.2 q2 h2
        exact ⟨⟨q1, q3⟩, q4⟩
      · cases h
    · cases h
end
end Go.Ab
