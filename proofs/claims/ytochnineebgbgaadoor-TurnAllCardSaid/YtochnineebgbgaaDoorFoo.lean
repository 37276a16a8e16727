/- What a call can reach: blocks that it can't reach stay as they are. No conditions. -/
import Derived.Test.YtochnineebgbgaaDoorAbX
import Derived.Test.YtochnineebgbgaaDoorBy
import Derived.Test.YtochnineebgbgaaDoorAbE
set_option linter.unusedSimpArgs false
set_option linter.unusedVariables false
namespace Go.Ab
open Go
def inT (C : Nat → Prop) : Option (Nat × Nat × Nat) → Prop
  | none => True
  | some (t, _, _) => C t
mutual
def inV (C : Nat → Prop) : AV → Prop
  | .ptr b _ => C b
  | .hs _ b _ _ => C b
  | .rp cs => inL C cs
  | .sl cs _ tk => inL C cs ∧ inT C tk
  | .iface _ v => inV C v
  | .agg cs => inL C cs
  | .tup cs => inL C cs
  | _ => True
def inL (C : Nat → Prop) : List AV → Prop
  | [] => True
  | v :: vs => inV C v ∧ inL C vs
end
section
variable {C : Nat → Prop}
theorem inL_iff {l : List AV} : inL C l ↔ ∀ v ∈ l, inV C v := by
  induction l with
  | nil => simp [inL]
  | cons a l ih => simp [inL, ih]
mutual
theorem flat_in (v : AV) (h : flat v = true) : inV C v := by
  cases v with
  | ptr b o => simp [flat] at h
  | hs z b o n => simp [flat] at h
  | rp cs => exact flatL_in cs (by simpa [flat] using h)
  | sl cs n tk =>
    simp only [flat, Bool.and_eq_true, Option.isNone_iff_eq_none] at h
    obtain ⟨rfl, h⟩ := h
    exact ⟨flatL_in cs h, trivial⟩
  | iface t v => exact flat_in v (by simpa [flat] using h)
  | agg cs => exact flatL_in cs (by simpa [flat] using h)
  | tup cs => exact flatL_in cs (by simpa [flat] using h)
  | _ => trivial
theorem flatL_in (l : List AV) (h : flatL l = true) : inL C l := by
  cases l with
  | nil => trivial
  | cons a l =>
    simp only [flatL, Bool.and_eq_true] at h
    exact ⟨flat_in a h.1, flatL_in l h.2⟩
end
theorem inL_drop {l : List AV} (h : inL C l) (n : Nat) : inL C (l.drop n) := inL_iff.2 fun v hv => inL_iff.1 h v (List.mem_of_mem_drop hv)
theorem inL_take {l : List AV} (h : inL C l) (n : Nat) : inL C (l.take n) := inL_iff.2 fun v hv => inL_iff.1 h v (List.mem_of_mem_take hv)
theorem inL_app {l m : List AV} (h : inL C l) (g : inL C m) : inL C (l ++ m) := inL_iff.2 fun v hv => by
  rcases List.mem_append.1 hv with hv | hv
  · exact inL_iff.1 h v hv
  · exact inL_iff.1 g v hv
theorem inL_set {l : List AV} {v : AV} (h : inL C l) (hv : inV C v) (i : Nat) : inL C (l.set i v) := inL_iff.2 fun w hw => by
  rcases List.mem_or_eq_of_mem_set hw with hw | rfl
  · exact inL_iff.1 h w hw
  · exact hv
theorem inL_at {l : List AV} {v : AV} {i : Nat} (h : inL C l) (hv : l[i]? = some v) : inV C v := inL_iff.1 h v (List.mem_of_getElem? hv)
theorem cut_in {cs : List AV} {o : Nat} {n : Option Nat} {v : AV} (h : inL C cs) (hv : cut cs o n = some v) : inV C v := by
  cases n with
  | none => exact inL_at h hv
  | some n =>
    simp only [cut] at hv
    split at hv
    · cases hv; exact inL_take (inL_drop h _) _
    · cases hv
theorem fillL_in {vs : List AV} : ∀ {cs : List AV} {o : Nat}, inL C cs → inL C vs → inL C (fillL cs o vs) := by
  induction vs with
  | nil => intro cs o h _; exact h
  | cons v vs ih => intro cs o h g; exact ih (inL_set h g.1 _) g.2
theorem storeL_in {cs cs' vs : List AV} {o : Nat} (h : inL C cs) (g : inL C vs) (hv : storeL cs o vs = some cs') : inL C cs' := by
  simp only [storeL] at hv
  split at hv
  · cases hv; exact fillL_in h g
  · cases hv
theorem cellsOf_in {v : AV} {cs : List AV} (h : inV C v) (hv : cellsOf v = some cs) : inL C cs := by
  cases v <;> simp only [cellsOf, Option.some.injEq, reduceCtorEq] at hv <;> subst hv <;> first | exact h | exact ⟨h, trivial⟩ | exact ⟨trivial, trivial⟩
theorem bytes_in (l : List UInt8) : inL C (bytesAV l) := inL_iff.2 fun v hv => by
  obtain ⟨b, _, rfl⟩ := List.mem_map.1 hv
  trivial
/-! Operands. -/
def okO : Opd → Bool
  | .c v => flat v
  | _ => true
variable {gl : Nat → AV} {e : Env}
theorem at_in (he : inL C e) (i : Nat) : inV C (e.at i) := by
  unfold Env.at
  rw [List.getD_eq_getElem?_getD]
  cases h : e[i]? with
  | none => trivial
  | some v => exact inL_at he h
theorem opd_in (hg : ∀ g, inV C (gl g)) (he : inL C e) {x : Opd} (hx : okO x = true) : inV C (opd gl e x) := by
  cases x with
  | s i => exact at_in he i
  | c v => exact flat_in v hx
  | g i => exact hg i
theorem fill_in (hg : ∀ g, inV C (gl g)) (he : inL C e) : ∀ {ps : List (Nat × Nat × Opd)} {cs cs' : List AV}, (ps.all fun p => okO p.2.2) = true → inL C cs → fill gl e cs ps = some cs' → inL C cs' := by
  intro ps
  induction ps with
  | nil => intro cs cs' _ h hv; cases hv; exact h
  | cons p ps ih =>
    obtain ⟨o, n, x⟩ := p
    intro cs cs' hp h hv
    simp only [List.all_cons, Bool.and_eq_true] at hp
    simp only [fill] at hv
    split at hv
    · rename_i vs hvs
      split at hv
      · split at hv
        · rename_i c2 hc2
          exact ih hp.2 (storeL_in h (cellsOf_in (opd_in hg he hp.1) hvs) hc2) hv
        · cases hv
      · cases hv
    · cases hv
end
/-! Answers without blocks. -/
theorem binI_flat {op : BinOp} {k : IntKind} {a b : Int} {v : AV} (h : binI op k a b = some v) : flat v = true := by
  cases op <;> simp only [binI, Option.some.injEq, reduceCtorEq] at h <;> (try split at h) <;> (try cases h) <;> (try subst h) <;> rfl
theorem binV_flat {op : BinOp} {a b v : AV} (h : binV op a b = some v) : flat v = true := by
  unfold binV at h
  split at h
  · split at h
    · unfold shI at h; repeat' split at h
      all_goals first | (cases h; done) | (cases h; rfl)
    · unfold shI at h; repeat' split at h
      all_goals first | (cases h; done) | (cases h; rfl)
    · split at h
      · exact binI_flat h
      · cases h
  · unfold binS at h
    repeat' split at h
    all_goals first | (cases h; done) | (cases h; rfl)
  · cases h
theorem unV_flat {op : UnOp} {a v : AV} (h : unV op a = some v) : flat v = true := by
  unfold unV at h
  repeat' split at h
  all_goals first | (cases h; done) | (cases h; rfl)
theorem convP_flat {c : Cv} {a v : AV} (h : convP c a = some v) : flat v = true := by
  unfold convP at h
  repeat' split at h
  all_goals first
    | (cases h; done)
    | (cases h; rfl)
    | (obtain ⟨b, _, rfl⟩ := Option.map_eq_some_iff.1 h; rfl)
/-- Operations whose constants hold no blocks. -/
def okM : MOp → Bool
  | .mv x | .un _ x | .conv _ x | .mki _ x | .fa _ x | .fld _ _ x | .load _ x | .nchk x | .ext _ x | .len x | .lens x | .box x | .rng x | .nxt x => okO x
  | .tas _ z _ x => flat z && okO x
  | .pick a b c => okO a && okO b && okO c
  | .bin _ x y | .eqv _ _ x y | .ixa _ x y | .ixs x y | .ixp _ _ x y | .ix _ _ _ x y | .store _ x y | .cpy _ x y | .app _ _ _ x y => okO x && okO y
  | .mks _ _ zs x y => flatL zs && okO x && okO y
  | .slc _ x _ _ | .sls x _ _ => okO x
  | .call _ args => args.all fun p => okO p.2
  | .mn _ | .mx _ => true
  | .build zs ps | .bsl _ _ _ zs ps | .bsi _ _ zs ps => flatL zs && ps.all fun p => okO p.2.2
  | .alloc zs => flatL zs
theorem foldV_flat {f : AV → AV → Option AV} (hf : ∀ a b v, f a b = some v → flat v = true) : ∀ (l : List AV) (x v : AV), flat x = true → foldV f x l = some v → flat v = true := by
  intro l
  induction l with
  | nil => intro x v hx h; cases h; exact hx
  | cons y l ih =>
    intro x v hx h
    simp only [foldV] at h
    split at h
    · rename_i z hz; exact ih z v (hf _ _ _ hz) h
    · cases h
theorem mnV_flat (a b v : AV) (h : mnV a b = some v) : flat v = true := by
  unfold mnV at h
  repeat' split at h
  all_goals first | (cases h; done) | (cases h; rfl)
theorem mxV_flat (a b v : AV) (h : mxV a b = some v) : flat v = true := by
  unfold mxV at h
  repeat' split at h
  all_goals first | (cases h; done) | (cases h; rfl)
section
variable {C : Nat → Prop} {gl : Nat → AV} {e : Env}
theorem slcV_in {size : Nat} {x v : AV} {lo hi : Option AV} (hx : inV C x) (h : slcV size x lo hi = some v) : inV C v := by
  cases x <;> simp only [slcV, reduceCtorEq] at h
  case nils =>
    repeat' split at h
    all_goals first | (cases h; done) | (cases h; trivial)
  case sl cs n tk =>
    repeat' split at h
    all_goals first
      | (cases h; done)
      | (cases h
         refine ⟨inL_drop (inL_take hx.1 _) _, ?_⟩
         have := hx.2
         cases tk with
         | none => trivial
         | some p =>
           obtain ⟨t, u, z⟩ := p
           simp only [tkCut]
           split
           · exact this
           · trivial)
  case hs z b o n =>
    repeat' split at h
    all_goals first | (cases h; done) | (cases h; exact hx)
theorem evP_in (hg : ∀ g, inV C (gl g)) (he : inL C e) {m : MOp} (hm : okM m = true) {v : AV} (h : evP gl e m = some v) : inV C v := by
  cases m with
  | mv x => cases h; exact opd_in hg he hm
  | pick c a b =>
    simp only [okM, Bool.and_eq_true] at hm
    simp only [evP] at h
    split at h
    · cases h; exact opd_in hg he hm.1.2
    · cases h; exact opd_in hg he hm.2
    · cases h
  | bin op x y => exact flat_in _ (binV_flat h)
  | eqv neg q x y =>
    simp only [evP] at h
    split at h
    · cases h; trivial
    · cases h
  | un op x => exact flat_in _ (unV_flat h)
  | conv c x => exact flat_in _ (convP_flat h)
  | mki t x => cases h; exact opd_in hg he hm
  | slc size x lo hi => exact slcV_in (opd_in hg he hm) h
  | sls x lo hi =>
    simp only [evP, slcS] at h
    repeat' split at h
    all_goals first | (cases h; done) | (cases h; trivial)
  | lens x =>
    simp only [evP] at h
    split at h
    · cases h; trivial
    · cases h
  | ixs x i =>
    simp only [evP] at h
    repeat' split at h
    all_goals first | (cases h; done) | (cases h; trivial)
  | fa off x =>
    have hx := opd_in hg he (C := C) (show okO x = true from hm)
    simp only [evP] at h
    split at h
    · rename_i b o hb; rw [hb] at hx; cases h; exact hx
    · rename_i cs hb; rw [hb] at hx
      split at h
      · cases h; exact inL_drop hx _
      · cases h
    · cases h
  | fld off n x =>
    have hx := opd_in hg he (C := C) (show okO x = true from hm)
    simp only [evP] at h
    split at h
    · rename_i cs hb; rw [hb] at hx; exact cut_in hx h
    · cases h
  | ixa size x i =>
    simp only [okM, Bool.and_eq_true] at hm
    have hx := opd_in hg he (C := C) hm.1
    simp only [evP] at h
    split at h
    · rename_i cs n tk hb; rw [hb] at hx
      split at h
      · cases h; exact inL_drop hx.1 _
      · cases h
    · rename_i z b o n hb; rw [hb] at hx
      split at h
      · cases h; exact hx
      · cases h
    · cases h
  | ixp len size x i =>
    simp only [okM, Bool.and_eq_true] at hm
    have hx := opd_in hg he (C := C) hm.1
    simp only [evP] at h
    split at h
    · rename_i b o hb; rw [hb] at hx
      split at h
      · cases h; exact hx
      · cases h
    · rename_i cs hb; rw [hb] at hx
      split at h
      · split at h
        · cases h; exact inL_drop hx _
        · cases h
      · cases h
    · cases h
  | ix len size agg x i =>
    simp only [okM, Bool.and_eq_true] at hm
    have hx := opd_in hg he (C := C) hm.1
    simp only [evP] at h
    split at h
    · rename_i cs hb; rw [hb] at hx
      split at h
      · exact cut_in hx h
      · cases h
    · cases h
  | load n x =>
    have hx := opd_in hg he (C := C) (show okO x = true from hm)
    simp only [evP] at h
    split at h
    · rename_i cs hb; rw [hb] at hx; exact cut_in hx h
    · cases h
  | nchk x =>
    have hx := opd_in hg he (C := C) (show okO x = true from hm)
    simp only [evP] at h
    split at h
    · rename_i b o hb; rw [hb] at hx; cases h; exact hx
    · rename_i cs hb; rw [hb] at hx; cases h; exact hx
    · cases h
  | tas t zero ok x =>
    simp only [okM, Bool.and_eq_true] at hm
    have hx := opd_in hg he (C := C) hm.2
    have hz := flat_in (C := C) zero hm.1
    simp only [evP] at h
    split at h
    · rename_i u v' hb; rw [hb] at hx
      split at h
      · cases h
        split
        · exact ⟨hx, trivial, trivial⟩
        · exact hx
      · split at h
        · cases h; exact ⟨hz, trivial, trivial⟩
        · cases h
    · split at h
      · cases h; exact ⟨hz, trivial, trivial⟩
      · cases h
    · cases h
  | ext i x =>
    have hx := opd_in hg he (C := C) (show okO x = true from hm)
    simp only [evP] at h
    split at h
    · rename_i cs hb; rw [hb] at hx; exact inL_at hx h
    · cases h
  | len x =>
    simp only [evP] at h
    repeat' split at h
    all_goals first | (cases h; done) | (cases h; trivial)
  | mn args =>
    simp only [evP] at h
    split at h
    · cases h
    · split at h
      · rename_i x xs _ hx
        exact flat_in _ (foldV_flat mnV_flat xs x v (by cases x <;> first | rfl | cases hx) h)
      · cases h
  | mx args =>
    simp only [evP] at h
    split at h
    · cases h
    · split at h
      · rename_i x xs _ hx
        exact flat_in _ (foldV_flat mxV_flat xs x v (by cases x <;> first | rfl | cases hx) h)
      · cases h
  | build zs ps =>
    simp only [okM, Bool.and_eq_true] at hm
    obtain ⟨cs, hc, rfl⟩ := Option.map_eq_some_iff.1 h
    exact fill_in hg he hm.2 (flatL_in zs hm.1) hc
  | _ => cases h
/-! The state. -/
/-- What is reachable holds what is reachable; new blocks are; all others are as they were. -/
structure Fp (C : Nat → Prop) (s0 s : St) : Prop where
  le : s0.next ≤ s.next
  new : ∀ j, s0.next ≤ j → C j
  cells : ∀ j z cs, C j → s.get j = some (.cells z cs) → inL C cs
  froz : ∀ j z cs, C j → s.get j = some (.froz z cs) → inL C cs
  same : ∀ j, ¬ C j → s.get j = s0.get j
  wf : ∀ j, s.next ≤ j → s.get j = none
/-- What an object holds. -/
def inO (C : Nat → Prop) : Obj → Prop
  | .cells _ cs => inL C cs
  | .froz _ cs => inL C cs
  | _ => True
variable {s0 s : St}
theorem Fp.mk' (h : Fp C s0 s) {q : Obj} (hq : inO C q) : Fp C s0 (s.new q) := by
  have hC : C s.next := h.new _ h.le
  refine ⟨Nat.le_trans h.le (by simp [St.new]), h.new, fun j z cs hj hg => ?_, fun j z cs hj hg => ?_, fun j hj => ?_, fun j hj => ?_⟩
  · by_cases e : j = s.next
    · subst e; rw [get_new_eq] at hg; cases hg; exact hq
    · rw [get_new_ne _ _ e] at hg; exact h.cells j z cs hj hg
  · by_cases e : j = s.next
    · subst e; rw [get_new_eq] at hg; cases hg; exact hq
    · rw [get_new_ne _ _ e] at hg; exact h.froz j z cs hj hg
  · rw [get_new_ne _ _ (fun e => hj (by rw [e]; exact hC))]; exact h.same j hj
  · have : s.next + 1 ≤ j := hj
    rw [get_new_ne _ _ (by omega)]; exact h.wf j (by omega)
theorem Fp.upd (h : Fp C s0 s) {b : Nat} {p q : Obj} (hb : C b) (hp : s.get b = some p) (hq : inO C q) : Fp C s0 (s.upd b q) := by
  refine ⟨h.le, h.new, fun j z cs hj hg => ?_, fun j z cs hj hg => ?_, fun j hj => ?_, fun j hj => ?_⟩
  · by_cases e : j = b
    · subst e; rw [get_upd_eq _ _ hp] at hg; cases hg; exact hq
    · rw [get_upd_ne _ _ e] at hg; exact h.cells j z cs hj hg
  · by_cases e : j = b
    · subst e; rw [get_upd_eq _ _ hp] at hg; cases hg; exact hq
    · rw [get_upd_ne _ _ e] at hg; exact h.froz j z cs hj hg
  · rw [get_upd_ne _ _ (fun e => hj (by rw [e]; exact hb))]; exact h.same j hj
  · have hj' : s.next ≤ j := hj
    rw [get_upd_ne _ _ (fun e => by rw [← e, h.wf j hj'] at hp; cases hp)]; exact h.wf j hj'
theorem evR_in (hg : ∀ g, inV C (gl g)) (he : inL C e) (hs : Fp C s0 s) {m : MOp} (hm : okM m = true) {v : AV} (h : evR gl e s m = some v) : inV C v := by
  unfold evR at h
  split at h
  · rename_i n x
    have hx := opd_in hg he (C := C) (show okO x = true from hm)
    split at h
    · rename_i b o hb; rw [hb] at hx
      split at h
      · rename_i z cs hc; exact cut_in (hs.cells _ _ _ hx hc) h
      · cases h
    · cases h
  · repeat' split at h
    all_goals first
      | (cases h; done)
      | (obtain ⟨b, _, rfl⟩ := Option.map_eq_some_iff.1 h; trivial)
  · cases h
theorem freeze_in (hs : Fp C s0 s) {n : Nat} {x v : AV} {s' : St} (hx : inV C x) (h : freeze n s x = some (v, s')) : inV C v ∧ Fp C s0 s' := by
  unfold freeze at h
  split at h
  · split at h
    · rename_i z cs hc
      split at h
      · cases h
        have := hs.cells _ _ _ hx hc
        exact ⟨⟨inL_take (inL_drop this _) _, trivial⟩, hs.upd hx hc this⟩
      · cases h
    · rename_i z cs hc
      split at h
      · cases h
        exact ⟨⟨inL_take (inL_drop (hs.froz _ _ _ hx hc) _) _, trivial⟩, hs⟩
      · cases h
    · cases h
  · cases h; exact ⟨hx, hs⟩
theorem freezeL_in (hg : ∀ g, inV C (gl g)) (he : inL C e) : ∀ {args : List (Nat × Opd)} {s : St} {vs : List AV} {s' : St}, (args.all fun p => okO p.2) = true → Fp C s0 s → freezeL gl e s args = some (vs, s') → inL C vs ∧ Fp C s0 s' := by
  intro args
  induction args with
  | nil => intro s vs s' _ hs h; cases h; exact ⟨trivial, hs⟩
  | cons p args ih =>
    obtain ⟨n, x⟩ := p
    intro s vs s' hp hs h
    simp only [List.all_cons, Bool.and_eq_true] at hp
    simp only [freezeL] at h
    split at h
    · rename_i v s1 h1
      obtain ⟨q1, q2⟩ := freeze_in hs (opd_in hg he hp.1) h1
      split at h
      · rename_i vs' s2 h2
        cases h
        obtain ⟨q3, q4⟩ := ih hp.2 q2 h2
        exact ⟨⟨q1, q3⟩, q4⟩
      · cases h
    · cases h
end
end Go.Ab
/- What a call can reach: operations that turn the state, code, functions. No conditions. -/
set_option linter.unusedSimpArgs false
set_option linter.unusedVariables false
namespace Go.Ab
open Go
section
variable {C : Nat → Prop} {gl : Nat → AV} {e : Env} {s0 : St}
theorem newsOf_in {s : St} (hs : Fp C s0 s) {size : Nat} {x : AV} {news : List AV} {m : Nat} (hx : inV C x) (h : newsOf size s x = some (news, m)) : inL C news := by
  unfold newsOf at h
  split at h
  · cases h; trivial
  · split at h
    · cases h; exact hx.1
    · cases h
  · split at h
    · cases h; exact bytes_in _
    · cases h
  · split at h
    · rename_i z cs hc
      split at h
      · cases h; exact inL_take (inL_drop (hs.cells _ _ _ hx hc) _) _
      · cases h
    · cases h
  · cases h
theorem appS_in {s s' : St} (hs : Fp C s0 s) {size bytes m : Nat} {x v : AV} {news : List AV} (hx : inV C x) (hn : inL C news) (h : appS size bytes s x news m = some (v, s')) : inV C v ∧ Fp C s0 s' := by
  unfold appS at h
  split at h
  · split at h
    · cases h; exact ⟨trivial, hs⟩
    · split at h
      · cases h; exact ⟨⟨hn, hs.new _ hs.le⟩, hs.mk' trivial⟩
      · cases h
  · split at h
    · rename_i hc
      split at h
      · cases h; exact ⟨⟨inL_app hx.1 hn, hx.2⟩, hs.upd hx.2 hc trivial⟩
      · cases h
    · cases h
  · cases h
theorem appH_in {s s' : St} (hs : Fp C s0 s) {size bytes m : Nat} {x v : AV} {news : List AV} (hx : inV C x) (hn : inL C news) (h : appH size bytes s x news m = some (v, s')) : inV C v ∧ Fp C s0 s' := by
  unfold appH at h
  split at h
  · split at h
    · cases h
    · split at h
      · cases h; exact ⟨hs.new _ hs.le, hs.mk' hn⟩
      · cases h
  · split at h
    · rename_i z cs hc
      split at h
      · cases h
        exact ⟨hs.new _ hs.le, (hs.upd (q := .dead) hx hc trivial).mk' (inL_app (hs.cells _ _ _ hx hc) hn)⟩
      · cases h
    · cases h
  · cases h
theorem rep_in {zs : List AV} (h : inL C zs) (n : Nat) : inL C (List.replicate n zs).flatten := inL_iff.2 fun v hv => by
  obtain ⟨l, hl, hv⟩ := List.mem_flatten.1 hv
  rw [(List.mem_replicate.1 hl).2] at hv
  exact inL_iff.1 h v hv
theorem evW_in (hg : ∀ g, inV C (gl g)) (he : inL C e) {s s' : St} (hs : Fp C s0 s) {m : MOp} (hm : okM m = true) {v : AV} (h : evW gl e s m = some (v, s')) : inV C v ∧ Fp C s0 s' := by
  unfold evW at h
  split at h
  · rename_i n x w
    simp only [okM, Bool.and_eq_true] at hm
    have hx := opd_in hg he (C := C) hm.1
    split at h
    · rename_i b o hb; rw [hb] at hx
      split at h
      · rename_i z cs hc
        split at h
        · rename_i vs hvs
          split at h
          · split at h
            · rename_i cs' hcs
              cases h
              exact ⟨trivial, hs.upd hx hc (storeL_in (hs.cells _ _ _ hx hc) (cellsOf_in (opd_in hg he hm.2) hvs) hcs)⟩
            · cases h
          · cases h
        · cases h
      · cases h
    · cases h
  · split at h
    · split at h
      · cases h; exact ⟨⟨bytes_in _, trivial⟩, hs⟩
      · cases h
    · cases h
  · split at h
    · split at h
      · cases h; exact ⟨hs.new _ hs.le, hs.mk' (bytes_in _)⟩
      · cases h
    · cases h
  · rename_i x
    have hx := opd_in hg he (C := C) (show okO x = true from hm)
    split at h
    · rename_i cs n t u z hb; rw [hb] at hx
      split at h
      · rename_i hc
        split at h
        · cases h; exact ⟨⟨hx.1, trivial⟩, hs.upd hx.2 hc trivial⟩
        · cases h
      · cases h
    · cases h
  · simp only [okM, Bool.and_eq_true] at hm
    have hx := opd_in hg he (C := C) hm.1
    have hy := opd_in hg he (C := C) hm.2
    split at h
    · rename_i news m' hn
      have := newsOf_in hs hy hn
      split at h
      · exact appH_in hs hx this h
      · exact appS_in hs hx this h
    · cases h
  · simp only [okM, Bool.and_eq_true] at hm
    split at h
    · rename_i cs hc
      have := fill_in hg he hm.2 (flatL_in _ hm.1) hc
      split at h
      · cases h; exact ⟨hs.new _ hs.le, hs.mk' this⟩
      · cases h; exact ⟨⟨this, hs.new _ hs.le⟩, hs.mk' trivial⟩
    · cases h
  · simp only [okM, Bool.and_eq_true] at hm
    split at h
    · rename_i cs hc
      cases h
      exact ⟨⟨fill_in hg he hm.2 (flatL_in _ hm.1) hc, trivial⟩, hs⟩
    · cases h
  · cases h; exact ⟨hs.new _ hs.le, hs.mk' (flatL_in _ hm)⟩
  · split at h
    · rename_i cs hc
      cases h
      exact ⟨hs.new _ hs.le, hs.mk' (cellsOf_in (opd_in hg he hm) hc)⟩
    · cases h
  · simp only [okM, Bool.and_eq_true] at hm
    split at h
    · split at h
      · cases h; exact ⟨hs.new _ hs.le, hs.mk' (rep_in (flatL_in _ hm.1.1) _)⟩
      · cases h
    · cases h
  · simp only [okM, Bool.and_eq_true] at hm
    have hx := opd_in hg he (C := C) hm.1
    have hy := opd_in hg he (C := C) hm.2
    split at h
    · rename_i z b o n hb; rw [hb] at hx
      split at h
      · rename_i news m' z' cs hn hc
        split at h
        · split at h
          · rename_i cs' hcs
            cases h
            exact ⟨trivial, hs.upd hx hc (storeL_in (hs.cells _ _ _ hx hc) (inL_take (newsOf_in hs hy hn) _) hcs)⟩
          · cases h
        · cases h
      · cases h
    · cases h
  · split at h
    · cases h; exact ⟨hs.new _ hs.le, hs.mk' trivial⟩
    · cases h
  · rename_i x
    have hx := opd_in hg he (C := C) (show okO x = true from hm)
    split at h
    · rename_i b hb; rw [hb] at hx
      split at h
      · rename_i hc
        split at h
        · cases h; exact ⟨⟨trivial, trivial, trivial, trivial⟩, hs.upd hx hc trivial⟩
        · cases h; exact ⟨⟨trivial, trivial⟩, hs⟩
      · cases h
    · cases h
  · cases h
/-- Calls that reach no further. -/
def Reach (C : Nat → Prop) (s0 : St) (call : Calls') : Prop := ∀ f args s v s', call f args s = some (v, s') → inL C args → Fp C s0 s → inV C v ∧ Fp C s0 s'
variable {call : Calls'}
theorem ev1_in (hc : Reach C s0 call) (hg : ∀ g, inV C (gl g)) (he : inL C e) {s s' : St} (hs : Fp C s0 s) {m : MOp} (hm : okM m = true) {v : AV} {n : Nat} (h : ev1 gl call e s m = some (v, s', n)) : inV C v ∧ Fp C s0 s' := by
  unfold ev1 at h
  split at h
  · rename_i w hw; cases h; exact ⟨evP_in hg he hm hw, hs⟩
  · split at h
    · rename_i w hw; cases h; exact ⟨evR_in hg he hs hm hw, hs⟩
    · split at h
      · split at h
        · rename_i vs s1 h1
          obtain ⟨q1, q2⟩ := freezeL_in hg he hm hs h1
          split at h
          · rename_i w s2 h2; cases h; exact hc _ _ _ _ _ h2 q1 q2
          · cases h
        · cases h
      · split at h
        · rename_i w s2 h2; cases h; exact evW_in hg he hs hm h2
        · cases h
theorem put_in (he : inL C e) {v : AV} (hv : inV C v) (d : Option Nat) : inL C (e.put d v) := by
  cases d with
  | none => exact he
  | some d => exact inL_set he hv d
theorem guardR_or {α : Type} {e : Env} {g : Option (Nat × Bool)} {a b : Option α} {r : α} (h : guardR e g a b = some r) : a = some r ∨ b = some r := by
  unfold guardR at h
  split at h
  · exact .inl h
  · split at h
    · split at h
      · exact .inl h
      · exact .inr h
    · exact .inr h
    · cases h
theorem tupE_in : inV C (.tup []) := trivial
theorem evOps_in (hc : Reach C s0 call) (hg : ∀ g, inV C (gl g)) : ∀ {ops : List MIns} {e : Env} {s : St} {e' : Env} {s' : St}, (ops.all fun i => okM i.op) = true → inL C e → Fp C s0 s → evOps gl call ops e s = some (e', s') → inL C e' ∧ Fp C s0 s' := by
  intro ops
  induction ops with
  | nil => intro e s e' s' _ he hs h; cases h; exact ⟨he, hs⟩
  | cons i is ih =>
    intro e s e' s' ho he hs h
    simp only [List.all_cons, Bool.and_eq_true] at ho
    simp only [evOps] at h
    rcases guardR_or h with h | h
    · unfold opR at h
      split at h
      · rename_i v s1 n h1
        obtain ⟨q1, q2⟩ := ev1_in hc hg he hs ho.1 h1
        exact ih ho.2 (put_in he q1 _) q2 h
      · cases h
    · exact ih ho.2 (put_in he tupE_in _) hs h
theorem allocZ_flat {i : MIns} {zs : List AV} (hi : okM i.op = true) (h : allocZ i = some zs) : flatL zs = true := by
  unfold allocZ at h
  split at h
  · rename_i z h1 _
    cases h
    rw [h1] at hi
    exact hi
  · cases h
theorem reserve_in : ∀ {ops : List MIns} {s : St}, (ops.all fun i => okM i.op) = true → Fp C s0 s → Fp C s0 (reserve ops s) := by
  intro ops
  induction ops with
  | nil => intro s _ hs; exact hs
  | cons i is ih =>
    intro s ho hs
    simp only [List.all_cons, Bool.and_eq_true] at ho
    simp only [reserve]
    split
    · rename_i zs hz
      exact ih ho.2 (hs.mk' (flatL_in _ (allocZ_flat ho.1 hz)))
    · exact ih ho.2 hs
theorem evLoud_in (hc : Reach C s0 call) (hg : ∀ g, inV C (gl g)) : ∀ {ops : List MIns} {n : Nat} {e : Env} {s : St} {l : List Rec} {e' : Env} {s' : St} {l' : List Rec}, (ops.all fun i => okM i.op) = true → (∀ j, n ≤ j → C j) → inL C e → Fp C s0 s → evLoud gl call ops n e s l = some (e', s', l') → inL C e' ∧ Fp C s0 s' := by
  intro ops
  induction ops with
  | nil => intro n e s l e' s' l' _ _ he hs h; cases h; exact ⟨he, hs⟩
  | cons i is ih =>
    intro n e s l e' s' l' ho hn he hs h
    simp only [List.all_cons, Bool.and_eq_true] at ho
    simp only [evLoud] at h
    split at h
    · unfold placeR at h
      split at h
      · exact ih ho.2 (fun j hj => hn j (by omega)) (put_in he (v := .ptr n 0) (hn n (Nat.le_refl _)) _) hs h
      · cases h
    · rcases guardR_or h with h | h
      · unfold opR at h
        split at h
        · rename_i v s1 k h1
          obtain ⟨q1, q2⟩ := ev1_in hc hg he hs ho.1 h1
          exact ih ho.2 hn (put_in he q1 _) q2 h
        · cases h
      · exact ih ho.2 hn (put_in he tupE_in _) hs h
/-- Code whose constants hold no blocks. -/
def okC : MC → Bool
  | .reg ops => ops.all fun i => okM i.op
  | .draw ops _ => ops.all fun i => okM i.op
  | .seq a b => okC a && okC b
  | .cond _ a b => okC a && okC b
  | .block _ a => okC a
  | .loop _ a => okC a
  | _ => true
def InOut (C : Nat → Prop) (s0 : St) (r : Out) : Prop := ∀ x e s, r = some (x, e, s) → inL C e ∧ Fp C s0 s
theorem maskE_in : ∀ (l : List Bool) (e : Env), inL C e → inL C (maskE l e) := by
  intro l
  induction l with
  | nil => intro e h; simpa [maskE] using h
  | cons b l ih =>
    intro e h
    cases e with
    | nil => simpa [maskE] using h
    | cons v e =>
      simp only [maskE]
      refine ⟨?_, ih e h.2⟩
      split
      · exact h.1
      · trivial
theorem seqR_in {r : Out} {f : Env → St → Out} (hr : InOut C s0 r) (hf : ∀ e s, inL C e → Fp C s0 s → InOut C s0 (f e s)) : InOut C s0 (seqR r f) := by
  intro x e s h
  unfold seqR at h
  split at h
  · rename_i e1 s1
    obtain ⟨q1, q2⟩ := hr _ _ _ rfl
    exact hf _ _ q1 q2 _ _ _ h
  · cases h; exact hr _ _ _ rfl
  · cases h; exact hr _ _ _ rfl
  · cases h
theorem iter_in {f : Env → St → Out} (l : List Bool) (hf : ∀ e s, inL C e → Fp C s0 s → InOut C s0 (f e s)) : ∀ (k : Nat) (e : Env) (s : St), inL C e → Fp C s0 s → InOut C s0 (iter f l k e s) := by
  intro k
  induction k with
  | zero => intro e s _ _ x e' s' h; cases h
  | succ k ih =>
    intro e s he hs
    exact seqR_in (hf _ _ (maskE_in l e he) hs) ih
theorem evC_in (hc : Reach C s0 call) (hg : ∀ g, inV C (gl g)) (k : Nat) : ∀ (c : MC), okC c = true → ∀ (e : Env) (s : St), inL C e → Fp C s0 s → InOut C s0 (evC gl call k c e s) := by
  intro c
  induction c with
  | skip => intro _ e s he hs x e' s' h; cases h; exact ⟨he, hs⟩
  | reg ops =>
    intro ho e s he hs x e' s' h
    simp only [evC, regR] at h
    split at h
    · rename_i e1 s1 h1; cases h; exact evOps_in hc hg ho he hs h1
    · cases h
  | draw ops bf =>
    intro ho e s he hs x e' s' h
    simp only [evC, drawR] at h
    split at h
    · rename_i e1 s1 l h1
      split at h
      · cases h; exact evLoud_in hc hg ho (fun j hj => hs.new j (Nat.le_trans hs.le hj)) he (reserve_in ho hs) h1
      · cases h
    · cases h
  | seq a b iha ihb =>
    intro ho e s he hs
    simp only [okC, Bool.and_eq_true] at ho
    exact seqR_in (iha ho.1 e s he hs) (fun e s he hs => ihb ho.2 e s he hs)
  | cond x a b iha ihb =>
    intro ho e s he hs y e' s' h
    simp only [okC, Bool.and_eq_true] at ho
    simp only [evC, condR] at h
    split at h
    · exact iha ho.1 e s he hs _ _ _ h
    · exact ihb ho.2 e s he hs _ _ _ h
    · cases h
  | block id a ih =>
    intro ho e s he hs y e' s' h
    have hi := ih ho e s he hs
    simp only [evC, blockR] at h
    split at h
    · rename_i i e1 s1 h1
      split at h
      · cases h; exact hi _ _ _ h1
      · cases h; exact hi _ _ _ h1
    · exact hi _ _ _ h
  | loop l a ih => intro ho e s he hs; exact iter_in l (fun e s he hs => ih ho e s he hs) k e s he hs
  | exit id => intro _ e s he hs x e' s' h; cases h; exact ⟨he, hs⟩
  | ret => intro _ e s he hs x e' s' h; cases h; exact ⟨he, hs⟩
theorem resV_in {e : Env} (he : inL C e) {s s' : St} (hs : Fp C s0 s) {r : MRes} {v : AV} (h : resV e s r = some (v, s')) : inV C v ∧ Fp C s0 s' := by
  cases r with
  | tmp n i => exact freeze_in hs (at_in he i) h
  | cell i n =>
    have hx := at_in (C := C) he i
    simp only [resV] at h
    split at h
    · rename_i b o hb; rw [hb] at hx
      split at h
      · rename_i z cs hc
        split at h
        · rename_i w hw; cases h; exact ⟨cut_in (hs.cells _ _ _ hx hc) hw, hs⟩
        · cases h
      · cases h
    · cases h
theorem resVs_in {e : Env} (he : inL C e) : ∀ {rs : List MRes} {s s' : St} {vs : List AV}, Fp C s0 s → resVs e s rs = some (vs, s') → inL C vs ∧ Fp C s0 s' := by
  intro rs
  induction rs with
  | nil => intro s s' vs hs h; cases h; exact ⟨trivial, hs⟩
  | cons r rs ih =>
    intro s s' vs hs h
    simp only [resVs] at h
    split at h
    · rename_i v s1 h1
      obtain ⟨q1, q2⟩ := resV_in he hs h1
      split at h
      · rename_i vs' s2 h2
        cases h
        obtain ⟨q3, q4⟩ := ih q2 h2
        exact ⟨⟨q1, q3⟩, q4⟩
      · cases h
    · cases h
theorem outR_in {rs : List MRes} {r : Out} (hr : InOut C s0 r) {v : AV} {s' : St} (h : outR rs r = some (v, s')) : inV C v ∧ Fp C s0 s' := by
  unfold outR at h
  split at h
  · cases h
  · rename_i x e s _
    obtain ⟨q1, q2⟩ := hr _ _ _ rfl
    split at h
    · rename_i vs s1 h1
      cases h
      obtain ⟨q3, q4⟩ := resVs_in q1 q2 h1
      refine ⟨?_, q4⟩
      unfold oneOr
      split
      · exact q3.1
      · exact q3
    · cases h
  · cases h
theorem env0_in {n : Nat} {args : List AV} (h : inL C args) : inL C (env0 n args) := inL_app h (inL_iff.2 fun v hv => by
  rw [(List.mem_replicate.1 hv).2]; trivial)
/-- Functions reach no further than their arguments. -/
theorem evF_in' {F : Nat → Option MFun} {ext : Nat → Option (List AV → St → Option (AV × St))} (hF : ∀ f m, F f = some m → okC m.body = true) (hg : ∀ g, inV C (gl g))
    (hx : ∀ f h, ext f = some h → ∀ args s v s', h args s = some (v, s') → inL C args → Fp C s0 s → inV C v ∧ Fp C s0 s') : ∀ k, Reach C s0 (evF gl F ext k) := by
  intro k
  induction k with
  | zero => intro f args s v s' h; cases h
  | succ k ih =>
    intro f args s v s' h ha hs
    simp only [evF] at h
    split at h
    · rename_i g hg'; exact hx f g hg' args s v s' h ha hs
    · split at h
      · cases h
      · rename_i m hm
        exact outR_in (evC_in ih hg k m.body (hF f m hm) _ _ (env0_in ha) hs) h
end
end Go.Ab
/- What a call can reach: loaded functions hold no blocks. No conditions. -/
set_option linter.unusedSimpArgs false
set_option linter.unusedVariables false
namespace Go.Ab
open Go
theorem toAV_flat {v : Value} {x : AV} (h : toAV v = some x) : flat x = true := by
  unfold toAV at h
  split at h <;> first | (cases h; done) | (cases h; rfl)
theorem toAVs_flat : ∀ {vs : List Value} {xs : List AV}, toAVs vs = some xs → flatL xs = true := by
  intro vs
  induction vs with
  | nil => intro xs h; cases h; rfl
  | cons v vs ih =>
    intro xs h
    simp only [toAVs] at h
    split at h
    · rename_i x ys h1 h2
      cases h
      simp only [flatL, Bool.and_eq_true]
      exact ⟨toAV_flat h1, ih h2⟩
    · cases h
theorem toAVa_flat {v : Value} {x : AV} (h : toAVa v = some x) : flat x = true := by
  unfold toAVa at h
  split at h
  · obtain ⟨cs, h1, rfl⟩ := Option.map_eq_some_iff.1 h
    exact toAVs_flat h1
  · exact toAV_flat h
section
variable {P : Program}
theorem cOpd_ok {x : Operand} {y : Opd} (h : cOpd x = some y) : okO y = true := by
  unfold cOpd at h
  split at h
  · cases h; rfl
  · obtain ⟨v, h1, rfl⟩ := Option.map_eq_some_iff.1 h
    exact toAVa_flat h1
  · cases h; rfl
  · cases h
theorem cParts_ok {place : Nat → Option (Nat × Nat)} : ∀ {ps : List (Nat × Operand)} {l : List (Nat × Nat × Opd)}, cParts place ps = some l → (l.all fun p => okO p.2.2) = true := by
  intro ps
  induction ps with
  | nil => intro l h; cases h; rfl
  | cons p ps ih =>
    obtain ⟨i, x⟩ := p
    intro l h
    simp only [cParts] at h
    split at h
    · rename_i off size y l' h1 h2 h3
      cases h
      simp only [List.all_cons, Bool.and_eq_true]
      exact ⟨cOpd_ok h2, ih h3⟩
    · cases h
theorem cArgs_ok : ∀ {xs : List Operand} {ts : List TypeId} {l : List (Nat × Opd)}, cArgs P xs ts = some l → (l.all fun p => okO p.2) = true := by
  intro xs
  induction xs with
  | nil => intro ts l h; simp only [cArgs] at h; cases h; rfl
  | cons x xs ih =>
    intro ts l h
    simp only [cArgs] at h
    split at h
    · rename_i y ys h1 h2
      cases h
      simp only [List.all_cons, Bool.and_eq_true]
      exact ⟨cOpd_ok h1, ih h2⟩
    · cases h
theorem zeroOf_flat {t : TypeId} {x : AV} (h : zeroOf P t = some x) : flat x = true := by
  unfold zeroOf at h
  split at h
  · exact toAVa_flat h
  · cases h
theorem zeroCells_flat {t : TypeId} {zs : List AV} (h : zeroCells' P t = some zs) : flatL zs = true := by
  obtain ⟨x, h1, rfl⟩ := Option.map_eq_some_iff.1 h
  have := zeroOf_flat h1
  unfold zcells
  split
  · exact this
  · simp only [flatL, this, Bool.and_self]
theorem flatL_app {l m : List AV} (h : flatL l = true) (g : flatL m = true) : flatL (l ++ m) = true := by
  induction l with
  | nil => exact g
  | cons a l ih =>
    simp only [flatL, Bool.and_eq_true, List.cons_append] at h ⊢
    exact ⟨h.1, ih h.2⟩
theorem rep_flat {zs : List AV} (h : flatL zs = true) (n : Nat) : flatL (List.replicate n zs).flatten = true := by
  induction n with
  | zero => rfl
  | succ n ih => rw [List.replicate_succ, List.flatten_cons]; exact flatL_app h ih
set_option maxHeartbeats 4000000 in
theorem cOp_ok {oks : List (Nat × EqF)} {ht : List TypeId} {o : Oper} {m : MOp} (h : cOp P oks ht o = some m) : okM m = true := by
  unfold cOp at h
  repeat' split at h
  all_goals first
    | (cases h; done)
    | (obtain ⟨y, hy, rfl⟩ := Option.map_eq_some_iff.1 h; first | exact cOpd_ok hy | exact zeroCells_flat hy | exact cArgs_ok hy | rfl)
    | (cases h; simp only [okM, Bool.and_eq_true]; first
        | exact cOpd_ok (by assumption)
        | exact ⟨cOpd_ok (by assumption), cOpd_ok (by assumption)⟩
        | exact ⟨⟨cOpd_ok (by assumption), cOpd_ok (by assumption)⟩, cOpd_ok (by assumption)⟩
        | exact ⟨zeroCells_flat (by assumption), cParts_ok (by assumption)⟩
        | exact ⟨rep_flat (zeroCells_flat (by assumption)) _, cParts_ok (by assumption)⟩
        | exact ⟨⟨zeroCells_flat (by assumption), cOpd_ok (by assumption)⟩, cOpd_ok (by assumption)⟩
        | exact ⟨zeroOf_flat (by assumption), cOpd_ok (by assumption)⟩)
    | (cases h; rfl)
theorem cInss_ok {oks : List (Nat × EqF)} {ht : List TypeId} {ops : Array Oper} : ∀ {os : List Oper} {is : List MIns}, cInss P oks ht ops os = some is → (is.all fun i => okM i.op) = true := by
  intro os
  induction os with
  | nil => intro is h; cases h; rfl
  | cons o os ih =>
    intro is h
    simp only [cInss] at h
    split at h
    · rename_i i is' h1 h2
      cases h
      simp only [List.all_cons, Bool.and_eq_true]
      refine ⟨?_, ih h2⟩
      unfold cIns at h1
      split at h1
      · rename_i m hm
        split at h1
        · cases h1; exact cOp_ok hm
        · split at h1
          · cases h1; exact cOp_ok hm
          · cases h1
      · cases h1
    · cases h
theorem cCode_ok {oks : List (Nat × EqF)} {ht : List TypeId} : ∀ c : Code, okC (cCode P oks ht c) = true := by
  intro c
  induction c with
  | skip => rfl
  | region p ops draw =>
    simp only [cCode]
    split
    · rename_i is h1
      split
      · split
        · exact cInss_ok h1
        · rfl
      · exact cInss_ok h1
    · rfl
  | seq a b iha ihb => simp only [cCode, okC, iha, ihb, Bool.and_self]
  | cond c a b iha ihb =>
    simp only [cCode]
    split
    · simp only [okC, iha, ihb, Bool.and_self]
    · rfl
  | block id a ih => simpa only [cCode, okC] using ih
  | loop a ih => simpa only [cCode, okC] using ih
  | _ => first | rfl | (simp only [cCode]; rfl)
theorem mark_ok (n rets : Nat) : ∀ (c : MC) (out : Nat) (ex : List (Nat × Nat)), okC c = true → okC (mark n rets c out ex) = true := by
  intro c
  induction c with
  | seq a b iha ihb =>
    intro out ex h
    simp only [okC, Bool.and_eq_true] at h
    simp only [mark, okC, Bool.and_eq_true]
    exact ⟨iha _ _ h.1, ihb _ _ h.2⟩
  | cond c a b iha ihb =>
    intro out ex h
    simp only [okC, Bool.and_eq_true] at h
    simp only [mark, okC, Bool.and_eq_true]
    exact ⟨iha _ _ h.1, ihb _ _ h.2⟩
  | block id a ih => intro out ex h; exact ih _ _ h
  | loop l a ih => intro out ex h; exact ih _ _ h
  | _ => intro out ex h; exact h
theorem table_ok {f : Nat} {m : MFun} (h : tableOf P f = some m) : okC m.body = true := by
  unfold tableOf at h
  split at h
  · split at h
    · cases h
    · unfold cFun at h
      split at h
      · cases h; exact mark_ok _ _ _ _ _ (cCode_ok _)
      · cases h
  · cases h
end
end Go.Ab
