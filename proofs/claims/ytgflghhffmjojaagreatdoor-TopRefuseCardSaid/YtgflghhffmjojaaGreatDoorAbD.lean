/- The relation between the evaluator's values and the machine's: what it says, and that it lives on. No conditions. -/
import Derived.Test.YtgflghhffmjojaaGreatDoorAb1
import Derived.Below
import Derived.Laws.AppendOwn
import Derived.Lib.AppendStr
import Derived.Laws.IdiomCopy
import Derived.WalkKit
import Derived.Laws.Strings
import Derived.Deep.AppendSrc
import Derived.Laws.BytesString
import Derived.Laws.Cover4
import Derived.Great.BuildSlice
import Derived.Laws.MakeOwn
import Derived.Laws.RangeAny
import Derived.Laws.StructEq
import Derived.Laws.IdiomStrings
import Derived.Orders
namespace Go.Ab
open Go
/-- Whose block a ticket speaks of: the block, where its slice begins, the size of an element, how many there are, how many may be. -/
structure Tk where
  g : Nat
  o : Nat
  sz : Nat
  n : Nat
  cap : Nat
/-- What is known of the machine's memory beside: cells that never turn; where the small heap's blocks lie. -/
structure Gh where
  base : Nat
  imm : Nat → Nat → Option Value
  rho : Nat → Option Nat
  lim : Nat → Option (Nat × Nat)
  tk : Nat → Nat → Option Tk
  /-- Blocks that the small heap has made already, the machine not yet. -/
  res : Nat → Bool
structure Gh.le0 (G G' : Gh) : Prop where
  base : G'.base = G.base
  imm : ∀ g o v, G.imm g o = some v → G'.imm g o = some v
  rho : ∀ b g, G.rho b = some g → G'.rho b = some g
  lim : ∀ b g, G.lim b = some g → G'.lim b = some g
  tk : ∀ t v T, G.tk t v = some T → G'.tk t v = some T
  old : ∀ g o, g < G.base → G'.imm g o = G.imm g o
structure Gh.le (G G' : Gh) : Prop extends Gh.le0 G G' where
  res : G'.res = G.res
theorem Gh.le0_refl (G : Gh) : G.le0 G := ⟨rfl, fun _ _ _ h => h, fun _ _ h => h, fun _ _ h => h, fun _ _ _ h => h, fun _ _ _ => rfl⟩
theorem Gh.le_refl (G : Gh) : G.le G := ⟨G.le0_refl, rfl⟩
theorem Gh.le0.trans {A B C : Gh} (h : A.le0 B) (k : B.le0 C) : A.le0 C :=
  ⟨k.base.trans h.base, fun _ _ _ x => k.imm _ _ _ (h.imm _ _ _ x), fun _ _ x => k.rho _ _ (h.rho _ _ x), fun _ _ x => k.lim _ _ (h.lim _ _ x), fun _ _ _ x => k.tk _ _ _ (h.tk _ _ _ x), fun g o hg => (k.old g o (by rw [h.base]; exact hg)).trans (h.old g o hg)⟩
theorem Gh.le.trans {A B C : Gh} (h : A.le B) (k : B.le C) : A.le C := ⟨h.tole0.trans k.tole0, k.res.trans h.res⟩
/-- An object that lies in the machine's memory. -/
def Gh.Live (G : Gh) (b : Nat) (o : Obj) : Prop := o ≠ .dead ∧ G.res b = false
/-- The ticket of a slice. -/
def TkOk (G : Gh) (g o n cap : Nat) : Option (Nat × Nat × Nat) → Prop
  | none => True
  | some (t, v, z) => ∃ k T, G.tk t v = some T ∧ T.sz = z ∧ T.g = g ∧ n + k = T.n ∧ cap + k = T.cap ∧ (o = T.o + k * T.sz ∨ cap = 0)
theorem TkOk.mono0 {G G' : Gh} (h : G.le0 G') {g o n cap : Nat} {tk : Option (Nat × Nat × Nat)} (x : TkOk G g o n cap tk) : TkOk G' g o n cap tk := by
  cases tk with
  | none => trivial
  | some p =>
    obtain ⟨t, v, z⟩ := p
    obtain ⟨k, T, h1, h2⟩ := x
    exact ⟨k, T, h.tk _ _ _ h1, h2⟩
mutual
inductive RelV (G : Gh) : AV → Value → Prop
  | undef (v : Value) : RelV G .undef v
  | bool (b : Bool) : RelV G (.bool b) (.bool b)
  | int (k : IntKind) (n : Int) : RelV G (.int k n) (.int k n)
  | str (s : ByteArray) : RelV G (.str s.data.toList) (.string s)
  | nilp : RelV G .nilp (.pointer none)
  | ptr (b o g : Nat) (h : G.rho b = some g) : RelV G (.ptr b o) (.pointer (some ⟨g, o, none⟩))
  | rp (cs : List AV) (g o : Nat) (vs : List Value) (h : RelL G cs vs) (hi : ∀ j v, vs[j]? = some v → G.imm g (o + j) = some v) : RelV G (.rp cs) (.pointer (some ⟨g, o, none⟩))
  | nils : RelV G .nils (.slice none 0 0)
  | sl (cs : List AV) (n : Nat) (tk : Option (Nat × Nat × Nat)) (g o cap : Nat) (vs : List Value) (h : RelL G cs vs) (hi : ∀ j v, vs[j]? = some v → G.imm g (o + j) = some v)
      (hn : n ≤ cap) (hc : cap ≤ maxLen) (ht : TkOk G g o n cap tk) : RelV G (.sl cs n tk) (.slice (some ⟨g, o, none⟩) n cap)
  | sl0 (a : Addr) : RelV G (.sl [] 0 none) (.slice (some a) 0 0)
  | hs (z b o n g cap L : Nat) (h : G.rho b = some g) (hl : G.lim b = some (z, L)) (hn : n ≤ cap) (hc : o + cap * z ≤ L) (hm : cap ≤ maxLen) : RelV G (.hs z b o n) (.slice (some ⟨g, o, none⟩) n cap)
  | nili : RelV G .nili .nilIface
  | iface (t : Nat) (a : AV) (v : Value) (h : RelV G a v) : RelV G (.iface t a) (.iface t v)
  | agg (cs : List AV) (vs : Array Value) (h : RelL G cs vs.toList) : RelV G (.agg cs) (.agg vs)
  | tup (cs : List AV) (vs : Array Value) (h : RelT G cs vs.toList) : RelV G (.tup cs) (.tuple vs)
  | clo (f : Nat) (cs : List AV) (vs : Array Value) (h : RelT G cs vs.toList) : RelV G (.clo f cs) (.func (.func f) #[] vs)
/-- Cells: none of them is a struct or a tuple. -/
inductive RelL (G : Gh) : List AV → List Value → Prop
  | nil : RelL G [] []
  | cons (a : AV) (v : Value) (as : List AV) (vs : List Value) (h : RelV G a v) (h1 : v.oneCell' = true) (t : RelL G as vs) : RelL G (a :: as) (v :: vs)
inductive RelT (G : Gh) : List AV → List Value → Prop
  | nil : RelT G [] []
  | cons (a : AV) (v : Value) (as : List AV) (vs : List Value) (h : RelV G a v) (t : RelT G as vs) : RelT G (a :: as) (v :: vs)
end
mutual
theorem RelV.mono0 {G G' : Gh} (hG : G.le0 G') {a : AV} {v : Value} (x : RelV G a v) : RelV G' a v := by
  cases x with
  | undef => exact .undef _
  | bool => exact .bool _
  | int => exact .int _ _
  | str => exact .str _
  | nilp => exact .nilp
  | ptr b o g h => exact .ptr b o g (hG.rho _ _ h)
  | rp cs g o vs h hi => exact .rp cs g o vs (RelL.mono0 hG h) (fun j v q => hG.imm _ _ _ (hi j v q))
  | nils => exact .nils
  | sl cs n tk g o cap vs h hi hn hc ht => exact .sl cs n tk g o cap vs (RelL.mono0 hG h) (fun j v q => hG.imm _ _ _ (hi j v q)) hn hc (ht.mono0 hG)
  | sl0 a => exact .sl0 a
  | hs z b o n g cap L h hl hn hc hm => exact .hs z b o n g cap L (hG.rho _ _ h) (hG.lim _ _ hl) hn hc hm
  | nili => exact .nili
  | iface t a v h => exact .iface t a v (RelV.mono0 hG h)
  | agg cs vs h => exact .agg cs vs (RelL.mono0 hG h)
  | tup cs vs h => exact .tup cs vs (RelT.mono0 hG h)
  | clo f cs vs h => exact .clo f cs vs (RelT.mono0 hG h)
theorem RelL.mono0 {G G' : Gh} (hG : G.le0 G') {as : List AV} {vs : List Value} (x : RelL G as vs) : RelL G' as vs := by
  cases x with
  | nil => exact .nil
  | cons a v as vs h h1 t => exact .cons a v as vs (RelV.mono0 hG h) h1 (RelL.mono0 hG t)
theorem RelT.mono0 {G G' : Gh} (hG : G.le0 G') {as : List AV} {vs : List Value} (x : RelT G as vs) : RelT G' as vs := by
  cases x with
  | nil => exact .nil
  | cons a v as vs h t => exact .cons a v as vs (RelV.mono0 hG h) (RelT.mono0 hG t)
end
theorem RelV.mono {G G' : Gh} (hG : G.le G') {a : AV} {v : Value} (x : RelV G a v) : RelV G' a v := x.mono0 hG.tole0
theorem RelL.mono {G G' : Gh} (hG : G.le G') {as : List AV} {vs : List Value} (x : RelL G as vs) : RelL G' as vs := x.mono0 hG.tole0
theorem RelT.mono {G G' : Gh} (hG : G.le G') {as : List AV} {vs : List Value} (x : RelT G as vs) : RelT G' as vs := x.mono0 hG.tole0
theorem TkOk.mono {G G' : Gh} (h : G.le G') {g o n cap : Nat} {tk : Option (Nat × Nat × Nat)} (x : TkOk G g o n cap tk) : TkOk G' g o n cap tk := x.mono0 h.tole0
/-! ### Lists of cells -/
theorem RelL.length {G : Gh} {as : List AV} {vs : List Value} (x : RelL G as vs) : as.length = vs.length := by
  induction as generalizing vs with
  | nil => cases x; rfl
  | cons a as ih => cases x with | cons _ v _ vs h h1 t => simp [ih t]
theorem RelL.append {G : Gh} {as bs : List AV} {vs us : List Value} (x : RelL G as vs) (y : RelL G bs us) : RelL G (as ++ bs) (vs ++ us) := by
  induction as generalizing vs with
  | nil => cases x; exact y
  | cons a as ih => cases x with | cons _ v _ vs h h1 t => exact .cons _ _ _ _ h h1 (ih t)
theorem RelL.drop {G : Gh} {as : List AV} {vs : List Value} (x : RelL G as vs) (n : Nat) : RelL G (as.drop n) (vs.drop n) := by
  induction n generalizing as vs with
  | zero => simpa using x
  | succ n ih => cases x with
    | nil => simpa using RelL.nil
    | cons _ v _ vs h h1 t => simpa using ih t
theorem RelL.take {G : Gh} {as : List AV} {vs : List Value} (x : RelL G as vs) (n : Nat) : RelL G (as.take n) (vs.take n) := by
  induction n generalizing as vs with
  | zero => simpa using RelL.nil
  | succ n ih => cases x with
    | nil => simpa using RelL.nil
    | cons _ v _ vs h h1 t => simpa using RelL.cons _ _ _ _ h h1 (ih t)
theorem RelL.get {G : Gh} {as : List AV} {vs : List Value} (x : RelL G as vs) {i : Nat} {a : AV} (h : as[i]? = some a) : ∃ v, vs[i]? = some v ∧ RelV G a v ∧ v.oneCell' = true := by
  induction i generalizing as vs with
  | zero => cases x with
    | nil => simp at h
    | cons _ v _ vs h' h1 t => simp at h; subst h; exact ⟨v, by simp, h', h1⟩
  | succ i ih => cases x with
    | nil => simp at h
    | cons _ v _ vs h' h1 t => simpa using ih t (by simpa using h)
theorem RelL.set {G : Gh} {as : List AV} {vs : List Value} (x : RelL G as vs) (i : Nat) {a : AV} {v : Value} (h : RelV G a v) (h1 : v.oneCell' = true) : RelL G (as.set i a) (vs.set i v) := by
  induction i generalizing as vs with
  | zero => cases x with
    | nil => simpa using RelL.nil
    | cons _ u _ us h' h1' t => simpa using RelL.cons _ _ _ _ h h1 t
  | succ i ih => cases x with
    | nil => simpa using RelL.nil
    | cons _ u _ us h' h1' t => simpa using RelL.cons _ _ _ _ h' h1' (ih t)
theorem RelL.one {G : Gh} {a : AV} {v : Value} (h : RelV G a v) (h1 : v.oneCell' = true) : RelL G [a] [v] := .cons _ _ _ _ h h1 .nil
theorem RelL.mem {G : Gh} {as : List AV} {vs : List Value} (x : RelL G as vs) : ∀ v ∈ vs, v.oneCell' = true := by
  induction as generalizing vs with
  | nil => cases x; simp
  | cons a as ih => cases x with | cons _ v _ vs h h1 t => intro u hu; rcases List.mem_cons.1 hu with rfl | hu; exact h1; exact ih t u hu
theorem RelT.get {G : Gh} {as : List AV} {vs : List Value} (x : RelT G as vs) {i : Nat} {a : AV} (h : as[i]? = some a) : ∃ v, vs[i]? = some v ∧ RelV G a v := by
  induction i generalizing as vs with
  | zero => cases x with
    | nil => simp at h
    | cons _ v _ vs h' t => simp at h; subst h; exact ⟨v, by simp, h'⟩
  | succ i ih => cases x with
    | nil => simp at h
    | cons _ v _ vs h' t => simpa using ih t (by simpa using h)
theorem RelT.length {G : Gh} {as : List AV} {vs : List Value} (x : RelT G as vs) : as.length = vs.length := by
  induction as generalizing vs with
  | nil => cases x; rfl
  | cons a as ih => cases x with | cons _ v _ vs h t => simp [ih t]
theorem RelT.app {G : Gh} {as bs : List AV} {vs us : List Value} (x : RelT G as vs) (y : RelT G bs us) : RelT G (as ++ bs) (vs ++ us) := by
  induction as generalizing vs with
  | nil => cases x; exact y
  | cons a as ih => cases x with | cons _ v _ vs h t => exact .cons _ _ _ _ h (ih t)
/-! ### The small heap -/
theorem getH_upd_same (h : List (Nat × Obj)) (b : Nat) (o o' : Obj) (hb : getH h b = some o) : getH (updH h b o') b = some o' := by
  induction h with
  | nil => simp [getH] at hb
  | cons p h ih =>
    obtain ⟨i, q⟩ := p
    by_cases e : i = b
    · subst e; simp [updH, getH]
    · simp only [getH, e, if_false] at hb; simp [updH, getH, e, ih hb]
theorem getH_upd_ne (h : List (Nat × Obj)) (b c : Nat) (o : Obj) (hb : c ≠ b) : getH (updH h b o) c = getH h c := by
  induction h with
  | nil => simp [getH, updH]
  | cons p h ih =>
    obtain ⟨i, q⟩ := p
    by_cases e : i = b
    · subst e; simp [updH, getH, Ne.symm hb]
    · simp [updH, getH, e, ih]
theorem St.get_upd_same (s : St) {b : Nat} {o : Obj} (o' : Obj) (hb : s.get b = some o) : (s.upd b o').get b = some o' := getH_upd_same _ _ _ _ hb
theorem St.get_upd_ne (s : St) {b c : Nat} (o : Obj) (hb : c ≠ b) : (s.upd b o).get c = s.get c := getH_upd_ne _ _ _ _ hb
theorem St.get_new_same (s : St) (o : Obj) : (s.new o).get s.next = some o := by simp [St.get, St.new, getH]
theorem St.get_new_ne (s : St) {c : Nat} (o : Obj) (hb : c ≠ s.next) : (s.new o).get c = s.get c := by simp [St.get, St.new, getH, Ne.symm hb]
/-- What is frozen of a row lies behind it. -/
def FrOk (cur : Array Value) (fr : Nat × Nat) : Prop := fr = (0, 0) ∨ cur.size ≤ fr.1
theorem FrOk.zero (cur : Array Value) : FrOk cur (0, 0) := .inl rfl
theorem FrOk.sized {cur cur' : Array Value} {fr : Nat × Nat} (h : FrOk cur fr) (hs : cur'.size = cur.size) : FrOk cur' fr := by
  unfold FrOk at h ⊢; rw [hs]; exact h
theorem run_storeCells_fr (P : Program) (g o : Nat) (t : TypeId) (fr : Nat × Nat) : ∀ (vs : List Value) (i : Nat) (cur : Array Value) (w : World), w.heap[g]? = some (.cells cur t fr) → FrOk cur fr → o + i + vs.length ≤ cur.size → (∀ v ∈ vs, v.oneCell' = true) →
    (storeCells ⟨g, o, none⟩ vs i).run P w = .ok () (w.setRow g (cur.toList.take (o + i) ++ vs ++ cur.toList.drop (o + i + vs.length)).toArray)
  | [], i, cur, w, hg, _, _, _ => by
    simp only [storeCells, List.append_nil, List.length_nil, Nat.add_zero, List.take_append_drop, Array.toArray_toList]
    rw [setRow_self w g cur t fr hg]
    rfl
  | v :: rest, i, cur, w, hg, hf, hl, h1 => by
    have hi : o + i < cur.size := by simp at hl; omega
    have hadd : (⟨g, o, none⟩ : Addr).add i = ⟨g, o + i, none⟩ := by unfold Addr.add; split <;> simp_all
    have hcell : w.cell? ⟨g, o + i, none⟩ = some cur[o + i] := by simp [World.cell?, hg, hi]
    have hfro : w.frozen? ⟨g, o + i, none⟩ = false := by
      rcases hf with rfl | hf
      · simp [World.frozen?, hg]
      · obtain ⟨lo, hh⟩ := fr
        simp only at hf
        simp [World.frozen?, hg]; omega
    have hst : (store ((⟨g, o, none⟩ : Addr).add i) v).run P w = .ok () (w.setRow g (cur.setIfInBounds (o + i) v)) := by
      rw [hadd, run_store P w _ v _ (h1 v (by simp)), hcell]
      simp [hfro, setCell_eq_setRow w g (o + i) cur t fr v hg]
    have ih := run_storeCells_fr P g o t fr rest (i + 1) (cur.setIfInBounds (o + i) v) (w.setRow g (cur.setIfInBounds (o + i) v)) (setRow_heap w g cur _ t _ hg) (hf.sized (by simp)) (by simp at hl ⊢; omega) (fun x hx => h1 x (by simp [hx]))
    simp only [storeCells, Sem.run_bind, hst, Result.andThen_ok, ih, setRow_setRow]
    congr 3
    have e := list_seg_step cur.toList (o + i) v rest (by simp at hl ⊢; omega)
    simpa [Array.toList_setIfInBounds, Nat.add_assoc] using e
/-- A block of the small heap, as it lies in the machine's memory. -/
def ObjOk (G : Gh) (w : World) (b : Nat) : Obj → Nat → Prop
  | .cells sz cs, g => G.rho b = some g ∧ ∃ cur E vs fr, w.heap[g]? = some (.cells cur E fr) ∧ G.lim b = some (sz, cur.size) ∧ RelL G cs vs ∧ cs.length ≤ cur.size ∧ cur.toList.take cs.length = vs ∧ (∀ o, G.imm g o = none) ∧ FrOk cur fr
  | .tick sz v, g => ∃ T cur E, G.tk b v = some T ∧ T.g = g ∧ T.sz = sz ∧ T.n ≤ T.cap ∧ T.cap ≤ maxLen ∧ w.heap[g]? = some (.cells cur E (0, 0)) ∧ T.o + T.cap * sz ≤ cur.size ∧ (∀ o, T.o + T.n * sz ≤ o → G.imm g o = none)
  | .iter l p, g => G.rho b = some g ∧ ∃ s : ByteArray, s.data.toList = l ∧ w.heap[g]? = some (.stringIter s p) ∧ (∀ o, G.imm g o = none)
  | .dead, _ => True
  | .froz _ cs, g => G.rho b = some g ∧ ∃ cur E vs fr, w.heap[g]? = some (.cells cur E fr) ∧ RelL G cs vs ∧ (∀ j v, vs[j]? = some v → G.imm g j = some v)
/-- The whole state. `w0`: the memory as it was in the beginning; below `base` nothing turns. `pl`: where each block lies. -/
structure RelP (G : Gh) (w0 : World) (s : St) (w : World) (pl : Nat → Nat) : Prop where
  below : Go.RowKit.Below G.base w0 w
  base : G.base ≤ w.heap.size
  imm : ∀ g o v, G.imm g o = some v → w.cell? ⟨g, o, none⟩ = some v ∧ v.oneCell' = true
  fresh : ∀ b, s.next ≤ b → s.get b = none ∧ G.rho b = none ∧ G.lim b = none ∧ ∀ v, G.tk b v = none
  at_ : ∀ b o, s.get b = some o → G.Live b o → G.base ≤ pl b ∧ ObjOk G w b o (pl b)
  apart : ∀ b c o q, s.get b = some o → s.get c = some q → G.Live b o → G.Live c q → pl b = pl c → b = c
  tkV : ∀ b v T, G.tk b v = some T → ∀ sz u, s.get b = some (.tick sz u) → v ≤ u
  resV : ∀ b, G.res b = true → b < s.next ∧ G.rho b = none ∧ G.lim b = none ∧ ∀ v, G.tk b v = none
def RelS (G : Gh) (w0 : World) (s : St) (w : World) : Prop := ∃ pl, RelP G w0 s w pl
theorem ObjOk.lt {G : Gh} {w : World} {b : Nat} {o : Obj} {g : Nat} (h : ObjOk G w b o g) (hd : o ≠ .dead) : g < w.heap.size := by
  cases o with
  | cells sz cs => obtain ⟨_, cur, E, vs, fr, h1, _⟩ := h; exact (Array.getElem?_eq_some_iff.1 h1).1
  | tick sz v => obtain ⟨T, cur, E, _, _, _, _, _, h1, _⟩ := h; exact (Array.getElem?_eq_some_iff.1 h1).1
  | iter l p => obtain ⟨_, s, _, h1, _⟩ := h; exact (Array.getElem?_eq_some_iff.1 h1).1
  | dead => exact absurd rfl hd
  | froz sz cs => obtain ⟨_, cur, E, vs, fr, h1, _⟩ := h; exact (Array.getElem?_eq_some_iff.1 h1).1
/-- An object lives on where its block is as it was, and what never turns says nothing new of it. -/
theorem ObjOk.keep0 {G G' : Gh} {w w' : World} {b : Nat} {o : Obj} {g : Nat} (h : ObjOk G w b o g) (hG : G.le0 G') (hw : w'.heap[g]? = w.heap[g]?)
    (hi : ∀ o, G'.imm g o = G.imm g o) : ObjOk G' w' b o g := by
  cases o with
  | cells sz cs =>
    obtain ⟨hr, cur, E, vs, fr, h1, h2, h3, h4, h5, h6, h7⟩ := h
    exact ⟨hG.rho _ _ hr, cur, E, vs, fr, hw.trans h1, hG.lim _ _ h2, h3.mono0 hG, h4, h5, fun o => (hi o).trans (h6 o), h7⟩
  | tick sz v =>
    obtain ⟨T, cur, E, h1, h2, h3, h4, h5, h6, h7, h8⟩ := h
    exact ⟨T, cur, E, hG.tk _ _ _ h1, h2, h3, h4, h5, hw.trans h6, h7, fun o ho => (hi o).trans (h8 o ho)⟩
  | iter l p =>
    obtain ⟨hr, s, h1, h2, h3⟩ := h
    exact ⟨hG.rho _ _ hr, s, h1, hw.trans h2, fun o => (hi o).trans (h3 o)⟩
  | dead => trivial
  | froz sz cs =>
    obtain ⟨hr, cur, E, vs, fr, h1, h2, h3⟩ := h
    exact ⟨hG.rho _ _ hr, cur, E, vs, fr, hw.trans h1, h2.mono0 hG, fun j v q => (hi j).trans (h3 j v q)⟩
theorem ObjOk.keep {G G' : Gh} {w w' : World} {b : Nat} {o : Obj} {g : Nat} (h : ObjOk G w b o g) (hG : G.le G') (hw : w'.heap[g]? = w.heap[g]?)
    (hi : ∀ o, G'.imm g o = G.imm g o) : ObjOk G' w' b o g := h.keep0 hG.tole0 hw hi
section
variable {G : Gh} {w0 : World} {s : St} {w : World} {pl : Nat → Nat}
theorem cell_of_heap {w w' : World} {g : Nat} (h : w'.heap[g]? = w.heap[g]?) (o : Nat) : w'.cell? ⟨g, o, none⟩ = w.cell? ⟨g, o, none⟩ := by simp [World.cell?, h]
/-- A draw turns nothing. -/
theorem RelS.drew (h : RelS G w0 s w) : RelS G w0 s w.drew := by
  obtain ⟨pl, h⟩ := h
  refine ⟨pl, h.below.drew, h.base, h.imm, h.fresh, fun b o hb hd => ?_, h.apart, h.tkV, h.resV⟩
  obtain ⟨h1, h2⟩ := h.at_ b o hb hd
  exact ⟨h1, h2.keep (Gh.le_refl G) rfl (fun _ => rfl)⟩
/-- With one more block in the machine, and one more object. -/
def Gh.cellsAt (G : Gh) (b g sz L : Nat) : Gh :=
  { G with rho := fun c => if c = b then some g else G.rho c, lim := fun c => if c = b then some (sz, L) else G.lim c }
theorem Gh.cellsAt_le (G : Gh) (b g sz L : Nat) (hr : G.rho b = none) (hl : G.lim b = none) : G.le (G.cellsAt b g sz L) := by
  refine ⟨⟨rfl, fun _ _ _ h => h, fun c x h => ?_, fun c x h => ?_, fun _ _ _ h => h, fun _ _ _ => rfl⟩, rfl⟩
  · have : c ≠ b := fun e => by subst e; simp [hr] at h
    simpa [Gh.cellsAt, this] using h
  · have : c ≠ b := fun e => by subst e; simp [hl] at h
    simpa [Gh.cellsAt, this] using h
theorem heap_alloc_lt (w : World) (o : Go.Obj) {g : Nat} (h : g < w.heap.size) : (w.alloc o).heap[g]? = w.heap[g]? := Go.RowKit.Below.heap_alloc w o g h
theorem RelP.imm_lt (h : RelP G w0 s w pl) {g o : Nat} {v : Value} (hi : G.imm g o = some v) : g < w.heap.size := by
  have := (h.imm g o v hi).1
  unfold World.cell? at this
  split at this
  · rename_i c e f hb; exact (Array.getElem?_eq_some_iff.1 hb).1
  · simp at this
theorem RelP.imm_new (h : RelP G w0 s w pl) (o : Nat) : G.imm w.heap.size o = none := by
  cases hx : G.imm w.heap.size o with
  | none => rfl
  | some v => exact absurd (h.imm_lt hx) (by omega)
theorem RelP.pl_lt (h : RelP G w0 s w pl) {b : Nat} {o : Obj} (hb : s.get b = some o) (hd : G.Live b o) : pl b < w.heap.size := (h.at_ b o hb hd).2.lt hd.1
theorem RelP.resF (h : RelP G w0 s w pl) {b g : Nat} (hr : G.rho b = some g) : G.res b = false := by
  cases hx : G.res b with
  | false => rfl
  | true => obtain ⟨_, h1, _⟩ := h.resV b hx; rw [hr] at h1; cases h1
theorem RelP.resT (h : RelP G w0 s w pl) {b v : Nat} {T : Tk} (hr : G.tk b v = some T) : G.res b = false := by
  cases hx : G.res b with
  | false => rfl
  | true => obtain ⟨_, _, _, h1⟩ := h.resV b hx; rw [h1] at hr; cases hr
theorem RelS.resF (h : RelS G w0 s w) {b g : Nat} (hr : G.rho b = some g) : G.res b = false := by obtain ⟨pl, h⟩ := h; exact h.resF hr
theorem RelS.resSl (h : RelS G w0 s w) {cs : List AV} {n b v z : Nat} {x : Value} (hx : RelV G (.sl cs n (some (b, v, z))) x) : G.res b = false := by
  obtain ⟨pl, h⟩ := h
  cases hx with
  | sl _ _ _ _ _ _ vs hc hi hn hm ht => obtain ⟨k, T, h1, _⟩ := ht; exact h.resT h1
theorem RelP.get_lt (h : RelP G w0 s w pl) {b : Nat} {o : Obj} (hb : s.get b = some o) : b < s.next := by
  rcases Nat.lt_or_ge b s.next with h' | h'
  · exact h'
  · have := (h.fresh b h').1; rw [hb] at this; cases this
/-- A new block of cells of the small heap's own. -/
theorem RelS.newCellsF (h : RelS G w0 s w) (sz : Nat) (cs : List AV) (cur : Array Value) (E : TypeId) (fr : Nat × Nat) (hfr : FrOk cur fr) (vs : List Value)
    (hc : RelL G cs vs) (hl : cs.length ≤ cur.size) (ht : cur.toList.take cs.length = vs) :
    ∃ G', G.le G' ∧ G'.rho s.next = some w.heap.size ∧ G'.lim s.next = some (sz, cur.size) ∧ RelS G' w0 (s.new (.cells sz cs)) (w.alloc (.cells cur E fr)) := by
  obtain ⟨pl, h⟩ := h
  obtain ⟨f1, f2, f3, f4⟩ := h.fresh s.next (Nat.le_refl _)
  have hle := Gh.cellsAt_le G s.next w.heap.size sz cur.size f2 f3
  refine ⟨G.cellsAt s.next w.heap.size sz cur.size, hle, by simp [Gh.cellsAt], by simp [Gh.cellsAt], fun b => if b = s.next then w.heap.size else pl b, ?_⟩
  refine ⟨h.below.alloc h.base _, Nat.le_trans h.base (by simp), fun g o v hi => ?_, fun b hb => ?_, fun b o hb hd => ?_, fun b c o q hb hc' ho hq hp => ?_, fun b v T hT sz' u hb => ?_, fun b hres => ?_⟩
  · obtain ⟨h1, h2⟩ := h.imm g o v hi
    exact ⟨by rw [cell_of_heap (heap_alloc_lt w _ (h.imm_lt hi))]; exact h1, h2⟩
  · have hb' : s.next + 1 ≤ b := hb
    obtain ⟨g1, g2, g3, g4⟩ := h.fresh b (by omega)
    have hne : b ≠ s.next := by omega
    exact ⟨by rw [St.get_new_ne _ _ hne]; exact g1, by simp [Gh.cellsAt, hne, g2], by simp [Gh.cellsAt, hne, g3], g4⟩
  · by_cases e : b = s.next
    · subst e
      rw [St.get_new_same] at hb
      cases hb
      simp only [if_true]
      refine ⟨h.base, by simp [Gh.cellsAt], cur, E, vs, fr, heap_alloc_new w _, by simp [Gh.cellsAt], hc.mono hle, hl, ht, fun o => h.imm_new o, hfr⟩
    · rw [St.get_new_ne _ _ e] at hb
      simp only [e, if_false]
      obtain ⟨h1, h2⟩ := h.at_ b o hb hd
      exact ⟨h1, h2.keep hle (heap_alloc_lt w _ (h2.lt hd.1)) (fun _ => rfl)⟩
  · by_cases e : b = s.next <;> by_cases e' : c = s.next
    · rw [e, e']
    · subst e
      rw [St.get_new_ne _ _ e'] at hc'
      simp only [if_true, e', if_false] at hp
      exact absurd (h.pl_lt hc' hq) (by omega)
    · subst e'
      rw [St.get_new_ne _ _ e] at hb
      simp only [if_true, e, if_false] at hp
      exact absurd (h.pl_lt hb ho) (by omega)
    · rw [St.get_new_ne _ _ e] at hb
      rw [St.get_new_ne _ _ e'] at hc'
      simp only [e, e', if_false] at hp
      exact h.apart b c o q hb hc' ho hq hp
  · by_cases e : b = s.next
    · subst e; rw [St.get_new_same] at hb; cases hb
    · rw [St.get_new_ne _ _ e] at hb
      exact h.tkV b v T hT sz' u hb
  · obtain ⟨g1, g2, g3, g4⟩ := h.resV b hres
    have hne : b ≠ s.next := by omega
    exact ⟨Nat.lt_succ_of_lt g1, by simp [Gh.cellsAt, hne, g2], by simp [Gh.cellsAt, hne, g3], g4⟩
theorem RelS.newCells (h : RelS G w0 s w) (sz : Nat) (cs : List AV) (cur : Array Value) (E : TypeId) (vs : List Value)
    (hc : RelL G cs vs) (hl : cs.length ≤ cur.size) (ht : cur.toList.take cs.length = vs) :
    ∃ G', G.le G' ∧ G'.rho s.next = some w.heap.size ∧ G'.lim s.next = some (sz, cur.size) ∧ RelS G' w0 (s.new (.cells sz cs)) (w.alloc (.cells cur E)) := h.newCellsF sz cs cur E (0, 0) (.zero _) vs hc hl ht
end
end Go.Ab
/- How the relation follows the machine's memory: new slices, appends, stores, what is frozen. No conditions. -/
namespace Go.Ab
open Go
theorem size_setRow (w : World) (g : Nat) (cs : Array Value) : (w.setRow g cs).heap.size = w.heap.size := by simp [World.setRow]
theorem below_setRow {B : Nat} {a w : World} (h : Go.RowKit.Below B a w) {g : Nat} (hg : B ≤ g) (cs : Array Value) : Go.RowKit.Below B a (w.setRow g cs) :=
  h.trans ⟨rfl, rfl, rfl, by rw [size_setRow]; exact Nat.le_refl _, fun k hk => setRow_other w g k cs (by omega)⟩
theorem take_get {α : Type} (l : List α) (n i : Nat) (h : i < n) : (l.take n)[i]? = l[i]? := by rw [List.getElem?_take]; simp [h]
/-- Cells beside those that are known never to turn. -/
def Gh.more (G : Gh) (g a : Nat) (us : List Value) : Gh :=
  { G with imm := fun g' o => if g' = g ∧ a ≤ o ∧ o < a + us.length then us[o - a]? else G.imm g' o }
theorem Gh.more_le (G : Gh) (g a : Nat) (us : List Value) (h : ∀ o, a ≤ o → G.imm g o = none) (hb : G.base ≤ g) : G.le (G.more g a us) := by
  refine ⟨⟨rfl, fun g' o v hv => ?_, fun _ _ h => h, fun _ _ h => h, fun _ _ _ h => h, fun g' o hg' => ?_⟩, rfl⟩
  rotate_left
  · have : ¬ (g' = g ∧ a ≤ o ∧ o < a + us.length) := fun ⟨e, _⟩ => by omega
    simp [Gh.more, this]
  have : ¬ (g' = g ∧ a ≤ o ∧ o < a + us.length) := fun ⟨e, ho, _⟩ => by subst e; rw [h o ho] at hv; cases hv
  simp [Gh.more, this, hv]
theorem Gh.more_at (G : Gh) (g a : Nat) (us : List Value) (j : Nat) (v : Value) (h : us[j]? = some v) : (G.more g a us).imm g (a + j) = some v := by
  have hj : j < us.length := (List.getElem?_eq_some_iff.1 h).1
  have hc : g = g ∧ a ≤ a + j ∧ a + j < a + us.length := ⟨rfl, by omega, by omega⟩
  simp only [Gh.more, hc, and_self, if_true]
  rw [Nat.add_sub_cancel_left]; exact h
theorem Gh.more_other (G : Gh) (g a : Nat) (us : List Value) {g' : Nat} (h : g' ≠ g) (o : Nat) : (G.more g a us).imm g' o = G.imm g' o := by simp [Gh.more, h]
theorem Gh.more_beyond (G : Gh) (g a : Nat) (us : List Value) {o : Nat} (h : a + us.length ≤ o) : (G.more g a us).imm g o = G.imm g o := by
  have : ¬ (a ≤ o ∧ o < a + us.length) := fun ⟨_, h'⟩ => by omega
  simp [Gh.more, this]
def Gh.ticket (G : Gh) (t v : Nat) (T : Tk) : Gh := { G with tk := fun t' v' => if t' = t ∧ v' = v then some T else G.tk t' v' }
theorem Gh.ticket_le (G : Gh) (t v : Nat) (T : Tk) (h : G.tk t v = none) : G.le (G.ticket t v T) := by
  refine ⟨⟨rfl, fun _ _ _ h => h, fun _ _ h => h, fun _ _ h => h, fun t' v' x hx => ?_, fun _ _ _ => rfl⟩, rfl⟩
  have : ¬ (t' = t ∧ v' = v) := fun ⟨e, e'⟩ => by subst e; subst e'; rw [h] at hx; cases hx
  simp [Gh.ticket, this, hx]
section
variable {G : Gh} {w0 : World} {s : St} {w : World}
theorem RelS.newSl (h : RelS G w0 s w) (sz n cap : Nat) (cs : List AV) (cur : Array Value) (E : TypeId) (vs : List Value)
    (hc : RelL G cs vs) (ht : cur.toList.take cs.length = vs) (hl : cs.length = n * sz) (hn : n ≤ cap) (hm : cap ≤ maxLen) (hs : cap * sz ≤ cur.size) :
    ∃ G', G.le G' ∧ RelV G' (.sl cs n (some (s.next, 0, sz))) (.slice (some ⟨w.heap.size, 0, none⟩) n cap) ∧ RelS G' w0 (s.new (.tick sz 0)) (w.alloc (.cells cur E)) := by
  obtain ⟨pl, h⟩ := h
  obtain ⟨f1, f2, f3, f4⟩ := h.fresh s.next (Nat.le_refl _)
  have hlen : vs.length = n * sz := by rw [← hc.length, hl]
  have hle1 := Gh.more_le G w.heap.size 0 vs (fun o _ => h.imm_new o) h.base
  have hle2 := Gh.ticket_le (G.more w.heap.size 0 vs) s.next 0 ⟨w.heap.size, 0, sz, n, cap⟩ (f4 0)
  have hle := hle1.trans hle2
  refine ⟨_, hle, ?_, fun b => if b = s.next then w.heap.size else pl b, ?_⟩
  · refine .sl _ _ _ _ _ _ vs (hc.mono hle) (fun j v hv => ?_) hn hm ⟨0, ⟨w.heap.size, 0, sz, n, cap⟩, by simp [Gh.ticket], rfl, rfl, rfl, rfl, .inl (by simp)⟩
    have := Gh.more_at G w.heap.size 0 vs j v hv
    exact this
  refine ⟨h.below.alloc h.base _, Nat.le_trans h.base (by simp), fun g o v hi => ?_, fun b hb => ?_, fun b o hb hd => ?_, fun b c o q hb hc' ho hq hp => ?_, fun b v T hT sz' u hb => ?_, fun c hc0 => ?_⟩
  · by_cases hg : g = w.heap.size
    · subst hg
      by_cases ho : o < vs.length
      · have hv : vs[o]? = some v := by
          have hx : (G.more w.heap.size 0 vs).imm w.heap.size o = some v := hi
          simpa [Gh.more, ho] using hx
        refine ⟨?_, hc.mem v (List.mem_of_getElem? hv)⟩
        rw [← ht] at hv
        rw [List.getElem?_take] at hv
        split at hv
        · rw [World.cell?_alloc_new]; simpa using hv
        · cases hv
      · have hx : (G.more w.heap.size 0 vs).imm w.heap.size o = some v := hi
        rw [Gh.more_beyond _ _ _ _ (by omega), h.imm_new] at hx
        cases hx
    · have hx : (G.more w.heap.size 0 vs).imm g o = some v := hi
      rw [Gh.more_other _ _ _ _ hg] at hx
      obtain ⟨h1, h2⟩ := h.imm g o v hx
      exact ⟨by rw [cell_of_heap (heap_alloc_lt w _ (h.imm_lt hx))]; exact h1, h2⟩
  · have hb' : s.next + 1 ≤ b := hb
    obtain ⟨g1, g2, g3, g4⟩ := h.fresh b (by omega)
    have hne : b ≠ s.next := by omega
    exact ⟨by rw [St.get_new_ne _ _ hne]; exact g1, g2, g3, fun v => by simp [Gh.ticket, hne]; exact g4 v⟩
  · by_cases e : b = s.next
    · subst e
      rw [St.get_new_same] at hb
      cases hb
      simp only [if_true]
      refine ⟨h.base, ⟨w.heap.size, 0, sz, n, cap⟩, cur, E, by simp [Gh.ticket], rfl, rfl, hn, hm, heap_alloc_new w _, by simpa using hs, fun o ho => ?_⟩
      show (G.more w.heap.size 0 vs).imm w.heap.size o = none
      rw [Gh.more_beyond _ _ _ _ (by rw [hlen]; simpa using ho)]
      exact h.imm_new o
    · rw [St.get_new_ne _ _ e] at hb
      simp only [e, if_false]
      obtain ⟨h1, h2⟩ := h.at_ b o hb hd
      have := h2.lt hd.1
      exact ⟨h1, h2.keep hle (heap_alloc_lt w _ this) (fun o => Gh.more_other _ _ _ _ (by omega) o)⟩
  · by_cases e : b = s.next <;> by_cases e' : c = s.next
    · rw [e, e']
    · subst e
      rw [St.get_new_ne _ _ e'] at hc'
      simp only [if_true, e', if_false] at hp
      exact absurd (h.pl_lt hc' hq) (by omega)
    · subst e'
      rw [St.get_new_ne _ _ e] at hb
      simp only [if_true, e, if_false] at hp
      exact absurd (h.pl_lt hb ho) (by omega)
    · rw [St.get_new_ne _ _ e] at hb
      rw [St.get_new_ne _ _ e'] at hc'
      simp only [e, e', if_false] at hp
      exact h.apart b c o q hb hc' ho hq hp
  · by_cases e : b = s.next
    · subst e
      rw [St.get_new_same] at hb
      cases hb
      by_cases hv : v = 0
      · omega
      · have hx : G.tk s.next v = some T := by simpa [Gh.ticket, Gh.more, hv] using hT
        rw [f4 v] at hx; cases hx
    · rw [St.get_new_ne _ _ e] at hb
      have hx : G.tk b v = some T := by simpa [Gh.ticket, Gh.more, e] using hT
      exact h.tkV b v T hx sz' u hb
  · obtain ⟨g1, g2, g3, g4⟩ := h.resV c hc0
    have hne : c ≠ s.next := by omega
    exact ⟨Nat.lt_succ_of_lt g1, g2, g3, fun v => by simp [Gh.ticket, hne]; exact g4 v⟩
theorem RelP.ticket {pl : Nat → Nat} (h : RelP G w0 s w pl) {sz n cap b v z g o : Nat} {cs : List AV}
    (hv : RelV G (.sl cs n (some (b, v, z))) (.slice (some ⟨g, o, none⟩) n cap)) (hb : s.get b = some (.tick sz v)) (hp : 0 < cap) :
    ∃ k T cur E, G.tk b v = some T ∧ T.g = g ∧ pl b = g ∧ T.sz = sz ∧ n + k = T.n ∧ cap + k = T.cap ∧ o = T.o + k * sz ∧ w.heap[g]? = some (.cells cur E (0, 0)) ∧ T.o + T.cap * sz ≤ cur.size ∧
      T.cap ≤ maxLen ∧ (∀ j, T.o + T.n * sz ≤ j → G.imm g j = none) ∧ G.base ≤ g := by
  cases hv with
  | sl _ _ _ _ _ _ vs hc hi hn hm ht =>
    obtain ⟨k, T, h1, _, h2, h3, h4, h5⟩ := ht
    have hres := h.resT h1
    obtain ⟨hbase, T', cur, E, e1, e2, e3, e4, e5, e6, e7, e8⟩ := h.at_ b _ hb ⟨by simp, hres⟩
    rw [h1] at e1
    cases e1
    rcases h5 with h5 | h5
    · exact ⟨k, T, cur, E, h1, h2, by rw [← e2, h2], e3, h3, h4, by rw [h5, e3], by rw [← h2, e2]; exact e6, e7, e5, by rw [← h2, e2]; exact e8, by rw [← h2, e2]; exact hbase⟩
    · omega
theorem RelP.tk_next {pl : Nat → Nat} (h : RelP G w0 s w pl) {b sz v : Nat} (hb : s.get b = some (.tick sz v)) : G.tk b (v + 1) = none := by
  cases hx : G.tk b (v + 1) with
  | none => rfl
  | some T => have := h.tkV b (v + 1) T hx sz v hb; omega
theorem RelS.appNone (h : RelS G w0 s w) {sz n cap b v z g o : Nat} {cs : List AV}
    (hv : RelV G (.sl cs n (some (b, v, z))) (.slice (some ⟨g, o, none⟩) n cap)) (hb : s.get b = some (.tick sz v)) :
    ∃ G', G.le G' ∧ RelV G' (.sl cs n (some (b, v + 1, sz))) (.slice (some ⟨g, o, none⟩) n cap) ∧ RelS G' w0 (s.upd b (.tick sz (v + 1))) w := by
  have hres := h.resSl hv
  obtain ⟨pl, h⟩ := h
  obtain ⟨hbase, T', cur, E, e1, e2, e3, e4, e5, e6, e7, e8⟩ := h.at_ b _ hb ⟨by simp, hres⟩
  have hle := Gh.ticket_le G b (v + 1) T' (h.tk_next hb)
  refine ⟨_, hle, ?_, pl, ?_⟩
  · cases hv with
    | sl _ _ _ _ _ _ vs hc hi hn hm ht =>
      obtain ⟨k, T, h1, _, h2, h3, h4, h5⟩ := ht
      rw [e1] at h1
      cases h1
      exact .sl _ _ _ _ _ _ vs (hc.mono hle) (fun j v hv => hi j v hv) hn hm ⟨k, T', by simp [Gh.ticket], e3, h2, h3, h4, h5⟩
  refine ⟨h.below, h.base, h.imm, fun c hc => ?_, fun c q hc hd => ?_, fun c d q r hc hd hq hr hp => ?_, fun c v' T hT sz' u hc => ?_, fun c hc0 => ?_⟩
  · obtain ⟨g1, g2, g3, g4⟩ := h.fresh c hc
    have hne : c ≠ b := fun e => by subst e; rw [hb] at g1; cases g1
    exact ⟨by rw [St.get_upd_ne _ _ hne]; exact g1, g2, g3, fun v => by simp [Gh.ticket, hne]; exact g4 v⟩
  · by_cases e : c = b
    · subst e
      rw [St.get_upd_same _ _ hb] at hc
      cases hc
      exact ⟨hbase, T', cur, E, by simp [Gh.ticket], e2, e3, e4, e5, e6, e7, e8⟩
    · rw [St.get_upd_ne _ _ e] at hc
      obtain ⟨h1, h2⟩ := h.at_ c q hc hd
      exact ⟨h1, h2.keep hle rfl (fun _ => rfl)⟩
  · have hc' : ∃ q, s.get c = some q ∧ G.Live c q := by
      by_cases e : c = b
      · exact ⟨_, e ▸ hb, ⟨by simp, by rw [e]; exact hres⟩⟩
      · rw [St.get_upd_ne _ _ e] at hc; exact ⟨_, hc, hq⟩
    have hd' : ∃ q, s.get d = some q ∧ G.Live d q := by
      by_cases e : d = b
      · exact ⟨_, e ▸ hb, ⟨by simp, by rw [e]; exact hres⟩⟩
      · rw [St.get_upd_ne _ _ e] at hd; exact ⟨_, hd, hr⟩
    obtain ⟨q1, a1, a2⟩ := hc'
    obtain ⟨q2, b1, b2⟩ := hd'
    exact h.apart c d q1 q2 a1 b1 a2 b2 hp
  · by_cases e : c = b
    · subst e
      rw [St.get_upd_same _ _ hb] at hc
      cases hc
      by_cases hv' : v' = v + 1
      · omega
      · have hx : G.tk c v' = some T := by simpa [Gh.ticket, hv'] using hT
        have := h.tkV c v' T hx sz v hb
        omega
    · rw [St.get_upd_ne _ _ e] at hc
      have hx : G.tk c v' = some T := by simpa [Gh.ticket, e] using hT
      exact h.tkV c v' T hx sz' u hc
  · obtain ⟨g1, g2, g3, g4⟩ := h.resV c hc0
    have hne : c ≠ b := fun e => by subst e; have : G.res c = true := hc0; rw [hres] at this; cases this
    exact ⟨g1, g2, g3, fun v => by simp [Gh.ticket, hne]; exact g4 v⟩
theorem RelS.appRoom (h : RelS G w0 s w) {sz n m cap b v z g o : Nat} {cs news : List AV} {us : List Value}
    (hv : RelV G (.sl cs n (some (b, v, z))) (.slice (some ⟨g, o, none⟩) n cap)) (hb : s.get b = some (.tick sz v)) (hl : cs.length = n * sz)
    (hu : RelL G news us) (hlu : news.length = m * sz) (hm : 0 < m) (hroom : n + m ≤ cap) :
    ∃ cur E, w.heap[g]? = some (.cells cur E (0, 0)) ∧ o + n * sz + us.length ≤ cur.size ∧ ∃ G', G.le G' ∧ RelV G' (.sl (cs ++ news) (n + m) (some (b, v + 1, sz))) (.slice (some ⟨g, o, none⟩) (n + m) cap) ∧
      RelS G' w0 (s.upd b (.tick sz (v + 1))) (w.setRow g (cur.toList.take (o + n * sz) ++ us ++ cur.toList.drop (o + n * sz + us.length)).toArray) := by
  have hres := h.resSl hv
  obtain ⟨pl, h⟩ := h
  obtain ⟨k, T, cur, E, e1, e2, epl, e3, e4, e5, e6, e7, e8, e9, e10, e11⟩ := h.ticket hv hb (by omega)
  have hul : us.length = m * sz := by rw [← hu.length, hlu]
  have hend : o + n * sz = T.o + T.n * sz := by rw [e6, ← e4, Nat.add_mul]; omega
  have hfit : o + n * sz + us.length ≤ cur.size := by
    rw [hend, hul, Nat.add_assoc, ← Nat.add_mul]
    exact Nat.le_trans (Nat.add_le_add_left (Nat.mul_le_mul_right _ (by omega)) _) e8
  refine ⟨cur, E, e7, hfit, ?_⟩
  have hnone : ∀ j, o + n * sz ≤ j → G.imm g j = none := fun j hj => e10 j (by omega)
  have hle1 := Gh.more_le G g (o + n * sz) us hnone (by have := (h.at_ b _ hb ⟨by simp, hres⟩).1; omega)
  have hle2 := Gh.ticket_le (G.more g (o + n * sz) us) b (v + 1) ⟨g, T.o, sz, T.n + m, T.cap⟩ (h.tk_next hb)
  have hle := hle1.trans hle2
  have hgs : (w.setRow g (cur.toList.take (o + n * sz) ++ us ++ cur.toList.drop (o + n * sz + us.length)).toArray).heap[g]? =
      some (.cells (cur.toList.take (o + n * sz) ++ us ++ cur.toList.drop (o + n * sz + us.length)).toArray E (0, 0)) := setRow_heap w g cur _ E _ e7
  have hsz : (cur.toList.take (o + n * sz) ++ us ++ cur.toList.drop (o + n * sz + us.length)).toArray.size = cur.size := by
    simp only [List.size_toArray, List.length_append, List.length_take, List.length_drop, Array.length_toList]; omega
  have htl : (cur.toList.take (o + n * sz)).length = o + n * sz := by rw [List.length_take, Array.length_toList]; omega
  refine ⟨_, hle, ?_, pl, ?_⟩
  · cases hv with
    | sl _ _ _ _ _ _ vs hc hi hn hmx ht =>
      have hvl : vs.length = n * sz := by rw [← hc.length, hl]
      refine .sl _ _ _ _ _ _ (vs ++ us) ((hc.append hu).mono hle) (fun j x hx => ?_) hroom hmx ⟨k, ⟨g, T.o, sz, T.n + m, T.cap⟩, by simp [Gh.ticket], rfl, rfl, by show n + m + k = T.n + m; omega, e5, .inl e6⟩
      show (G.more g (o + n * sz) us).imm g (o + j) = some x
      by_cases hj : j < vs.length
      · rw [List.getElem?_append_left hj] at hx
        exact hle1.imm _ _ _ (hi j x hx)
      · rw [List.getElem?_append_right (by omega)] at hx
        have := Gh.more_at G g (o + n * sz) us (j - vs.length) x hx
        rw [show o + j = o + n * sz + (j - vs.length) by omega]
        exact this
  refine ⟨below_setRow h.below e11 _, by rw [size_setRow]; exact h.base, fun g' o' x hi => ?_, fun c hc => ?_, fun c q hc hd => ?_, fun c d q r hc hd hq hr hp => ?_, fun c v' T' hT sz' u hc => ?_, fun c hc0 => ?_⟩
  · have hi' : (G.more g (o + n * sz) us).imm g' o' = some x := hi
    by_cases hg : g' = g
    · subst hg
      by_cases hin : o + n * sz ≤ o' ∧ o' < o + n * sz + us.length
      · have hx : us[o' - (o + n * sz)]? = some x := by simpa [Gh.more, hin] using hi'
        refine ⟨?_, hu.mem x (List.mem_of_getElem? hx)⟩
        rw [cell_setRow_same w g' o' cur _ E _ e7]
        simp only [List.getElem?_toArray]
        rw [List.getElem?_append_left (by rw [List.length_append, htl]; omega), List.getElem?_append_right (by rw [htl]; omega), htl]
        exact hx
      · have hx : G.imm g' o' = some x := by simpa [Gh.more, hin] using hi'
        obtain ⟨h1, h2⟩ := h.imm g' o' x hx
        have hlt : o' < o + n * sz := by
          rcases Nat.lt_or_ge o' (o + n * sz) with h' | h'
          · exact h'
          · rw [hnone o' h'] at hx; cases hx
        refine ⟨?_, h2⟩
        rw [cell_setRow_same w g' o' cur _ E _ e7]
        simp only [List.getElem?_toArray]
        rw [List.append_assoc, List.getElem?_append_left (by rw [htl]; exact hlt), take_get _ _ _ hlt]
        have h1' : w.cell? ⟨g', o', none⟩ = cur[o']? := by simp [World.cell?, e7]
        rw [h1'] at h1
        simpa using h1
    · rw [Gh.more_other _ _ _ _ hg] at hi'
      obtain ⟨h1, h2⟩ := h.imm g' o' x hi'
      exact ⟨by rw [cell_setRow_other w g _ _ hg]; exact h1, h2⟩
  · obtain ⟨g1, g2, g3, g4⟩ := h.fresh c hc
    have hne : c ≠ b := fun e => by subst e; rw [hb] at g1; cases g1
    exact ⟨by rw [St.get_upd_ne _ _ hne]; exact g1, g2, g3, fun v => by simp [Gh.ticket, hne]; exact g4 v⟩
  · by_cases e : c = b
    · subst e
      rw [St.get_upd_same _ _ hb] at hc
      cases hc
      refine ⟨by rw [epl]; exact e11, ⟨g, T.o, sz, T.n + m, T.cap⟩, _, E, by simp [Gh.ticket], epl.symm, rfl, by show T.n + m ≤ T.cap; omega, e9, by rw [epl]; exact hgs, by rw [hsz]; exact e8, fun j hj => ?_⟩
      show (G.more g (o + n * sz) us).imm (pl c) j = none
      have hj' : T.o + (T.n + m) * sz ≤ j := hj
      rw [Nat.add_mul] at hj'
      rw [epl, Gh.more_beyond _ _ _ _ (by rw [hul]; omega)]
      exact hnone j (by omega)
    · rw [St.get_upd_ne _ _ e] at hc
      obtain ⟨h1, h2⟩ := h.at_ c q hc hd
      have hne : pl c ≠ g := fun hx => e (h.apart c b q _ hc hb hd ⟨by simp, hres⟩ (by rw [hx, epl]))
      exact ⟨h1, h2.keep hle (setRow_other w g _ _ hne) (fun o => Gh.more_other _ _ _ _ hne o)⟩
  · have hc' : ∃ q, s.get c = some q ∧ G.Live c q := by
      by_cases e : c = b
      · exact ⟨_, e ▸ hb, ⟨by simp, by rw [e]; exact hres⟩⟩
      · rw [St.get_upd_ne _ _ e] at hc; exact ⟨_, hc, hq⟩
    have hd' : ∃ q, s.get d = some q ∧ G.Live d q := by
      by_cases e : d = b
      · exact ⟨_, e ▸ hb, ⟨by simp, by rw [e]; exact hres⟩⟩
      · rw [St.get_upd_ne _ _ e] at hd; exact ⟨_, hd, hr⟩
    obtain ⟨q1, a1, a2⟩ := hc'
    obtain ⟨q2, b1, b2⟩ := hd'
    exact h.apart c d q1 q2 a1 b1 a2 b2 hp
  · by_cases e : c = b
    · subst e
      rw [St.get_upd_same _ _ hb] at hc
      cases hc
      by_cases hv' : v' = v + 1
      · omega
      · have hx : G.tk c v' = some T' := by simpa [Gh.ticket, Gh.more, hv'] using hT
        have := h.tkV c v' T' hx sz v hb
        omega
    · rw [St.get_upd_ne _ _ e] at hc
      have hx : G.tk c v' = some T' := by simpa [Gh.ticket, Gh.more, e] using hT
      exact h.tkV c v' T' hx sz' u hc
  · obtain ⟨g1, g2, g3, g4⟩ := h.resV c hc0
    have hne : c ≠ b := fun e => by subst e; have : G.res c = true := hc0; rw [hres] at this; cases this
    exact ⟨g1, g2, g3, fun v => by simp [Gh.ticket, hne]; exact g4 v⟩
theorem RelS.appGrow (h : RelS G w0 s w) {sz N cap b v : Nat} {cs : List AV} (cur : Array Value) (E : TypeId) (vs : List Value)
    (hres : G.res b = false) (hb : s.get b = some (.tick sz v)) (hc : RelL G cs vs) (ht : cur.toList.take cs.length = vs) (hl : cs.length = N * sz) (hn : N ≤ cap) (hm : cap ≤ maxLen) (hs : cap * sz ≤ cur.size) :
    ∃ G', G.le G' ∧ RelV G' (.sl cs N (some (b, v + 1, sz))) (.slice (some ⟨w.heap.size, 0, none⟩) N cap) ∧ RelS G' w0 (s.upd b (.tick sz (v + 1))) (w.alloc (.cells cur E)) := by
  obtain ⟨pl, h⟩ := h
  have hlen : vs.length = N * sz := by rw [← hc.length, hl]
  have hle1 := Gh.more_le G w.heap.size 0 vs (fun o _ => h.imm_new o) h.base
  have hle2 := Gh.ticket_le (G.more w.heap.size 0 vs) b (v + 1) ⟨w.heap.size, 0, sz, N, cap⟩ (h.tk_next hb)
  have hle := hle1.trans hle2
  refine ⟨_, hle, ?_, fun c => if c = b then w.heap.size else pl c, ?_⟩
  · refine .sl _ _ _ _ _ _ vs (hc.mono hle) (fun j v hv => ?_) hn hm ⟨0, ⟨w.heap.size, 0, sz, N, cap⟩, by simp [Gh.ticket], rfl, rfl, rfl, rfl, .inl (by simp)⟩
    have := Gh.more_at G w.heap.size 0 vs j v hv
    rw [Nat.zero_add] at this ⊢
    exact this
  refine ⟨h.below.alloc h.base _, Nat.le_trans h.base (by simp), fun g o x hi => ?_, fun c hc' => ?_, fun c q hc' hd => ?_, fun c d q r hc' hd hq hr hp => ?_, fun c v' T hT sz' u hc' => ?_, fun c hc0 => ?_⟩
  · by_cases hg : g = w.heap.size
    · subst hg
      by_cases ho : o < vs.length
      · have hv : vs[o]? = some x := by
          have hx : (G.more w.heap.size 0 vs).imm w.heap.size o = some x := hi
          simpa [Gh.more, ho] using hx
        refine ⟨?_, hc.mem x (List.mem_of_getElem? hv)⟩
        rw [← ht] at hv
        rw [List.getElem?_take] at hv
        split at hv
        · rw [World.cell?_alloc_new]; simpa using hv
        · cases hv
      · have hx : (G.more w.heap.size 0 vs).imm w.heap.size o = some x := hi
        rw [Gh.more_beyond _ _ _ _ (by omega), h.imm_new] at hx
        cases hx
    · have hx : (G.more w.heap.size 0 vs).imm g o = some x := hi
      rw [Gh.more_other _ _ _ _ hg] at hx
      obtain ⟨h1, h2⟩ := h.imm g o x hx
      exact ⟨by rw [cell_of_heap (heap_alloc_lt w _ (h.imm_lt hx))]; exact h1, h2⟩
  · obtain ⟨g1, g2, g3, g4⟩ := h.fresh c hc'
    have hne : c ≠ b := fun e => by subst e; rw [hb] at g1; cases g1
    exact ⟨by rw [St.get_upd_ne _ _ hne]; exact g1, g2, g3, fun v => by simp [Gh.ticket, hne]; exact g4 v⟩
  · by_cases e : c = b
    · subst e
      rw [St.get_upd_same _ _ hb] at hc'
      cases hc'
      simp only [if_true]
      refine ⟨h.base, ⟨w.heap.size, 0, sz, N, cap⟩, cur, E, by simp [Gh.ticket], rfl, rfl, hn, hm, heap_alloc_new w _, by simpa using hs, fun o ho => ?_⟩
      show (G.more w.heap.size 0 vs).imm w.heap.size o = none
      rw [Gh.more_beyond _ _ _ _ (by rw [hlen]; simpa using ho)]
      exact h.imm_new o
    · rw [St.get_upd_ne _ _ e] at hc'
      simp only [e, if_false]
      obtain ⟨h1, h2⟩ := h.at_ c q hc' hd
      have := h2.lt hd.1
      exact ⟨h1, h2.keep hle (heap_alloc_lt w _ this) (fun o => Gh.more_other _ _ _ _ (by omega) o)⟩
  · by_cases e : c = b <;> by_cases e' : d = b
    · rw [e, e']
    · subst e
      rw [St.get_upd_ne _ _ e'] at hd
      simp only [if_true, e', if_false] at hp
      exact absurd (h.pl_lt hd hr) (by omega)
    · subst e'
      rw [St.get_upd_ne _ _ e] at hc'
      simp only [if_true, e, if_false] at hp
      exact absurd (h.pl_lt hc' hq) (by omega)
    · rw [St.get_upd_ne _ _ e] at hc'
      rw [St.get_upd_ne _ _ e'] at hd
      simp only [e, e', if_false] at hp
      exact h.apart c d q r hc' hd hq hr hp
  · by_cases e : c = b
    · subst e
      rw [St.get_upd_same _ _ hb] at hc'
      cases hc'
      by_cases hv' : v' = v + 1
      · omega
      · have hx : G.tk c v' = some T := by simpa [Gh.ticket, Gh.more, hv'] using hT
        have := h.tkV c v' T hx sz v hb
        omega
    · rw [St.get_upd_ne _ _ e] at hc'
      have hx : G.tk c v' = some T := by simpa [Gh.ticket, Gh.more, e] using hT
      exact h.tkV c v' T hx sz' u hc'
  · obtain ⟨g1, g2, g3, g4⟩ := h.resV c hc0
    have hne : c ≠ b := fun e => by subst e; have : G.res c = true := hc0; rw [hres] at this; cases this
    exact ⟨g1, g2, g3, fun v => by simp [Gh.ticket, hne]; exact g4 v⟩
theorem RelS.setCells (h : RelS G w0 s w) {b sz : Nat} {cs cs' : List AV} {us : List Value} (hb : s.get b = some (.cells sz cs)) (hres : G.res b = false) (hu : RelL G cs' us) (hl : cs'.length = cs.length) :
    ∃ g cur E fr, G.rho b = some g ∧ w.heap[g]? = some (.cells cur E fr) ∧ cs.length ≤ cur.size ∧ ∀ cur' : Array Value, cur'.size = cur.size → cur'.toList.take cs.length = us → RelS G w0 (s.upd b (.cells sz cs')) (w.setRow g cur') := by
  obtain ⟨pl, h⟩ := h
  obtain ⟨hbase, hr, cur, E, vs, fr, e1, e2, e3, e4, e5, e6, efr⟩ := h.at_ b _ hb ⟨by simp, hres⟩
  refine ⟨pl b, cur, E, fr, hr, e1, e4, fun cur' hsz htk => ⟨pl, ?_⟩⟩
  have hgs := setRow_heap w (pl b) cur cur' E _ e1
  refine ⟨below_setRow h.below hbase _, by rw [size_setRow]; exact h.base, fun g' o' x hi => ?_, fun c hc => ?_, fun c q hc hd => ?_, fun c d q r hc hd hq hr hp => ?_, fun c v' T' hT sz' u hc => ?_, fun c hc0 => ?_⟩
  · obtain ⟨h1, h2⟩ := h.imm g' o' x hi
    have hg : g' ≠ pl b := fun e => by subst e; rw [e6] at hi; cases hi
    exact ⟨by rw [cell_setRow_other w _ _ _ hg]; exact h1, h2⟩
  · obtain ⟨g1, g2, g3, g4⟩ := h.fresh c hc
    have hne : c ≠ b := fun e => by subst e; rw [hb] at g1; cases g1
    exact ⟨by rw [St.get_upd_ne _ _ hne]; exact g1, g2, g3, g4⟩
  · by_cases e : c = b
    · subst e
      rw [St.get_upd_same _ _ hb] at hc
      cases hc
      exact ⟨hbase, hr, cur', E, us, fr, hgs, by rw [hsz]; exact e2, hu, by rw [hl, hsz]; exact e4, by rw [hl]; exact htk, e6, efr.sized hsz⟩
    · rw [St.get_upd_ne _ _ e] at hc
      obtain ⟨h1, h2⟩ := h.at_ c q hc hd
      have hne : pl c ≠ pl b := fun hx => e (h.apart c b q _ hc hb hd ⟨by simp, hres⟩ hx)
      exact ⟨h1, h2.keep (Gh.le_refl G) (setRow_other w _ _ _ hne) (fun o => rfl)⟩
  · have hc' : ∃ q, s.get c = some q ∧ G.Live c q := by
      by_cases e : c = b
      · exact ⟨_, e ▸ hb, ⟨by simp, by rw [e]; exact hres⟩⟩
      · rw [St.get_upd_ne _ _ e] at hc; exact ⟨_, hc, hq⟩
    have hd' : ∃ q, s.get d = some q ∧ G.Live d q := by
      by_cases e : d = b
      · exact ⟨_, e ▸ hb, ⟨by simp, by rw [e]; exact hres⟩⟩
      · rw [St.get_upd_ne _ _ e] at hd; exact ⟨_, hd, hr⟩
    obtain ⟨q1, a1, a2⟩ := hc'
    obtain ⟨q2, b1, b2⟩ := hd'
    exact h.apart c d q1 q2 a1 b1 a2 b2 hp
  · by_cases e : c = b
    · subst e
      rw [St.get_upd_same _ _ hb] at hc
      cases hc
    · rw [St.get_upd_ne _ _ e] at hc
      exact h.tkV c v' T' hT sz' u hc
  · exact h.resV c hc0
theorem RelS.kill (h : RelS G w0 s w) {b : Nat} {o : Obj} (hb : s.get b = some o) : RelS G w0 (s.upd b .dead) w := by
  obtain ⟨pl, h⟩ := h
  refine ⟨pl, h.below, h.base, h.imm, fun c hc => ?_, fun c q hc hd => ?_, fun c d q r hc hd hq hr hp => ?_, fun c v' T' hT sz' u hc => ?_, fun c hc0 => ?_⟩
  · obtain ⟨g1, g2, g3, g4⟩ := h.fresh c hc
    have hne : c ≠ b := fun e => by subst e; rw [hb] at g1; cases g1
    exact ⟨by rw [St.get_upd_ne _ _ hne]; exact g1, g2, g3, g4⟩
  · by_cases e : c = b
    · subst e
      rw [St.get_upd_same _ _ hb] at hc
      cases hc
      exact absurd rfl hd.1
    · rw [St.get_upd_ne _ _ e] at hc
      exact h.at_ c q hc hd
  · by_cases e : c = b
    · subst e; rw [St.get_upd_same _ _ hb] at hc; cases hc; exact absurd rfl hq.1
    · by_cases e' : d = b
      · subst e'; rw [St.get_upd_same _ _ hb] at hd; cases hd; exact absurd rfl hr.1
      · rw [St.get_upd_ne _ _ e] at hc; rw [St.get_upd_ne _ _ e'] at hd
        exact h.apart c d q r hc hd hq hr hp
  · by_cases e : c = b
    · subst e; rw [St.get_upd_same _ _ hb] at hc; cases hc
    · rw [St.get_upd_ne _ _ e] at hc
      exact h.tkV c v' T' hT sz' u hc
  · exact h.resV c hc0
theorem RelS.freeze (h : RelS G w0 s w) {b sz : Nat} {cs : List AV} (hb : s.get b = some (.cells sz cs)) (hres : G.res b = false) :
    ∃ g cur E vs fr G', G.rho b = some g ∧ w.heap[g]? = some (.cells cur E fr) ∧ G.le G' ∧ RelL G cs vs ∧ (∀ j v, vs[j]? = some v → G'.imm g j = some v) ∧ RelS G' w0 (s.upd b (.froz sz cs)) w := by
  obtain ⟨pl, h⟩ := h
  obtain ⟨hbase, hr, cur, E, vs, fr, e1, e2, e3, e4, e5, e6, efr⟩ := h.at_ b _ hb ⟨by simp, hres⟩
  have hle := Gh.more_le G (pl b) 0 vs (fun o _ => e6 o) hbase
  refine ⟨pl b, cur, E, vs, fr, G.more (pl b) 0 vs, hr, e1, hle, e3, fun j v hv => by have := Gh.more_at G (pl b) 0 vs j v hv; rwa [Nat.zero_add] at this, pl, ?_⟩
  refine ⟨h.below, h.base, fun g o x hi => ?_, fun c hc => ?_, fun c q hc hd => ?_, fun c d q r hc hd hq hr hp => ?_, fun c v' T' hT sz' u hc => ?_, fun c hc0 => ?_⟩
  · by_cases hg : g = pl b
    · subst hg
      by_cases ho : o < vs.length
      · have hv : vs[o]? = some x := by simpa [Gh.more, ho] using hi
        refine ⟨?_, e3.mem x (List.mem_of_getElem? hv)⟩
        rw [← e5, List.getElem?_take] at hv
        split at hv
        · simp only [World.cell?, e1]; simpa using hv
        · cases hv
      · rw [Gh.more_beyond _ _ _ _ (by omega), e6] at hi; cases hi
    · rw [Gh.more_other _ _ _ _ hg] at hi
      exact h.imm g o x hi
  · obtain ⟨g1, g2, g3, g4⟩ := h.fresh c hc
    have hne : c ≠ b := fun e => by subst e; rw [hb] at g1; cases g1
    exact ⟨by rw [St.get_upd_ne _ _ hne]; exact g1, g2, g3, g4⟩
  · by_cases e : c = b
    · subst e
      rw [St.get_upd_same _ _ hb] at hc
      cases hc
      exact ⟨hbase, hle.rho _ _ hr, cur, E, vs, fr, e1, e3.mono hle, fun j v hv => by have := Gh.more_at G (pl c) 0 vs j v hv; rwa [Nat.zero_add] at this⟩
    · rw [St.get_upd_ne _ _ e] at hc
      obtain ⟨h1, h2⟩ := h.at_ c q hc hd
      have hne : pl c ≠ pl b := fun hx => e (h.apart c b q _ hc hb hd ⟨by simp, hres⟩ hx)
      exact ⟨h1, h2.keep hle rfl (fun o => Gh.more_other _ _ _ _ hne o)⟩
  · by_cases e : c = b
    · by_cases e' : d = b
      · rw [e, e']
      · rw [St.get_upd_ne _ _ e'] at hd
        subst e
        exact h.apart c d _ r hb hd ⟨by simp, hres⟩ hr hp
    · by_cases e' : d = b
      · rw [St.get_upd_ne _ _ e] at hc
        subst e'
        exact h.apart c d q _ hc hb hq ⟨by simp, hres⟩ hp
      · rw [St.get_upd_ne _ _ e] at hc; rw [St.get_upd_ne _ _ e'] at hd
        exact h.apart c d q r hc hd hq hr hp
  · by_cases e : c = b
    · subst e; rw [St.get_upd_same _ _ hb] at hc; cases hc
    · rw [St.get_upd_ne _ _ e] at hc
      exact h.tkV c v' T' hT sz' u hc
  · exact h.resV c hc0
theorem RelS.froz (h : RelS G w0 s w) {b sz : Nat} {cs : List AV} (hb : s.get b = some (.froz sz cs)) (hres : G.res b = false) :
    ∃ g vs, G.rho b = some g ∧ RelL G cs vs ∧ (∀ j v, vs[j]? = some v → G.imm g j = some v) := by
  obtain ⟨pl, h⟩ := h
  obtain ⟨_, hr, cur, E, vs, fr, e1, e2, e3⟩ := h.at_ b _ hb ⟨by simp, hres⟩
  exact ⟨pl b, vs, hr, e2, e3⟩
end
end Go.Ab
/- The evaluator's operations on values answer as the machine's do. No conditions. -/
set_option linter.unusedSimpArgs false
set_option linter.unusedVariables false
namespace Go.Ab
open Go
def conc : AV → Value
  | .int k n => .int k n
  | .bool b => .bool b
  | .str l => .string ⟨l.toArray⟩
  | _ => undef
section
variable {P : Program} {G : Gh} {w : World}
theorem binI_sound {op : BinOp} {k : IntKind} {a b : Int} {v : AV} (t : TypeId) (h : binI op k a b = some v) (hs : op ≠ .shl ∧ op ≠ .shr) :
    ∃ v', (binOp op t (.int k a) (.int k b)).run P w = .ok v' w ∧ RelV G v v' := by
  refine ⟨conc v, ?_⟩
  cases op <;> simp only [binI] at h <;> first
    | (exact absurd rfl hs.1) | (exact absurd rfl hs.2)
    | (cases h; done)
    | (split at h
       · cases h
       · rename_i hb
         cases h
         exact ⟨by simp [conc, binOp, Op.intDiv, hb, Sem.run], .int _ _⟩)
    | (cases h
       exact ⟨by simp [conc, binOp, Op.intArith, Op.intBits, Op.intCmp, Sem.run], by first | exact .int _ _ | exact .bool _⟩)
theorem shI_sound {op : BinOp} {k k' : IntKind} {a b : Int} {v : AV} (t : TypeId) (h : shI op k a b = some v) :
    ∃ v', (binOp op t (.int k a) (.int k' b)).run P w = .ok v' w ∧ RelV G v v' := by
  refine ⟨conc v, ?_⟩
  unfold shI at h
  split at h
  · cases h
  · rename_i hb
    cases op <;> simp only at h <;> first
      | (cases h; done)
      | (cases h
         exact ⟨by simp [conc, binOp, Op.shift, hb, Sem.run], .int _ _⟩)
theorem binS_sound {op : BinOp} {a b : ByteArray} {v : AV} (t : TypeId) (h : binS op a.data.toList b.data.toList = some v) :
    ∃ v', (binOp op t (.string a) (.string b)).run P w = .ok v' w ∧ RelV G v v' := by
  cases op <;> simp only [binS] at h <;> first
    | (cases h; done)
    | (split at h
       · rename_i hl
         cases h
         have hl' : ¬ ((a.size + b.size : Nat) : Int) > IntKind.i64.max := by
           have h1 : IntKind.i64.max = 9223372036854775807 := by decide
           have h2 : a.data.toList.length = a.size := by simp
           have h3 : b.data.toList.length = b.size := by simp
           rw [h1]; omega
         refine ⟨.string (a ++ b), by simp only [binOp, Op.stringOp]; rw [if_neg hl']; rfl, ?_⟩
         have : (a ++ b).data.toList = a.data.toList ++ b.data.toList := by simp
         rw [← this]; exact .str _
       · cases h)
    | (refine ⟨conc v, ?_⟩
       cases h
       exact ⟨by simp [conc, binOp, Op.stringOp, ByteArray.toList_eq, Sem.run], .bool _⟩)
theorem binV_sound {op : BinOp} {x y v : AV} {x' y' : Value} (t : TypeId) (h : binV op x y = some v) (hx : RelV G x x') (hy : RelV G y y') :
    ∃ v', (binOp op t x' y').run P w = .ok v' w ∧ RelV G v v' := by
  cases hx <;> cases hy <;> simp only [binV] at h <;> first
    | (cases h; done)
    | exact binS_sound t h
    | (split at h
       · exact shI_sound t h
       · exact shI_sound t h
       · rename_i h1 h2
         split at h
         · rename_i e
           subst e
           exact binI_sound t h ⟨fun e => h1 e, fun e => h2 e⟩
         · cases h)
theorem unV_sound {op : UnOp} {x v : AV} {x' : Value} (h : unV op x = some v) (hx : RelV G x x') :
    ∃ v', (Op.unary op x').run P w = .ok v' w ∧ RelV G v v' := by
  refine ⟨conc v, ?_⟩
  cases hx <;> cases op <;> simp only [unV] at h <;> first
    | (cases h; done)
    | (cases h
       exact ⟨by simp [conc, Op.unary, Op.intArith, Op.intBits, Sem.run], by first | exact .int _ _ | exact .bool _⟩)
/-! ### Conversions -/
theorem addr_add (g o j : Nat) : (⟨g, o, none⟩ : Addr).add j = ⟨g, o + j, none⟩ := by unfold Addr.add; split <;> simp_all
def ImmW (G : Gh) (w : World) : Prop := ∀ g o v, G.imm g o = some v → w.cell? ⟨g, o, none⟩ = some v ∧ v.oneCell' = true
theorem RelS.immW {w0 : World} {s : St} (h : RelS G w0 s w) : ImmW G w := by obtain ⟨pl, h⟩ := h; exact h.imm
theorem imm_reads (h : ImmW G w) {g o : Nat} {vs : List Value} (hi : ∀ j v, vs[j]? = some v → G.imm g (o + j) = some v) : ∀ j v, vs[j]? = some v → w.cell? ((⟨g, o, none⟩ : Addr).add j) = some v :=
  fun j v hv => by rw [addr_add]; exact (h _ _ _ (hi j v hv)).1
theorem toBytes_sound {cs : List AV} {vs : List Value} {l : List UInt8} (h : toBytes cs = some l) (hr : RelL G cs vs) : ∃ ns : List Int, vs = ns.map (Value.int .u8) ∧ l = ns.map fun n => UInt8.ofNat n.toNat := by
  induction cs generalizing vs l with
  | nil => cases hr; simp only [toBytes] at h; cases h; exact ⟨[], rfl, rfl⟩
  | cons a as ih =>
    cases hr with
    | cons _ v _ us h' h1 t =>
      simp only [toBytes] at h
      split at h
      · rename_i b l' hb hl'
        cases h
        obtain ⟨ns, e1, e2⟩ := ih hl' t
        cases h' <;> (try simp only [toByte] at hb) <;> try (cases hb; done)
        rename_i k n
        cases k <;> (try simp only [toByte] at hb) <;> try (cases hb; done)
        cases hb
        exact ⟨n :: ns, by simp [e1], by simp [e2]⟩
      · cases h
theorem foldl_push (ns : List Int) (s : ByteArray) : (ns.foldl (fun r n => r.push (UInt8.ofNat n.toNat)) s).data.toList = s.data.toList ++ ns.map fun n => UInt8.ofNat n.toNat := by
  induction ns generalizing s with
  | nil => simp
  | cons n ns ih => simp only [List.foldl_cons, ih, List.map_cons]; simp [ByteArray.push]
theorem runes_sound {cs : List AV} {vs : List Value} {l : List UInt8} (h : runes cs = some l) (hr : RelL G cs vs) : ∃ ns : List Int, vs = ns.map (Value.int .i32) ∧ l = ns.flatMap fun n => (Utf8.encode n).data.toList := by
  induction cs generalizing vs l with
  | nil => cases hr; simp only [runes] at h; cases h; exact ⟨[], rfl, rfl⟩
  | cons a as ih =>
    cases hr with
    | cons _ v _ us h' h1 t =>
      cases h' <;> (try simp only [runes] at h) <;> try (cases h; done)
      rename_i k n
      cases k <;> (try simp only [runes] at h) <;> try (cases h; done)
      split at h
      · rename_i l' hl'
        cases h
        obtain ⟨ns, e1, e2⟩ := ih hl' t
        exact ⟨n :: ns, by simp [e1], by simp [e2]⟩
      · cases h
theorem foldl_runes (ns : List Int) (s : ByteArray) : (ns.foldl (fun r n => r ++ Utf8.encode n) s).data.toList = s.data.toList ++ ns.flatMap fun n => (Utf8.encode n).data.toList := by
  induction ns generalizing s with
  | nil => simp
  | cons n ns ih => simp only [List.foldl_cons, ih, List.flatMap_cons]; simp
theorem bytes_run {g o n cap : Nat} {vs : List Value} {ns : List Int} (hv : vs = ns.map (Value.int .u8)) (hn : vs.length = n)
    (hr : ∀ j v, vs[j]? = some v → w.cell? ((⟨g, o, none⟩ : Addr).add j) = some v) :
    ∃ s : ByteArray, (Conv.bytesToString (.slice (some ⟨g, o, none⟩) n cap)).run P w = .ok (.string s) w ∧ s.data.toList = ns.map fun n => UInt8.ofNat n.toNat := by
  have hl := run_loadCells_list (P := P) w ⟨g, o, none⟩ vs hr
  rw [hn] at hl
  exact ⟨_, run_bytesToString w _ n cap ns (by rw [hl, hv]), by rw [foldl_push]; simp⟩
def ConvAt (P : Program) (src dst : TypeId) : Cv → Prop
  | .toInt k => P.underlying dst = some (.int k)
  | .same => P.underlying src = some .string ∧ P.underlying dst = some .string
  | .itos => P.underlying dst = some .string
  | .b2s => ∃ e, P.underlying src = some (.slice e) ∧ P.underlying dst = some .string ∧ P.underlying e = some (.int .u8)
  | .r2s => ∃ e, P.underlying src = some (.slice e) ∧ P.underlying dst = some .string ∧ P.underlying e = some (.int .i32)
  | .s2b => P.underlying src = some .string ∧ ∃ e, P.underlying dst = some (.slice e) ∧ P.underlying e = some (.int .u8)
  | .s2r => False
  | .s2h => P.underlying src = some .string ∧ ∃ e, P.underlying dst = some (.slice e) ∧ P.underlying e = some (.int .u8)
  | .mark => src = dst ∧ ∃ e, P.underlying dst = some (.slice e) ∧ P.underlying e = some (.int .u8)
theorem convP_sound {c : Cv} {x v : AV} {x' : Value} (src dst : TypeId) (hI : ImmW G w) (h : convP c x = some v) (hx : RelV G x x')
    (hc : ConvAt P src dst c) (hs : ∃ d, P.underlying src = some d) :
    ∃ v', (convert src dst x').run P w = .ok v' w ∧ RelV G v v' := by
  obtain ⟨d, hs⟩ := hs
  cases c with
  | toInt k =>
    have hc : P.underlying dst = some (.int k) := hc
    cases hx <;> simp only [convP] at h <;> try (cases h; done)
    cases h
    exact ⟨.int k _, by simp [convert, run_underlying hc, run_underlying hs, Conv.intToInt], .int _ _⟩
  | same =>
    obtain ⟨h1, h2⟩ := hc
    cases hx <;> simp only [convP] at h <;> try (cases h; done)
    cases h
    exact ⟨_, by simp [convert, run_underlying h1, run_underlying h2], .str _⟩
  | itos =>
    have hc : P.underlying dst = some .string := hc
    cases hx <;> simp only [convP] at h <;> try (cases h; done)
    cases h
    exact ⟨_, by simp [convert, run_underlying hc, run_underlying hs, Conv.intToString], .str _⟩
  | b2s =>
    obtain ⟨e, h1, h2, h3⟩ := hc
    cases hx <;> simp only [convP] at h <;> try (cases h; done)
    · cases h
      exact ⟨.string .empty, by rw [run_convert_bytes_string w src dst e none 0 0 h1 h3 h2]; rfl, .str .empty⟩
    · rename_i cs n tk g o cap vs hl hi hn hcap ht
      split at h
      · rename_i hlen
        obtain ⟨l, hl', rfl⟩ := Option.map_eq_some_iff.1 h
        obtain ⟨ns, e1, e2⟩ := toBytes_sound hl' hl
        obtain ⟨s, hs1, hs2⟩ := bytes_run (P := P) (cap := cap) e1 (by rw [← hl.length, hlen]) (imm_reads hI hi)
        refine ⟨_, by rw [run_convert_bytes_string w src dst e _ n cap h1 h3 h2]; exact hs1, ?_⟩
        rw [e2, ← hs2]; exact .str _
      · cases h
    · rename_i a
      have h' : v = .str [] := by simpa [toBytes, eq_comm] using h
      subst h'
      exact ⟨.string .empty, by rw [run_convert_bytes_string w src dst e (some a) 0 0 h1 h3 h2]; rfl, .str .empty⟩
  | r2s =>
    obtain ⟨e, h1, h2, h3⟩ := hc
    cases hx <;> simp only [convP] at h <;> try (cases h; done)
    · cases h
      exact ⟨.string .empty, by simp [convert, run_underlying h1, run_underlying h2, run_underlying h3, Conv.runesToString], .str .empty⟩
    · rename_i cs n tk g o cap vs hl hi hn hcap ht
      split at h
      · rename_i hlen
        obtain ⟨l, hl', rfl⟩ := Option.map_eq_some_iff.1 h
        obtain ⟨ns, e1, e2⟩ := runes_sound hl' hl
        have hld := run_loadCells_list (P := P) w ⟨g, o, none⟩ vs (imm_reads hI hi)
        rw [← hl.length, hlen] at hld
        have hr := run_runesToString (P := P) w ⟨g, o, none⟩ n cap ns (by rw [hld, e1])
        refine ⟨_, by simp [convert, run_underlying h1, run_underlying h2, run_underlying h3]; exact hr, ?_⟩
        rw [e2]
        have := foldl_runes ns ByteArray.empty
        have h0 : (runesBytes ns).data.toList = ns.flatMap fun n => (Utf8.encode n).data.toList := by unfold runesBytes; rw [this]; simp
        rw [← h0]; exact .str _
      · cases h
    · rename_i a
      have h' : v = .str [] := by simpa [runes, eq_comm] using h
      subst h'
      exact ⟨.string .empty, by simp [convert, run_underlying h1, run_underlying h2, run_underlying h3, Conv.runesToString, loadCells, loadCellsFrom], .str .empty⟩
  | _ => cases hx <;> simp only [convP] at h <;> cases h
/-! ### Slices -/
theorem idx_sound {n : Nat} {i : AV} {i' : Value} {j : Nat} (h : idx n i = some j) (hi : RelV G i i') : ∃ k z, i' = .int k z ∧ 0 ≤ z ∧ z < n ∧ z.toNat = j := by
  cases hi <;> simp only [idx] at h <;> try (cases h; done)
  split at h
  · rename_i hz; cases h; exact ⟨_, _, rfl, hz.1, hz.2, rfl⟩
  · cases h
theorem bnd_sound {n : Nat} {i : AV} {i' : Value} {j : Nat} (code : BoundsCode) (h : bnd n i = some j) (hi : RelV G i i') : j ≤ n ∧ (Instr.sliceBound i' n code).run P w = .ok j w := by
  cases hi <;> simp only [bnd] at h <;> try (cases h; done)
  split at h
  · rename_i hz
    cases h
    refine ⟨by omega, ?_⟩
    simp [Instr.sliceBound, asIntOf, hz]
  · cases h
inductive RelO (G : Gh) : Option AV → Option Value → Prop
  | none : RelO G none none
  | some (a : AV) (v : Value) (h : RelV G a v) : RelO G (some a) (some v)
theorem bounds_sound {isSlice : Bool} {n cap h l : Nat} {lo hi : Option AV} {lo' hi' : Option Value} (hn : n ≤ cap) (hh : bndO n n hi = some h) (hl : bndO 0 h lo = some l)
    (rl : RelO G lo lo') (rh : RelO G hi hi') : l ≤ h ∧ h ≤ n ∧ (Instr.sliceBounds isSlice n cap lo' hi' none).run P w = .ok (l, h, cap) w := by
  have key : ∀ (code : BoundsCode) {n' : Nat} {a : AV} {v : Value} {j : Nat}, bnd n a = some j → RelV G a v → n ≤ n' → (Instr.sliceBound v n' code).run P w = .ok j w := by
    intro code n' a v j hb hr hn'
    cases hr <;> simp only [bnd] at hb <;> try (cases hb; done)
    split at hb
    · rename_i hz
      cases hb
      simp [Instr.sliceBound, asIntOf, hz.1, Int.le_trans hz.2 (Int.ofNat_le.2 hn')]
    · cases hb
  have hle : h ≤ n := by
    cases rh with
    | none => simp only [bndO] at hh; cases hh; exact Nat.le_refl _
    | some a v hr => exact (bnd_sound (P := P) (w := w) .index hh hr).1
  have lle : l ≤ h := by
    cases rl with
    | none => simp only [bndO] at hl; cases hl; exact Nat.zero_le _
    | some a v hr => exact (bnd_sound (P := P) (w := w) .index hl hr).1
  refine ⟨lle, hle, ?_⟩
  cases rh with
  | none =>
    simp only [bndO] at hh
    cases hh
    cases rl with
    | none => simp only [bndO] at hl; cases hl; simp [Instr.sliceBounds]
    | some a v hr =>
      have := (bnd_sound (P := P) (w := w) .sliceB hl hr).2
      simp [Instr.sliceBounds, this]
  | some b u hb =>
    have h1 := key (if isSlice then .sliceAcap else .sliceAlen) hh hb hn
    cases rl with
    | none => simp only [bndO] at hl; cases hl; simp [Instr.sliceBounds, h1]
    | some a v hr =>
      have h2 := (bnd_sound (P := P) (w := w) .sliceB hl hr).2
      simp [Instr.sliceBounds, h1, h2]
theorem slcS_sound {s : ByteArray} {v : AV} {lo hi : Option AV} {lo' hi' : Option Value} (t : TypeId) (h : slcS (.str s.data.toList) lo hi = some v)
    (rl : RelO G lo lo') (rh : RelO G hi hi') (ht : P.underlying t = some .string) :
    ∃ v', (Instr.sliceAt t (.string s) lo' hi' none).run P w = .ok v' w ∧ RelV G v v' := by
  simp only [slcS] at h
  split at h
  · rename_i h' hh
    split at h
    · rename_i l hl
      cases h
      have hsz : s.data.toList.length = s.size := by simp
      rw [hsz] at hh
      obtain ⟨h1, h2, h3⟩ := bounds_sound (P := P) (w := w) (isSlice := false) (Nat.le_refl _) hh hl rl rh
      refine ⟨.string (s.extract l h'), by simp [Instr.sliceAt, Instr.slice, run_underlying ht, h3], ?_⟩
      have : (s.extract l h').data.toList = (s.data.toList.take h').drop l := by
        simp [ByteArray.extract, ByteArray.copySlice, List.drop_take]
      rw [← this]; exact .str _
    · cases h
  · cases h
theorem slcV_slice {x v : AV} {x' : Value} {lo hi : Option AV} {lo' hi' : Option Value} {size : Nat} (t e : TypeId) (i : TypeInfo) (h : slcV size x lo hi = some v) (hx : RelV G x x')
    (rl : RelO G lo lo') (rh : RelO G hi hi') (ht : P.underlying t = some (.slice e)) (hi0 : P.info? e = some i) (hsz : i.size = size) :
    ∃ v', (Instr.sliceAt t x' lo' hi' none).run P w = .ok v' w ∧ RelV G v v' := by
  cases hx <;> (try simp only [slcV] at h) <;> try (cases h; done)
  · -- nil
    split at h
    · rename_i h' hh
      split at h
      · rename_i l hl
        cases h
        obtain ⟨h1, h2, h3⟩ := bounds_sound (P := P) (w := w) (isSlice := true) (Nat.le_refl 0) hh hl rl rh
        have e1 : h' = 0 := by omega
        have e2 : l = 0 := by omega
        subst e1; subst e2
        exact ⟨.slice none 0 0, by simp [Instr.sliceAt, Instr.slice, run_underlying ht, h3, sizeOf, typeInfo, hi0], .nils⟩
      · cases h
    · cases h
  · rename_i cs n tk g o cap vs hl hi hn hcap htk
    split at h
    · rename_i h' hh
      split at h
      · rename_i l hl'
        cases h
        obtain ⟨h1, h2, h3⟩ := bounds_sound (P := P) (w := w) (isSlice := true) hn hh hl' rl rh
        have hrun : (Instr.sliceAt t (.slice (some ⟨g, o, none⟩) n cap) lo' hi' none).run P w = .ok (.slice (some (if cap = l then ⟨g, o, none⟩ else ⟨g, o + l * size, none⟩)) (h' - l) (cap - l)) w := by
          simp only [Instr.sliceAt, Instr.slice, run_underlying ht, h3, sizeOf, typeInfo, hi0, Sem.run_bind, Result.andThen_ok, Sem.run_pure, run_program, hsz, Option.map_some, addr_add]
          split <;> rfl
        refine ⟨_, hrun, ?_⟩
        by_cases hcl : cap = l
        · rw [if_pos hcl]
          have e1 : h' = l := by omega
          have hemp : (cs.take (h' * size)).drop (l * size) = [] := by rw [e1]; apply List.drop_eq_nil_of_le; rw [List.length_take]; exact Nat.min_le_left _ _
          rw [hemp]
          refine .sl _ _ _ _ _ _ [] .nil (fun j v hv => by simp at hv) (by omega) (by omega) ?_
          cases tk with
          | none => trivial
          | some p =>
            obtain ⟨b, u, z⟩ := p
            simp only [tkCut]
            split
            · rename_i hhn
              obtain ⟨k, T, q1, q0, q2, q3, q4, q5⟩ := htk
              exact ⟨k + l, T, q1, q0, q2, by omega, by omega, .inr (by omega)⟩
            · trivial
        · rw [if_neg hcl]
          refine .sl _ _ _ _ _ _ ((vs.take (h' * size)).drop (l * size)) ((hl.take _).drop _) (fun j v hv => ?_) (by omega) (by omega) ?_
          · rw [List.getElem?_drop, List.getElem?_take] at hv
            split at hv
            · have := hi _ _ hv
              rw [show o + l * size + j = o + (l * size + j) by omega]
              exact this
            · cases hv
          · cases tk with
            | none => trivial
            | some p =>
              obtain ⟨b, u, z⟩ := p
              simp only [tkCut]
              split
              · rename_i hhn
                obtain ⟨k, T, q1, q0, q2, q3, q4, q5⟩ := htk
                refine ⟨k + l, T, q1, q0, q2, by omega, by omega, ?_⟩
                rcases q5 with q5 | q5
                · exact .inl (by rw [q5, q0, hhn.2, Nat.add_mul]; omega)
                · omega
              · trivial
      · cases h
    · cases h
  · rename_i a
    split at h
    · rename_i h' hh
      split at h
      · rename_i l hl'
        obtain ⟨h1, h2, h3⟩ := bounds_sound (P := P) (w := w) (isSlice := true) (Nat.le_refl 0) hh hl' rl rh
        have e1 : h' = 0 := by omega
        have e2 : l = 0 := by omega
        subst e1; subst e2
        have hv : v = .sl [] 0 none := by simpa [tkCut, eq_comm] using h
        subst hv
        exact ⟨.slice (some a) 0 0, by simp [Instr.sliceAt, Instr.slice, run_underlying ht, h3, sizeOf, typeInfo, hi0], .sl0 a⟩
      · cases h
    · cases h
  · rename_i z b o n g cap L hr hlim hn hc hm
    split at h
    · rename_i h' hh
      split at h
      · rename_i l hl'
        split at h
        · rename_i hcond
          cases h
          obtain ⟨h1, h2, h3⟩ := bounds_sound (P := P) (w := w) (isSlice := true) hn hh hl' rl rh
          obtain ⟨hz, hcond⟩ := hcond
          subst hz
          have hrun : (Instr.sliceAt t (.slice (some ⟨g, o, none⟩) n cap) lo' hi' none).run P w = .ok (.slice (some ⟨g, o + l * z, none⟩) (h' - l) (cap - l)) w := by
            simp only [Instr.sliceAt, Instr.slice, run_underlying ht, h3, sizeOf, typeInfo, hi0, Sem.run_bind, Result.andThen_ok, Sem.run_pure, run_program, hsz, Option.map_some, addr_add]
            split
            · rename_i e
              rcases hcond with hcond | hcond
              · subst hcond; simp
              · omega
            · rfl
          refine ⟨_, hrun, .hs _ _ _ _ _ _ _ hr hlim (by omega) ?_ (by omega)⟩
          have : l * z + (cap - l) * z = cap * z := by rw [← Nat.add_mul]; congr 1; omega
          omega
        · cases h
      · cases h
    · cases h
end
end Go.Ab
/- The evaluator's operations on values answer as the machine's do, continued: equality, fields, building. No conditions. -/
set_option linter.unusedSimpArgs false
set_option linter.unusedVariables false
namespace Go.Ab
open Go
section
variable {P : Program} {G : Gh} {w : World}
/-! ### Equality -/
theorem eqSc_sound {k : SK} {x y : AV} {b : Bool} {x' y' : Value} {t : TypeId} (d : Nat) (h : eqSc k x y = some b) (hx : RelV G x x') (hy : RelV G y y') (ht : scKind P t = some k) :
    (Op.equalIn (d + 1) t x' y').run P w = .ok b w := by
  unfold scKind at ht
  split at ht <;> try (cases ht; done)
  · rename_i hu
    cases ht
    cases hx <;> cases hy <;> (try simp only [eqSc] at h) <;> try (cases h; done)
    cases h
    exact run_equalIn_bool' w d t _ _ hu
  · rename_i k0 hu
    cases ht
    cases hx <;> cases hy <;> (try simp only [eqSc] at h) <;> try (cases h; done)
    split at h
    · rename_i e
      cases h
      subst e
      exact run_equalIn_int w d t _ _ _ _ hu
    · cases h
  · rename_i hu
    cases ht
    cases hx <;> cases hy <;> (try simp only [eqSc] at h) <;> try (cases h; done)
    cases h
    rw [run_equalIn_string w d t _ _ hu, ByteArray.toList_eq, ByteArray.toList_eq]
theorem run_isAgg_of {t : TypeId} {d : TypeDesc} (hu : P.underlying t = some d) (hs : ∀ fs, d ≠ .struct fs) (ha : ∀ n e, d ≠ .array n e) : (isAgg t).run P w = .ok false w := by
  simp only [isAgg, Sem.run_bind, run_underlying hu, Result.andThen_ok]
  cases d <;> first | rfl | exact absurd rfl (hs _) | exact absurd rfl (ha _ _)
theorem run_part_cell {t : TypeId} {d : TypeDesc} {V : Array Value} {off : Nat} {v : Value} (hu : P.underlying t = some d) (hs : ∀ fs, d ≠ .struct fs) (ha : ∀ n e, d ≠ .array n e) (hx : V[off]? = some v) :
    (part t V off).run P w = .ok v w := by
  simp [part, run_isAgg_of hu hs ha, hx]
theorem scKind_desc {t : TypeId} {k : SK} (h : scKind P t = some k) : ∃ d, P.underlying t = some d ∧ (∀ fs, d ≠ .struct fs) ∧ (∀ n e, d ≠ .array n e) := by
  unfold scKind at h
  split at h <;> first
    | (rename_i hu; exact ⟨_, hu, by simp, by simp⟩)
    | cases h
theorem eqScL_append {ks : List SK} {b : Bool} : ∀ {ks1 : List SK} {xs ys : List AV}, eqScL (ks1 ++ ks) xs ys = some b →
    (eqScL ks1 (xs.take ks1.length) (ys.take ks1.length) = some true ∧ eqScL ks (xs.drop ks1.length) (ys.drop ks1.length) = some b) ∨
    (eqScL ks1 (xs.take ks1.length) (ys.take ks1.length) = some false ∧ b = false) := by
  intro ks1
  induction ks1 with
  | nil => intro xs ys h; exact .inl ⟨by simp [eqScL], by simpa using h⟩
  | cons k ks1 ih =>
    intro xs ys h
    cases xs with
    | nil => simp [eqScL] at h
    | cons x xs => cases ys with
      | nil => simp [eqScL] at h
      | cons y ys =>
        simp only [List.cons_append, eqScL] at h
        simp only [List.length_cons, List.take_succ_cons, List.drop_succ_cons, eqScL]
        split at h
        · exact ih h
        · rename_i hs; cases h; exact .inr ⟨by simp, rfl⟩
        · cases h
theorem run_part_agg {t : TypeId} {fs : Array Field} {V : Array Value} {off n : Nat} (hu : P.underlying t = some (.struct fs)) (hs : szOf P t = some n) :
    (part t V off).run P w = .ok (.agg (V.extract off (off + n))) w := by
  unfold szOf at hs
  obtain ⟨i, hi, rfl⟩ := Option.map_eq_some_iff.1 hs
  simp [part, isAgg, run_underlying hu, Go.sizeOf, typeInfo, hi]
theorem eqFields_sound {sub : TypeId → Option (List SK)} (d : Nat)
    (hsub : ∀ t ks, sub t = some ks → (∃ fs, P.underlying t = some (.struct fs)) ∧ ∀ (xs ys : List AV) (V U : Array Value) (b : Bool), eqScL ks xs ys = some b → RelL G xs V.toList → RelL G ys U.toList → (Op.equalIn (d + 1) t (.agg V) (.agg U)).run P w = .ok b w)
    {fs : List Field} : ∀ {ks : List SK} {off : Nat} {xs ys : List AV} {V U : Array Value} {b : Bool}, flatFields P sub fs off = some ks → eqScL ks xs ys = some b →
    RelL G xs (V.toList.drop off) → RelL G ys (U.toList.drop off) → (Op.eqFields (d + 1) V U fs).run P w = .ok b w := by
  induction fs with
  | nil =>
    intro ks off xs ys V U b hf he hx hy
    simp only [flatFields] at hf
    cases hf
    cases xs with
    | nil => cases ys with
      | nil => simp only [eqScL] at he; cases he; simp [Op.eqFields]
      | cons y ys => simp [eqScL] at he
    | cons x xs => simp [eqScL] at he
  | cons f fs ih =>
    intro ks off xs ys V U b hf he hx hy
    simp only [flatFields] at hf
    split at hf
    · rename_i ks1 hk1
      split at hf
      · rename_i ks' hks
        split at hf
        · rename_i hc
          cases hf
          have hxt : RelL G (xs.drop ks1.length) (V.toList.drop (off + ks1.length)) := by have := hx.drop ks1.length; simpa [List.drop_drop] using this
          have hyt : RelL G (ys.drop ks1.length) (U.toList.drop (off + ks1.length)) := by have := hy.drop ks1.length; simpa [List.drop_drop] using this
          have hh := eqScL_append he
          -- the field itself
          have one : ∀ c, eqScL ks1 (xs.take ks1.length) (ys.take ks1.length) = some c →
              ∃ v u, (part f.type V off).run P w = .ok v w ∧ (part f.type U off).run P w = .ok u w ∧ (Op.equalIn (d + 1) f.type v u).run P w = .ok c w := by
            intro c hcc
            unfold fieldKinds at hk1
            split at hk1
            · rename_i k hk
              cases hk1
              cases xs with
              | nil => simp [eqScL] at hcc
              | cons x xs => cases ys with
                | nil => simp [eqScL] at hcc
                | cons y ys =>
                  obtain ⟨v, hv, rv, _⟩ := hx.get (i := 0) (by simp : (x :: xs)[0]? = some x)
                  obtain ⟨u, hu, ru, _⟩ := hy.get (i := 0) (by simp : (y :: ys)[0]? = some y)
                  have hv' : V[off]? = some v := by simpa using hv
                  have hu' : U[off]? = some u := by simpa using hu
                  obtain ⟨dd, hd, h1, h2⟩ := scKind_desc hk
                  refine ⟨v, u, run_part_cell hd h1 h2 hv', run_part_cell hd h1 h2 hu', ?_⟩
                  simp only [List.length_cons, List.length_nil, List.take_succ_cons, List.take_zero, eqScL] at hcc
                  split at hcc
                  · rename_i hs; simp only [Option.some.injEq] at hcc; subst hcc; exact eqSc_sound d hs rv ru hk
                  · rename_i hs; cases hcc; exact eqSc_sound d hs rv ru hk
                  · cases hcc
            · split at hk1
              · rename_i ks0 hs0
                split at hk1
                · rename_i hsz
                  cases hk1
                  obtain ⟨⟨gs, hu⟩, hall⟩ := hsub _ _ hs0
                  refine ⟨_, _, run_part_agg hu hsz, run_part_agg hu hsz, ?_⟩
                  refine hall _ _ _ _ c hcc ?_ ?_
                  · have := hx.take ks1.length
                    simpa [Array.toList_extract, List.extract_eq_take_drop] using this
                  · have := hy.take ks1.length
                    simpa [Array.toList_extract, List.extract_eq_take_drop] using this
                · cases hk1
              · cases hk1
          rw [Op.eqFields, if_pos hc.2, hc.1]
          rcases hh with ⟨h1, h2⟩ | ⟨h1, h2⟩
          · obtain ⟨v, u, e1, e2, e3⟩ := one true h1
            simp only [Sem.run_bind, e1, e2, e3, Result.andThen_ok, Bool.not_true, Bool.false_eq_true, if_false]
            exact ih hks h2 hxt hyt
          · obtain ⟨v, u, e1, e2, e3⟩ := one false h1
            subst h2
            simp [Sem.run_bind, e1, e2, e3]
        · cases hf
      · cases hf
    · cases hf
theorem flatSub_sound : ∀ (d m : Nat) (t : TypeId) (ks : List SK), flatSub P d t = some ks → (∃ fs, P.underlying t = some (.struct fs)) ∧
    ∀ (xs ys : List AV) (V U : Array Value) (b : Bool), eqScL ks xs ys = some b → RelL G xs V.toList → RelL G ys U.toList → (Op.equalIn (m + d + 1) t (.agg V) (.agg U)).run P w = .ok b w := by
  intro d
  induction d with
  | zero => intro m t ks h; simp [flatSub] at h
  | succ d ih =>
    intro m t ks h
    simp only [flatSub] at h
    split at h
    · rename_i fs hu
      split at h
      · cases h
      · rename_i hst
        refine ⟨⟨fs, hu⟩, fun xs ys V U b he hx hy => ?_⟩
        have hf : P.fieldsOf t = fs := by simp [Program.fieldsOf, hu]
        rw [show m + (d + 1) + 1 = (m + d + 1) + 1 by omega, run_equalIn_struct w (m + d + 1) t V U (by rw [hf]; exact hu) (by simpa using hst), hf]
        exact eqFields_sound (m + d) (fun t ks h => ih m t ks h) h he (by simpa using hx) (by simpa using hy)
    · cases h
theorem arr_sound (d : Nat) {t e : TypeId} {len : Nat} {k : SK} (hu : P.underlying t = some (.array len e)) (hk : scKind P e = some k) (hs : szOf P e = some 1) {V U : Array Value} {xs ys : List AV} {b : Bool}
    (h : eqScL (List.replicate len k) xs ys = some b) (hx : RelL G xs V.toList) (hy : RelL G ys U.toList) : (Op.equalIn (d + 2) t (.agg V) (.agg U)).run P w = .ok b w := by
  obtain ⟨dd, hd, h1, h2⟩ := scKind_desc hk
  have hsc : ∀ {x y : AV} {b : Bool} {x' y' : Value}, eqSc k x y = some b → RelV G x x' → RelV G y y' → (Op.equalIn (d + 1) e x' y').run P w = .ok b w := fun h hx hy => eqSc_sound d h hx hy hk
  rw [show d + 2 = (d + 1) + 1 from rfl]
  generalize d + 1 = m at hsc ⊢
  have hz : (Go.sizeOf e).run P w = .ok 1 w := by
    unfold szOf at hs
    obtain ⟨i, hi, hq⟩ := Option.map_eq_some_iff.1 hs
    simp [Go.sizeOf, typeInfo, hi, hq]
  simp only [Op.equalIn, Sem.run_bind, run_underlying hu, Result.andThen_ok, hz]
  rw [Std.Legacy.Range.forIn_eq_forIn_range']
  simp only [Std.Legacy.Range.size, Nat.sub_zero, Nat.add_sub_cancel, Nat.div_one, Nat.mul_one]
  have hx' : RelL G xs (V.toList.drop 0) := hx
  have hy' : RelL G ys (U.toList.drop 0) := hy
  revert hx' hy'
  clear hx hy hu
  generalize (0 : Nat) = i
  induction len generalizing xs ys i with
  | zero =>
    intro hx hy
    cases xs <;> cases ys <;> simp only [List.replicate, eqScL] at h <;> try (cases h; done)
    cases h
    simp
  | succ n ih =>
    intro hx hy
    simp only [List.replicate_succ] at h
    cases xs with
    | nil => simp [eqScL] at h
    | cons x xs =>
    cases ys with
    | nil => simp [eqScL] at h
    | cons y ys =>
    obtain ⟨v, hv, rv, _⟩ := hx.get (i := 0) (by simp : (x :: xs)[0]? = some x)
    obtain ⟨u, hu, ru, _⟩ := hy.get (i := 0) (by simp : (y :: ys)[0]? = some y)
    have hv' : V[i]? = some v := by simpa using hv
    have hu' : U[i]? = some u := by simpa using hu
    have hxt : RelL G xs (V.toList.drop (i + 1)) := by have := hx.drop 1; simpa [List.drop_drop] using this
    have hyt : RelL G ys (U.toList.drop (i + 1)) := by have := hy.drop 1; simpa [List.drop_drop] using this
    rw [List.range'_succ, List.forIn_cons]
    simp only [eqScL] at h
    split at h
    · rename_i hq
      have e := hsc hq rv ru
      have := ih h (i + 1) hxt hyt
      simp only [Sem.run_bind, run_part_cell hd h1 h2 hv', run_part_cell hd h1 h2 hu', Result.andThen_ok, e, Bool.not_true, Bool.false_eq_true, if_false, Sem.run_pure]
      exact this
    · rename_i hq
      cases h
      have e := hsc hq rv ru
      simp [Sem.run_bind, run_part_cell hd h1 h2 hv', run_part_cell hd h1 h2 hu', Result.andThen_ok, e]
    · cases h
theorem eqFl_sound {q : EqF} {x y : AV} {b : Bool} {x' y' : Value} {t : TypeId} (d : Nat) (h : eqFl q x y = some b) (hx : RelV G x x') (hy : RelV G y y') (ht : flatKind P t = some q) :
    (Op.equalIn (d + 5) t x' y').run P w = .ok b w := by
  unfold flatKind at ht
  split at ht
  · obtain ⟨ks, hks, rfl⟩ := Option.map_eq_some_iff.1 ht
    cases hx <;> (try simp only [eqFl] at h) <;> try (cases h; done)
    rename_i xs V hxs
    cases hy <;> (try simp only [eqFl] at h) <;> try (cases h; done)
    rename_i ys U hys
    exact (flatSub_sound 4 d t ks hks).2 xs ys V U b h hxs hys
  · rename_i n e hu
    split at ht
    · rename_i k hk hs
      cases ht
      cases hx <;> (try simp only [eqFl] at h) <;> try (cases h; done)
      rename_i xs V hxs
      cases hy <;> (try simp only [eqFl] at h) <;> try (cases h; done)
      rename_i ys U hys
      exact arr_sound (d + 3) hu hk hs h hxs hys
    · cases ht
  · obtain ⟨k, hk, rfl⟩ := Option.map_eq_some_iff.1 ht
    exact eqSc_sound (d + 4) h hx hy hk
theorem eqOf_sound {ts : List TypeId} {t : TypeId} {q : EqF} (h : eqOf (eqOksL P ts) t = some q) : flatKind P t = some q ∧ ∃ i, P.info? t = some i ∧ i.comparable = true := by
  induction ts with
  | nil => simp [eqOksL, eqOf] at h
  | cons u us ih =>
    simp only [eqOksL] at h
    split at h
    · rename_i q' i hq hi
      split at h
      · rename_i hc
        simp only [eqOf] at h
        split at h
        · rename_i e
          subst e
          cases h
          exact ⟨hq, i, hi, hc⟩
        · exact ih h
      · exact ih h
    · exact ih h
theorem eqIn_nn (d : Nat) {t e : TypeId} (hu : P.underlying t = some (.pointer e)) : (Op.equalIn (d + 1) t (.pointer none) (.pointer none)).run P w = .ok true w := by simp [Op.equalIn, run_underlying hu]
theorem eqIn_np (d : Nat) {t e : TypeId} (a : Addr) (hu : P.underlying t = some (.pointer e)) : (Op.equalIn (d + 1) t (.pointer none) (.pointer (some a))).run P w = .ok false w := by simp [Op.equalIn, run_underlying hu]
theorem eqIn_pn (d : Nat) {t e : TypeId} (a : Addr) (hu : P.underlying t = some (.pointer e)) : (Op.equalIn (d + 1) t (.pointer (some a)) (.pointer none)).run P w = .ok false w := by simp [Op.equalIn, run_underlying hu]
theorem eqIn_snn (d : Nat) {t e : TypeId} (hu : P.underlying t = some (.slice e)) : (Op.equalIn (d + 1) t (.slice none 0 0) (.slice none 0 0)).run P w = .ok true w := by simp [Op.equalIn, run_underlying hu]
theorem eqIn_sns (d : Nat) {t e : TypeId} (a : Addr) (n c : Nat) (hu : P.underlying t = some (.slice e)) : (Op.equalIn (d + 1) t (.slice none 0 0) (.slice (some a) n c)).run P w = .ok false w := by simp [Op.equalIn, run_underlying hu]
theorem eqIn_ssn (d : Nat) {t e : TypeId} (a : Addr) (n c : Nat) (hu : P.underlying t = some (.slice e)) : (Op.equalIn (d + 1) t (.slice (some a) n c) (.slice none 0 0)).run P w = .ok false w := by simp [Op.equalIn, run_underlying hu]
theorem eqIn_inn (d : Nat) {t : TypeId} {ms : Array (String × TypeId)} (hu : P.underlying t = some (.interface ms)) : (Op.equalIn (d + 1) t .nilIface .nilIface).run P w = .ok true w := by simp [Op.equalIn, run_underlying hu]
theorem eqIn_ini (d : Nat) {t u : TypeId} {v : Value} {ms : Array (String × TypeId)} (hu : P.underlying t = some (.interface ms)) : (Op.equalIn (d + 1) t .nilIface (.iface u v)).run P w = .ok false w := by simp [Op.equalIn, run_underlying hu]
theorem eqIn_iin (d : Nat) {t u : TypeId} {v : Value} {ms : Array (String × TypeId)} (hu : P.underlying t = some (.interface ms)) : (Op.equalIn (d + 1) t (.iface u v) .nilIface).run P w = .ok false w := by simp [Op.equalIn, run_underlying hu]
theorem eqIn_iine (d : Nat) {t u u' : TypeId} {v v' : Value} {ms : Array (String × TypeId)} (hu : P.underlying t = some (.interface ms)) (h : ¬ u = u') : (Op.equalIn (d + 1) t (.iface u v) (.iface u' v')).run P w = .ok false w := by simp [Op.equalIn, run_underlying hu, h]
theorem eqIn_iie (d : Nat) {t u : TypeId} {v v' : Value} {ms : Array (String × TypeId)} {i : TypeInfo} {b : Bool} (hu : P.underlying t = some (.interface ms)) (hi : P.info? u = some i) (hc : i.comparable = true)
    (h : (Op.equalIn d u v v').run P w = .ok b w) : (Op.equalIn (d + 1) t (.iface u v) (.iface u v')).run P w = .ok b w := by simp [Op.equalIn, run_underlying hu, typeInfo, hi, hc, h]
theorem eqGuardIn_inn (d : Nat) {t : TypeId} {ms : Array (String × TypeId)} (hu : P.underlying t = some (.interface ms)) (hm : ms.isEmpty = true) : (Op.eqGuardIn (d + 1) t .nilIface .nilIface).run P w = .ok false w := by simp [Op.eqGuardIn, run_underlying hu, hm]
def EqAt (P : Program) (t : TypeId) : EqK → Prop
  | .flat f => flatKind P t = some f ∧ P.eqGuardType P.depth t = false ∧ (P.underlying t = some .bool ∨ (∃ fs, P.underlying t = some (.struct fs)) ∨ ∃ n e, P.underlying t = some (.array n e))
  | .ptr => ∃ e, P.underlying t = some (.pointer e)
  | .slc => ∃ e, P.underlying t = some (.slice e)
  | .ifc oks => ∃ ms, P.underlying t = some (.interface ms) ∧ ms.size = 0 ∧ oks = eqOks P
theorem eqv_of_equal {op : BinOp} {t : TypeId} {x' y' : Value} {b : Bool} (ox oy : Operand) (hop : op = .eql ∨ op = .neq)
    (hg : (eqGuard op t ox oy x' y').run P w = .ok () w) (he : (Op.equal t x' y').run P w = .ok b w)
    (hb : ∀ op', op' = BinOp.eql ∨ op' = BinOp.neq → binOp op' t x' y' = (match op' with | .eql => (do pure (.bool (← Op.equal t x' y'))) | _ => (do pure (.bool (!(← Op.equal t x' y')))))) :
    (do eqGuard op t ox oy x' y'; binOp op t x' y' : Sem Value).run P w = .ok (.bool (if (isNeq op) then !b else b)) w := by
  simp only [Sem.run_bind, hg, Result.andThen_ok]
  rcases hop with rfl | rfl
  · rw [hb .eql (.inl rfl)]; simp [he, isNeq]
  · rw [hb .neq (.inr rfl)]; simp [he, isNeq]
theorem eqv_sound {op : BinOp} {q : EqK} {x y : AV} {b : Bool} {x' y' : Value} {t : TypeId} (ox oy : Operand) (hop : op = .eql ∨ op = .neq) (h : eqAV q x y = some b)
    (hx : RelV G x x') (hy : RelV G y y') (hq : EqAt P t q) :
    (do eqGuard op t ox oy x' y'; binOp op t x' y' : Sem Value).run P w = .ok (.bool (if (isNeq op) then !b else b)) w := by
  cases q with
  | flat f =>
    obtain ⟨h1, h2, h3⟩ := hq
    simp only [eqAV] at h
    have he := eqFl_sound (P := P) (w := w) 9995 h hx hy h1
    rcases h3 with h3 | ⟨fs, h3⟩ | ⟨n, el, h3⟩
    · have : f = .one .b := by simp [flatKind, h3, scKind] at h1; exact h1.symm
      subst this
      simp only [eqFl] at h
      cases hx <;> cases hy <;> (try simp only [eqSc] at h) <;> try (cases h; done)
      exact eqv_of_equal ox oy hop (by rcases hop with rfl | rfl <;> simp [eqGuard]) he (by rintro op' (rfl | rfl) <;> rfl)
    · unfold flatKind at h1
      rw [h3] at h1
      simp only at h1
      obtain ⟨ks, hks, rfl⟩ := Option.map_eq_some_iff.1 h1
      cases hx <;> (try simp only [eqFl] at h) <;> try (cases h; done)
      cases hy <;> (try simp only [eqFl] at h) <;> try (cases h; done)
      exact eqv_of_equal ox oy hop (run_eqGuard_agg w op t ox oy _ _ h2) he (by rintro op' (rfl | rfl) <;> rfl)
    · unfold flatKind at h1
      rw [h3] at h1
      simp only at h1
      split at h1
      · cases h1
        cases hx <;> (try simp only [eqFl] at h) <;> try (cases h; done)
        cases hy <;> (try simp only [eqFl] at h) <;> try (cases h; done)
        exact eqv_of_equal ox oy hop (run_eqGuard_agg w op t ox oy _ _ h2) he (by rintro op' (rfl | rfl) <;> rfl)
      · cases h1
  | ptr =>
    obtain ⟨e, hu⟩ := hq
    cases hx <;> cases hy <;> (try simp only [eqAV] at h) <;> try (cases h; done)
    all_goals
      cases h
      exact eqv_of_equal ox oy hop (by rcases hop with rfl | rfl <;> simp [eqGuard]) (by first | exact eqIn_nn 9999 hu | exact eqIn_np 9999 _ hu | exact eqIn_pn 9999 _ hu) (by rintro op' (rfl | rfl) <;> rfl)
  | slc =>
    obtain ⟨e, hu⟩ := hq
    cases hx <;> cases hy <;> (try simp only [eqAV] at h) <;> try (cases h; done)
    all_goals
      cases h
      exact eqv_of_equal ox oy hop (by rcases hop with rfl | rfl <;> simp [eqGuard]) (by first | exact eqIn_snn 9999 hu | exact eqIn_sns 9999 _ _ _ hu | exact eqIn_ssn 9999 _ _ _ hu) (by rintro op' (rfl | rfl) <;> rfl)
  | ifc oks =>
    obtain ⟨ms, hu, hm, rfl⟩ := hq
    have hme : ms.isEmpty = true := by simp [Array.isEmpty, hm]
    cases hx <;> cases hy <;> (try simp only [eqAV] at h) <;> try (cases h; done)
    · cases h
      refine eqv_of_equal ox oy hop ?_ (eqIn_inn 9999 hu) (by rintro op' (rfl | rfl) <;> rfl)
      have hgi : (Op.eqGuardIn Op.maxDepth t .nilIface .nilIface).run P w = .ok false w := eqGuardIn_inn 9999 hu hme
      rcases hop with rfl | rfl <;> (simp only [eqGuard]; split <;> first | (split <;> simp [hgi]; done) | simp [hgi])
    · cases h
      exact eqv_of_equal ox oy hop (by rcases hop with rfl | rfl <;> simp [eqGuard]) (eqIn_ini 9999 hu) (by rintro op' (rfl | rfl) <;> rfl)
    · cases h
      exact eqv_of_equal ox oy hop (by rcases hop with rfl | rfl <;> simp [eqGuard]) (eqIn_iin 9999 hu) (by rintro op' (rfl | rfl) <;> rfl)
    · rename_i t1 a1 v1 r1 t2 a2 v2 r2
      split at h
      · rename_i e
        subst e
        split at h
        · rename_i q hq
          obtain ⟨hf, i, hi, hc⟩ := eqOf_sound hq
          have he := eqFl_sound (P := P) (w := w) 9994 h r1 r2 hf
          exact eqv_of_equal ox oy hop (by rcases hop with rfl | rfl <;> simp [eqGuard]) (eqIn_iie 9999 hu hi hc he) (by rintro op' (rfl | rfl) <;> rfl)
        · cases h
      · rename_i e
        cases h
        exact eqv_of_equal ox oy hop (by rcases hop with rfl | rfl <;> simp [eqGuard]) (eqIn_iine 9999 hu e) (by rintro op' (rfl | rfl) <;> rfl)
end
end Go.Ab
/- The evaluator's operations on values answer as the machine's do, continued: parts, fields, literals, least and greatest. No conditions. -/
set_option linter.unusedSimpArgs false
set_option linter.unusedVariables false
namespace Go.Ab
open Go
section
variable {P : Program} {G : Gh} {w : World}
/-! ### Zero values and constants -/
theorem toAV_rel {v : Value} {x : AV} (h : toAV v = some x) : RelV G x v ∧ v.oneCell' = true := by
  unfold toAV at h
  split at h <;> cases h
  · exact ⟨.bool _, rfl⟩
  · exact ⟨.int _ _, rfl⟩
  · exact ⟨.str _, rfl⟩
  · exact ⟨.nilp, rfl⟩
  · exact ⟨.nils, rfl⟩
  · exact ⟨.nili, rfl⟩
theorem toAVs_rel {vs : List Value} {xs : List AV} (h : toAVs vs = some xs) : RelL G xs vs := by
  induction vs generalizing xs with
  | nil => simp only [toAVs] at h; cases h; exact .nil
  | cons v vs ih =>
    simp only [toAVs] at h
    split at h
    · rename_i x xs' h1 h2
      cases h
      obtain ⟨r, o⟩ := toAV_rel (G := G) h1
      exact .cons _ _ _ _ r o (ih h2)
    · cases h
theorem toAVa_rel {v : Value} {x : AV} (h : toAVa v = some x) : RelV G x v := by
  unfold toAVa at h
  split at h
  · rename_i cs
    obtain ⟨xs, h1, rfl⟩ := Option.map_eq_some_iff.1 h
    exact .agg _ _ (toAVs_rel h1)
  · exact (toAV_rel h).1
theorem toAVa_cells {v : Value} {x : AV} (h : toAVa v = some x) : RelL G (zcells x) v.cells.toList := by
  unfold toAVa at h
  split at h
  · rename_i cs
    obtain ⟨xs, h1, rfl⟩ := Option.map_eq_some_iff.1 h
    exact toAVs_rel h1
  · rename_i hn
    obtain ⟨r, o⟩ := toAV_rel (G := G) h
    have e1 : v.cells.toList = [v] := by cases v <;> first | rfl | exact absurd rfl (hn _)
    have e2 : zcells x = [x] := by
      unfold toAV at h
      split at h <;> cases h <;> rfl
    rw [e1, e2]
    exact .one r o
theorem cellsOf_rel {x : AV} {v : Value} {cs : List AV} (h : cellsOf x = some cs) (r : RelV G x v) : RelL G cs v.cells.toList := by
  cases r <;> (try simp only [cellsOf] at h) <;> try (cases h; done)
  case agg hl => cases h; exact hl
  all_goals
    cases h
    refine .one ?_ rfl
    first
      | exact .bool _ | exact .int _ _ | exact .str _ | exact .nilp | exact .ptr _ _ _ ‹_› | exact .rp _ _ _ _ ‹_› ‹_› | exact .nils | exact .sl _ _ _ _ _ _ _ ‹_› ‹_› ‹_› ‹_› ‹_› | exact .sl0 _ | exact .clo _ _ _ ‹_› | exact .hs _ _ _ _ _ _ _ ‹_› ‹_› ‹_› ‹_› ‹_› | exact .nili | exact .iface _ _ _ ‹_›
/-! ### Parts -/
theorem isAg_run {t : TypeId} {b : Bool} (h : isAg P t = some b) : (isAgg t).run P w = .ok b w := by
  unfold isAg at h
  split at h
  · rename_i hu; cases h; simp [isAgg, run_underlying hu]
  · rename_i hu; cases h; simp [isAgg, run_underlying hu]
  · rename_i d h1 h2 hu
    cases h
    exact run_isAgg_of hu (fun fs e => h1 fs e) (fun n e q => h2 n e q)
  · cases h
theorem szOf_run {t : TypeId} {n : Nat} (h : szOf P t = some n) : (Go.sizeOf t).run P w = .ok n w := by
  unfold szOf at h
  obtain ⟨i, hi, rfl⟩ := Option.map_eq_some_iff.1 h
  simp [Go.sizeOf, typeInfo, hi]
theorem cellsN_cases {t : TypeId} {n : Option Nat} (h : cellsN P t = some n) : (∃ k, n = some k ∧ isAg P t = some true ∧ szOf P t = some k) ∨ (n = none ∧ isAg P t = some false ∧ szOf P t = some 1) := by
  unfold cellsN at h
  split at h
  · rename_i k h1 h2; cases h; exact .inl ⟨k, rfl, h1, h2⟩
  · rename_i h1 h2; cases h; exact .inr ⟨rfl, h1, h2⟩
  · cases h
theorem part_sound {t : TypeId} {n : Option Nat} {cs : List AV} {V : Array Value} {off : Nat} {v : AV} (hn : cellsN P t = some n) (hc : cut cs off n = some v) (hl : RelL G cs V.toList) :
    ∃ v', (part t V off).run P w = .ok v' w ∧ RelV G v v' := by
  rcases cellsN_cases hn with ⟨k, rfl, h1, h2⟩ | ⟨rfl, h1, h2⟩
  · simp only [cut] at hc
    split at hc
    · cases hc
      refine ⟨.agg (V.extract off (off + k)), by simp [part, isAg_run h1, szOf_run h2], .agg _ _ ?_⟩
      have : (V.extract off (off + k)).toList = (V.toList.drop off).take k := by simp [List.drop_take]
      rw [this]; exact (hl.drop _).take _
    · cases hc
  · simp only [cut] at hc
    obtain ⟨u, hu, r, _⟩ := hl.get hc
    have hu' : V[off]? = some u := by simpa using hu
    exact ⟨u, by simp [part, isAg_run h1, hu'], r⟩
theorem loadVar_sound {t : TypeId} {n : Option Nat} {cs : List AV} {vs : List Value} {g o0 o : Nat} {v : AV} (hn : cellsN P t = some n) (hc : cut cs o n = some v) (hl : RelL G cs vs)
    (hr : ∀ j u, vs[j]? = some u → w.cell? ⟨g, o0 + j, none⟩ = some u) :
    ∃ v', (loadVar t ⟨g, o0 + o, none⟩).run P w = .ok v' w ∧ RelV G v v' := by
  rcases cellsN_cases hn with ⟨k, rfl, h1, h2⟩ | ⟨rfl, h1, h2⟩
  · simp only [cut] at hc
    split at hc
    · rename_i hk
      cases hc
      have hlen : ((vs.drop o).take k).length = k := by rw [List.length_take, List.length_drop, ← hl.length]; omega
      have hld := run_loadCells_list (P := P) w ⟨g, o0 + o, none⟩ ((vs.drop o).take k) (fun j u hu => by
        rw [addr_add]
        rw [List.getElem?_take] at hu
        split at hu
        · rw [List.getElem?_drop] at hu
          have := hr _ _ hu
          rw [show o0 + o + j = o0 + (o + j) by omega]; exact this
        · cases hu)
      rw [hlen] at hld
      refine ⟨.agg ((vs.drop o).take k).toArray, by simp [loadVar, isAg_run h1, szOf_run h2, hld], .agg _ _ ?_⟩
      simpa using (hl.drop o).take k
    · cases hc
  · simp only [cut] at hc
    obtain ⟨u, hu, r, _⟩ := hl.get hc
    refine ⟨u, ?_, r⟩
    simp [loadVar, isAg_run h1, run_load, hr _ _ hu]
/-! ### Literals -/
def fillV (cells : List Value) (off : Nat) : List Value → List Value
  | [] => cells
  | v :: vs => fillV (cells.set off v) (off + 1) vs
theorem fillL_rel {as : List AV} {us : List Value} {xs : List AV} {vs : List Value} (off : Nat) (h : RelL G as us) (k : RelL G xs vs) : RelL G (fillL as off xs) (fillV us off vs) := by
  induction xs generalizing as us vs off with
  | nil => cases k; exact h
  | cons x xs ih => cases k with | cons _ v _ vs r o t => exact ih _ (h.set off r o) t
theorem fillL_length (as : List AV) (off : Nat) (xs : List AV) : (fillL as off xs).length = as.length := by
  induction xs generalizing as off with
  | nil => rfl
  | cons x xs ih => simp only [fillL]; rw [ih, List.length_set]
theorem fillV_length (as : List Value) (off : Nat) (xs : List Value) : (fillV as off xs).length = as.length := by
  induction xs generalizing as off with
  | nil => rfl
  | cons x xs ih => simp only [fillV]; rw [ih, List.length_set]
theorem fold_fill (l : List Value) : ∀ (k off : Nat) (cells : Array Value), ((l.zipIdx k).foldl (fun cs (x : Value × Nat) => cs.setIfInBounds (off + x.2) x.1) cells).toList = fillV cells.toList (off + k) l := by
  induction l with
  | nil => intro k off cells; rfl
  | cons v vs ih =>
    intro k off cells
    simp only [List.zipIdx_cons, List.foldl_cons, ih, fillV, Array.toList_setIfInBounds]
    rw [Nat.add_assoc]
structure RelE (G : Gh) (gl : Nat → AV) (e : Env) (a : Act) : Prop where
  at_ : ∀ i, RelV G (e.at i) (a.tmps.getD i undef)
  size : e.length = a.tmps.size
  glob : ∀ g, RelV G (gl g) (.pointer (some ⟨g, 0, none⟩))
theorem RelE.mono0 {gl : Nat → AV} {e : Env} {a : Act} {G' : Gh} (h : RelE G gl e a) (hG : G.le0 G') : RelE G' gl e a := ⟨fun i => (h.at_ i).mono0 hG, h.size, fun g => (h.glob g).mono0 hG⟩
theorem RelE.mono {gl : Nat → AV} {e : Env} {a : Act} {G' : Gh} (h : RelE G gl e a) (hG : G.le G') : RelE G' gl e a := ⟨fun i => (h.at_ i).mono hG, h.size, fun g => (h.glob g).mono hG⟩
theorem RelE.opd {gl : Nat → AV} {e : Env} {a : Act} (h : RelE G gl e a) {o : Operand} {m : Opd} (hc : cOpd o = some m) : RelV G (opd gl e m) (a.eval o) := by
  cases o <;> simp only [cOpd] at hc
  · cases hc; exact h.at_ _
  · obtain ⟨x, hx, rfl⟩ := Option.map_eq_some_iff.1 hc
    exact toAVa_rel hx
  · cases hc; exact h.glob _
  · cases hc
theorem RelE.put {gl : Nat → AV} {e : Env} {a : Act} (h : RelE G gl e a) (d : Option Nat) {v : AV} {v' : Value} (hv : RelV G v v') : RelE G gl (e.put d v) (a.put d v') := by
  cases d with
  | none => exact h
  | some d =>
    refine ⟨fun i => ?_, by simp [Env.put, Act.put, h.size], h.glob⟩
    have hi := h.at_ i
    simp only [Env.at, Env.put, Act.put, List.getD_eq_getElem?_getD, Array.getD_eq_getD_getElem?] at hi ⊢
    rw [List.getElem?_set, Array.getElem?_setIfInBounds]
    by_cases e' : d = i
    · subst e'
      by_cases hd : d < a.tmps.size
      · have hd' : d < List.length e := by rw [h.size]; exact hd
        simp [hd, hd', hv]
      · have hd' : ¬ d < List.length e := by rw [h.size]; exact hd
        simp [hd, hd']
        exact .undef _
    · simp [e', hi]
theorem RelE.mask {gl : Nat → AV} {e : Env} {a : Act} (h : RelE G gl e a) (l : List Bool) : RelE G gl (maskE l e) a := by
  have hlen : ∀ (l : List Bool) (e : Env), (maskE l e).length = List.length e := by
    intro l
    induction l with
    | nil => intro e; cases e <;> rfl
    | cons b bs ih => intro e; cases e with
      | nil => rfl
      | cons v vs => simp [maskE, ih]
  have hat : ∀ (l : List Bool) (e : Env) (i : Nat), Env.at (maskE l e) i = e.at i ∨ Env.at (maskE l e) i = .undef := by
    intro l
    induction l with
    | nil => intro e i; cases e <;> exact .inl rfl
    | cons b bs ih => intro e i; cases e with
      | nil => exact .inl rfl
      | cons v vs =>
        cases i with
        | zero => cases b <;> simp [maskE, Env.at]
        | succ i => simpa [maskE, Env.at] using ih vs i
  refine ⟨fun i => ?_, by rw [hlen, h.size], h.glob⟩
  rcases hat l e i with q | q <;> rw [q]
  · exact h.at_ i
  · exact .undef _
theorem fill_sound {gl : Nat → AV} {e : Env} {a : Act} (hE : RelE G gl e a) (place : Nat → Option (Nat × Nat)) : ∀ (parts : List (Nat × Operand)) (ps : List (Nat × Nat × Opd)) (cells cells' : List AV) (V : Array Value),
    cParts place parts = some ps → fill gl e cells ps = some cells' → RelL G cells V.toList →
    ∃ V' : Array Value, Instr.fill place V (parts.map fun x => (x.1, a.eval x.2)) = some V' ∧ RelL G cells' V'.toList ∧ V'.size = V.size
  | [], ps, cells, cells', V, hp, hf, hl => by
    simp only [cParts] at hp
    cases hp
    simp only [fill] at hf
    cases hf
    exact ⟨V, rfl, hl, rfl⟩
  | (i, x) :: parts, ps, cells, cells', V, hp, hf, hl => by
    simp only [cParts] at hp
    split at hp
    · rename_i off size y l h1 h2 h3
      cases hp
      simp only [fill] at hf
      split at hf
      · rename_i vs hvs
        split at hf
        · rename_i hsz
          split at hf
          · rename_i cells1 hst
            have hr := cellsOf_rel hvs (hE.opd h2)
            unfold storeL at hst
            split at hst
            · rename_i hfit
              cases hst
              have hvl : (a.eval x).cells.size = size := by have := hr.length; simp at this; omega
              have hcl : cells.length = V.size := by have := hl.length; simpa using this
              have hstep : ((a.eval x).cells.zipIdx.foldl (fun cs (x : Value × Nat) => cs.setIfInBounds (off + x.2) x.1) V).toList = fillV V.toList off (a.eval x).cells.toList := by
                rw [← Array.foldl_toList, Array.toList_zipIdx, fold_fill]; rfl
              obtain ⟨V', e1, e2, e3⟩ := fill_sound hE place parts l _ cells' ((a.eval x).cells.zipIdx.foldl (fun cs (x : Value × Nat) => cs.setIfInBounds (off + x.2) x.1) V) h3 hf (by rw [hstep]; exact fillL_rel off hl hr)
              have hss : ((a.eval x).cells.zipIdx.foldl (fun cs (x : Value × Nat) => cs.setIfInBounds (off + x.2) x.1) V).size = V.size := by
                rw [← Array.length_toList, hstep, fillV_length, Array.length_toList]
              refine ⟨V', ?_, e2, e3.trans hss⟩
              rw [← e1]
              simp only [List.map_cons, Instr.fill, h1]
              have hn1 : ¬ ((a.eval x).cells.size ≠ size) := by omega
              have hn2 : ¬ (off + (a.eval x).cells.size > V.size) := by omega
              simp [hn1, hn2]
            · cases hst
          · cases hf
        · cases hf
      · cases hf
    · cases hp
theorem rep_get {α : Type} (l : List α) : ∀ (len i : Nat), i < len * l.length → ((List.replicate len l).flatten)[i]? = l[i % l.length]?
  | 0, i, h => by simp at h
  | len + 1, i, h => by
    rw [List.replicate_succ, List.flatten_cons]
    by_cases hi : i < l.length
    · rw [List.getElem?_append_left hi, Nat.mod_eq_of_lt hi]
    · have hi' : l.length ≤ i := by omega
      rw [List.getElem?_append_right hi', rep_get l len (i - l.length) (by rw [Nat.add_mul] at h; omega)]
      congr 1
      exact (Nat.mod_eq_sub_mod hi').symm
theorem rep_cells (z : Array Value) (len : Nat) (hz : 0 < z.size) : ((Array.range (len * z.size)).map (z[· % z.size]!)).toList = (List.replicate len z.toList).flatten := by
  apply List.ext_getElem?
  intro i
  by_cases hi : i < len * z.size
  · have h1 := rep_get z.toList len i (by simpa using hi)
    rw [h1]
    have hm : i % z.size < z.size := Nat.mod_lt _ hz
    simp [hi, hm]
  · have h2 : ((List.replicate len z.toList).flatten).length = len * z.size := by simp [List.length_flatten]
    rw [List.getElem?_eq_none (by simp; omega), List.getElem?_eq_none (by rw [h2]; omega)]
theorem rep_rel {zs : List AV} {vs : List Value} (h : RelL G zs vs) : ∀ len, RelL G (List.replicate len zs).flatten (List.replicate len vs).flatten
  | 0 => .nil
  | len + 1 => by rw [List.replicate_succ, List.replicate_succ, List.flatten_cons, List.flatten_cons]; exact h.append (rep_rel h len)
/-! ### Least and greatest -/
theorem mnV_sound {x y v : AV} {x' y' : Value} (h : mnV x y = some v) (hx : RelV G x x') (hy : RelV G y y') : ∃ v', (Builtin.min2 x' y').run P w = .ok v' w ∧ RelV G v v' := by
  cases hx <;> (try simp only [mnV] at h) <;> try (cases h; done)
  cases hy <;> (try simp only [mnV] at h) <;> try (cases h; done)
  split at h
  · cases h; exact ⟨_, rfl, .int _ _⟩
  · cases h
theorem mxV_sound {x y v : AV} {x' y' : Value} (h : mxV x y = some v) (hx : RelV G x x') (hy : RelV G y y') : ∃ v', (Builtin.max2 x' y').run P w = .ok v' w ∧ RelV G v v' := by
  cases hx <;> (try simp only [mxV] at h) <;> try (cases h; done)
  cases hy <;> (try simp only [mxV] at h) <;> try (cases h; done)
  split at h
  · cases h; exact ⟨_, rfl, .int _ _⟩
  · cases h
theorem RelE.opds {gl : Nat → AV} {e : Env} {a : Act} (h : RelE G gl e a) {l : List Operand} {ms : List Opd} (hc : cOpds l = some ms) : RelT G (ms.map (Ab.opd gl e)) (l.map a.eval) := by
  induction l generalizing ms with
  | nil => simp only [cOpds] at hc; cases hc; exact .nil
  | cons x xs ih =>
    simp only [cOpds] at hc
    split at hc
    · rename_i m ms' h1 h2
      cases hc
      exact .cons _ _ _ _ (h.opd h1) (ih h2)
    · cases hc
theorem foldV_sound {f : AV → AV → Option AV} {f' : Value → Value → Sem Value} (hf : ∀ x y v x' y', f x y = some v → RelV G x x' → RelV G y y' → ∃ v', (f' x' y').run P w = .ok v' w ∧ RelV G v v') :
    ∀ {ys : List AV} {us : List Value} {x : AV} {x' : Value} {v : AV}, foldV f x ys = some v → RelV G x x' → RelT G ys us → ∃ v', (us.foldlM f' x').run P w = .ok v' w ∧ RelV G v v' := by
  intro ys
  induction ys with
  | nil =>
    intro us x x' v h hx hr
    cases hr
    simp only [foldV] at h
    cases h
    exact ⟨x', by simp, hx⟩
  | cons y ys ih =>
    intro us x x' v h hx hr
    cases hr with
    | cons _ u _ us r t =>
      simp only [foldV] at h
      split at h
      · rename_i z hz
        obtain ⟨z', h1, h2⟩ := hf _ _ _ _ _ hz hx r
        obtain ⟨v', h3, h4⟩ := ih h h2 t
        exact ⟨v', by simp [List.foldlM_cons, h1, h3], h4⟩
      · cases h
end
end Go.Ab
/- One operation that hangs on its operands alone answers as the machine's. No conditions. -/
set_option linter.unusedSimpArgs false
set_option linter.unusedVariables false
namespace Go.Ab
open Go
section
variable {P : Program} {G : Gh} {w : World} {gl : Nat → AV} {e : Env} {a : Act}
theorem exec_v {X : Sem Value} {v' : Value} {w' : World} (h : X.run P w = .ok v' w') : (do pure (Next.value (← X)) : Sem Next).run P w = .ok (.value v') w' := by simp [h]
theorem cOpd_map {x : Operand} {f : Opd → MOp} {m : MOp} (h : (cOpd x).map f = some m) : ∃ y, cOpd x = some y ∧ m = f y := by
  obtain ⟨y, h1, h2⟩ := Option.map_eq_some_iff.1 h; exact ⟨y, h1, h2.symm⟩
theorem cOpdO_rel (hE : RelE G gl e a) {x : Option Operand} {m : Option Opd} (h : cOpdO x = some m) : RelO G (m.map (opd gl e)) (x.map a.eval) := by
  cases x with
  | none => simp only [cOpdO] at h; cases h; exact .none
  | some x =>
    simp only [cOpdO] at h
    obtain ⟨y, h1, rfl⟩ := Option.map_eq_some_iff.1 h
    exact .some _ _ (hE.opd h1)
theorem bin_run {op : BinOp} {t : TypeId} {ox oy : Operand} {x y v : AV} {x' y' : Value} (h : binV op x y = some v) (hx : RelV G x x') (hy : RelV G y y') :
    ∃ v', (do eqGuard op t ox oy x' y'; binOp op t x' y' : Sem Value).run P w = .ok v' w ∧ RelV G v v' := by
  obtain ⟨v', h1, h2⟩ := binV_sound (P := P) (w := w) t h hx hy
  refine ⟨v', ?_, h2⟩
  have hg : (eqGuard op t ox oy x' y').run P w = .ok () w := by
    cases hx <;> cases hy <;> (try simp only [binV] at h) <;> first
      | (cases h; done)
      | (cases op <;> simp [eqGuard])
  simp [hg, h1]
theorem fieldAt_run {t : TypeId} {fs : Array Field} {f : Nat} {fd : Field} {n : Nat} (hu : P.underlying t = some (.struct fs)) (hf : fs[f]? = some fd) (hs : szOf P fd.type = some (n + 1)) (g o : Nat) :
    (Instr.fieldAt t (.pointer (some ⟨g, o, none⟩)) f).run P w = .ok (.pointer (some ⟨g, o + fd.offset, none⟩)) w := by
  simp [Instr.fieldAt, run_underlying hu, hf, Instr.sureAddr, fieldPlace, szOf_run hs, addr_add]
theorem indexAt_slice {t el : TypeId} {n : Nat} {k : IntKind} {z : Int} {g o len cap : Nat} (hu : P.underlying t = some (.slice el)) (hs : szOf P el = some n) (h0 : 0 ≤ z) (h1 : z < len) :
    (Instr.indexAt t (.slice (some ⟨g, o, none⟩) len cap) (.int k z)).run P w = .ok (.pointer (some ⟨g, o + z.toNat * n, none⟩)) w := by
  simp [Instr.indexAt, asIntOf, run_underlying hu, h0, h1, szOf_run hs, addr_add]
theorem indexAt_array {t el : TypeId} {n : Nat} {k : IntKind} {z : Int} {g o len : Nat} (hu : P.underlying t = some (.array len el)) (hs : szOf P el = some n) (h0 : 0 ≤ z) (h1 : z < len) :
    (Instr.indexAt t (.pointer (some ⟨g, o, none⟩)) (.int k z)).run P w = .ok (.pointer (some ⟨g, o + z.toNat * n, none⟩)) w := by
  simp [Instr.indexAt, Instr.sureAddr, asIntOf, run_underlying hu, h0, h1, szOf_run hs, addr_add]
theorem opP_sound {ht : List TypeId} {o : Oper} {m : MOp} {v : AV} (hc : cOp P (eqOks P) ht o = some m) (hE : RelE G gl e a) (hI : ImmW G w) (h : evP gl e m = some v) :
    ∃ v', (execOp a.eval o).run P w = .ok (.value v') w ∧ RelV G v v' := by
  unfold cOp at hc
  split at hc
  case h_1 x heq =>
    obtain ⟨y, h1, rfl⟩ := cOpd_map hc
    simp only [evP] at h; cases h
    exact ⟨_, by simp only [execOp, heq]; rfl, hE.opd h1⟩
  case h_2 x heq =>
    obtain ⟨y, h1, rfl⟩ := cOpd_map hc
    simp only [evP] at h; cases h
    exact ⟨_, by simp only [execOp, heq]; rfl, hE.opd h1⟩
  case h_3 c x y heq =>
    split at hc <;> cases hc
    rename_i c' x' y' h1 h2 h3
    simp only [evP] at h
    have hcr := hE.opd h1
    generalize hv : a.eval c = cv at hcr
    generalize opd gl e c' = cx at h hcr
    cases hcr <;> (try simp only at h) <;> try (cases h; done)
    rename_i b
    cases b <;> (simp only at h; cases h)
    · exact ⟨_, by simp only [execOp, heq, hv]; rfl, hE.opd h3⟩
    · exact ⟨_, by simp only [execOp, heq, hv]; rfl, hE.opd h2⟩
  case h_4 t heq =>
    obtain ⟨z, _, rfl⟩ := Option.map_eq_some_iff.1 hc
    simp [evP] at h
  case h_5 t x heq =>
    split at hc
    · obtain ⟨y, _, rfl⟩ := cOpd_map hc
      simp [evP] at h
    · cases hc
  case h_6 t parts heq =>
    have eparts : (parts.map fun (x : Nat × Operand) => (x.1, a.eval x.2)).toList = parts.toList.map fun x => (x.1, a.eval x.2) := by simp
    split at hc
    · rename_i fs zs hu hz
      split at hc
      · rename_i places hpl
        split at hc
        · rename_i ps hps
          cases hc
          simp only [evP] at h
          obtain ⟨cells', hf, rfl⟩ := Option.map_eq_some_iff.1 h
          unfold zeroCells' zeroOf at hz
          obtain ⟨zv, hz1, rfl⟩ := Option.map_eq_some_iff.1 hz
          split at hz1
          · rename_i z hzz
            obtain ⟨it, hit, hz2⟩ := Option.bind_eq_some_iff.1 hzz
            obtain ⟨V', e1, e2, _⟩ := fill_sound hE _ parts.toList ps _ cells' z.cells hps hf (toAVa_cells hz1)
            refine ⟨.agg V', ?_, .agg _ _ e2⟩
            simp only [execOp, heq]
            refine exec_v (run_build w t _ V' ?_)
            rw [eparts]
            unfold Program.built
            simp only [hit, hu, hz2, hpl]
            exact e1
          · cases hz1
        · cases hc
      · cases hc
    · rename_i len el zs hu hz
      split at hc
      · rename_i size hsz
        split at hc
        · rename_i ps hps
          cases hc
          simp only [evP] at h
          obtain ⟨cells', hf, rfl⟩ := Option.map_eq_some_iff.1 h
          unfold zeroCells' zeroOf at hz
          obtain ⟨zv, hz1, rfl⟩ := Option.map_eq_some_iff.1 hz
          unfold szOf at hsz
          obtain ⟨ie, hie, rfl⟩ := Option.map_eq_some_iff.1 hsz
          split at hz1
          · rename_i z hzz
            obtain ⟨it, hit, hz2⟩ := Option.bind_eq_some_iff.1 hzz
            obtain ⟨V', e1, e2, _⟩ := fill_sound hE _ parts.toList ps _ cells' z.cells hps hf (toAVa_cells hz1)
            refine ⟨.agg V', ?_, .agg _ _ e2⟩
            simp only [execOp, heq]
            refine exec_v (run_build w t _ V' ?_)
            rw [eparts]
            unfold Program.built
            simp only [hit, hu, hz2, hie]
            exact e1
          · cases hz1
        · cases hc
      · cases hc
    · cases hc
  case h_7 t len parts heq =>
    split at hc
    · split at hc
      · split at hc
        · split at hc
          · split at hc
            · cases hc; simp [evP] at h
            · cases hc; simp [evP] at h
          · cases hc
        · cases hc
      · cases hc
    · cases hc
  case h_8 t x heq =>
    split at hc
    · rename_i n y hn h1
      cases hc
      simp only [evP] at h
      have hr := hE.opd h1
      generalize hv : a.eval x = xv at hr
      generalize opd gl e y = yv at h hr
      cases hr <;> (try simp only at h) <;> try (cases h; done)
      rename_i cs g o1 vs hl hi
      obtain ⟨v', e1, e2⟩ := loadVar_sound (P := P) (w := w) (o0 := o1) hn h hl (fun j u hu => (hI _ _ _ (hi j u hu)).1)
      exact ⟨v', by simp only [execOp, heq, hv]; exact exec_v (by simpa [Instr.loadAt, Instr.sureAddr] using e1), e2⟩
    · cases hc
  case h_9 t x y heq =>
    split at hc
    · cases hc; simp [evP] at h
    · cases hc
  case h_10 x heq =>
    obtain ⟨y, h1, rfl⟩ := cOpd_map hc
    simp only [evP] at h
    have hr := hE.opd h1
    generalize hv : a.eval x = xv at hr
    generalize opd gl e y = yv at h hr
    cases hr <;> (try simp only at h) <;> try (cases h; done)
    · cases h
      exact ⟨_, by simp only [execOp, heq, hv]; rfl, .ptr _ _ _ ‹_›⟩
    · cases h
      exact ⟨_, by simp only [execOp, heq, hv]; rfl, .rp _ _ _ _ ‹_› ‹_›⟩
    · cases h
      exact ⟨_, by simp only [execOp, heq, hv]; rfl, .clo _ _ _ ‹_›⟩
  case h_11 op t x y yt heq =>
    split at hc
    · rename_i x' y' h1 h2
      have hx := hE.opd h1
      have hy := hE.opd h2
      have fin : ∀ (q : EqK), (op = .eql ∨ op = .neq) → EqAt P t q → m = .eqv (isNeq op) q x' y' → ∃ v', (execOp a.eval o).run P w = .ok (.value v') w ∧ RelV G v v' := by
        intro q hop hq hm
        subst hm
        simp only [evP] at h
        split at h
        · rename_i b hb
          cases h
          refine ⟨_, by simp only [execOp, heq]; exact exec_v (eqv_sound x y hop hb hx hy hq), ?_⟩
          exact .bool _
        · cases h
      have binf : m = .bin op x' y' → ∃ v', (execOp a.eval o).run P w = .ok (.value v') w ∧ RelV G v v' := by
        intro hm
        subst hm
        simp only [evP] at h
        obtain ⟨v', q1, q2⟩ := bin_run (P := P) (w := w) (t := t) (ox := x) (oy := y) h hx hy
        exact ⟨v', by simp only [execOp, heq]; exact exec_v q1, q2⟩
      split at hc
      · cases hc; exact binf rfl
      · cases hc; exact binf rfl
      · cases hc; exact binf rfl
      · cases hc; exact binf rfl
      · rename_i ms hu
        split at hc
        · rename_i hm; cases hc; exact fin (.ifc (eqOks P)) (.inl rfl) ⟨ms, hu, hm, rfl⟩ rfl
        · cases hc
      · rename_i ms hu
        split at hc
        · rename_i hm; cases hc; exact fin (.ifc (eqOks P)) (.inr rfl) ⟨ms, hu, hm, rfl⟩ rfl
        · cases hc
      · rename_i el hu; cases hc; exact fin .ptr (.inl rfl) ⟨el, hu⟩ rfl
      · rename_i el hu; cases hc; exact fin .ptr (.inr rfl) ⟨el, hu⟩ rfl
      · rename_i el hu; cases hc; exact fin .slc (.inl rfl) ⟨el, hu⟩ rfl
      · rename_i el hu; cases hc; exact fin .slc (.inr rfl) ⟨el, hu⟩ rfl
      · rename_i fs hu
        split at hc
        · rename_i q hq
          split at hc
          · cases hc
          · rename_i hg; cases hc; exact fin (.flat q) (.inl rfl) ⟨hq, by simpa using hg, .inr (.inl ⟨fs, hu⟩)⟩ rfl
        · cases hc
      · rename_i fs hu
        split at hc
        · rename_i q hq
          split at hc
          · cases hc
          · rename_i hg; cases hc; exact fin (.flat q) (.inr rfl) ⟨hq, by simpa using hg, .inr (.inl ⟨fs, hu⟩)⟩ rfl
        · cases hc
      · rename_i hu
        split at hc
        · rename_i q hq
          split at hc
          · cases hc
          · rename_i hg; cases hc; exact fin (.flat q) (.inl rfl) ⟨hq, by simpa using hg, .inl hu⟩ rfl
        · cases hc
      · rename_i hu
        split at hc
        · rename_i q hq
          split at hc
          · cases hc
          · rename_i hg; cases hc; exact fin (.flat q) (.inr rfl) ⟨hq, by simpa using hg, .inl hu⟩ rfl
        · cases hc
      · rename_i n el hu
        split at hc
        · rename_i q hq
          split at hc
          · cases hc
          · rename_i hg; cases hc; exact fin (.flat q) (.inl rfl) ⟨hq, by simpa using hg, .inr (.inr ⟨n, el, hu⟩)⟩ rfl
        · cases hc
      · rename_i n el hu
        split at hc
        · rename_i q hq
          split at hc
          · cases hc
          · rename_i hg; cases hc; exact fin (.flat q) (.inr rfl) ⟨hq, by simpa using hg, .inr (.inr ⟨n, el, hu⟩)⟩ rfl
        · cases hc
      · cases hc
      · cases hc
      · cases hc; exact binf rfl
    · cases hc
  case h_12 op t x heq =>
    obtain ⟨y, h1, rfl⟩ := cOpd_map hc
    simp only [evP] at h
    obtain ⟨v', q1, q2⟩ := unV_sound (P := P) (w := w) h (hE.opd h1)
    exact ⟨v', by simp only [execOp, heq]; exact exec_v q1, q2⟩
  case h_13 src dst x heq =>
    have fin : ∀ (c : Cv) (y : Opd), cOpd x = some y → m = .conv c y → ConvAt P src dst c → (∃ d, P.underlying src = some d) → ∃ v', (execOp a.eval o).run P w = .ok (.value v') w ∧ RelV G v v' := by
      intro c y h1 hm hcv hs
      subst hm
      simp only [evP] at h
      obtain ⟨v', q1, q2⟩ := convP_sound (P := P) (w := w) src dst hI h (hE.opd h1) hcv hs
      exact ⟨v', by simp only [execOp, heq]; exact exec_v q1, q2⟩
    split at hc
    · rename_i d k y hs hd h1; cases hc; exact fin (.toInt k) y h1 rfl hd ⟨_, hs⟩
    · rename_i k y hs hd h1; cases hc; exact fin .itos y h1 rfl hd ⟨_, hs⟩
    · rename_i y hs hd h1; cases hc; exact fin .same y h1 rfl ⟨hs, hd⟩ ⟨_, hs⟩
    · rename_i el y hs hd h1
      split at hc
      · rename_i he
        split at hc
        · cases hc; exact fin .s2h y h1 rfl ⟨hs, el, hd, he⟩ ⟨_, hs⟩
        · cases hc; exact fin .s2b y h1 rfl ⟨hs, el, hd, he⟩ ⟨_, hs⟩
      · cases hc
    · rename_i el y hs hd h1
      split at hc
      · rename_i he; cases hc; exact fin .b2s y h1 rfl ⟨el, hs, hd, he⟩ ⟨_, hs⟩
      · rename_i he; cases hc; exact fin .r2s y h1 rfl ⟨el, hs, hd, he⟩ ⟨_, hs⟩
      · cases hc
    · rename_i el e2 y hs hd h1
      split at hc
      · rename_i hsd he; cases hc; exact fin .mark y h1 rfl ⟨by simpa using hsd, e2, hd, he⟩ ⟨_, hs⟩
      · cases hc
    · cases hc
  case h_14 t x heq =>
    split at hc
    · cases hc
    · cases hc
    · rename_i d h1 h2
      obtain ⟨y, h3, rfl⟩ := cOpd_map hc
      simp only [evP] at h
      cases h
      have hu : ∃ d, P.underlying t = some d := by
        cases hq : P.underlying t with
        | none => exact absurd hq h2
        | some d => exact ⟨d, rfl⟩
      obtain ⟨d, hd⟩ := hu
      refine ⟨.iface t (a.eval x), ?_, .iface _ _ _ (hE.opd h3)⟩
      simp only [execOp, heq]
      refine exec_v ?_
      simp only [Instr.makeInterface, Sem.run_bind, run_underlying hd, Result.andThen_ok]
      cases d <;> first | rfl | exact absurd hd (h1 _)
  case h_15 t x lo hi heq =>
    split at hc
    · rename_i y l hh hu h1 h2 h3
      cases hc
      simp only [evP] at h
      have hr := hE.opd h1
      have rl := cOpdO_rel hE h2
      have rh := cOpdO_rel hE h3
      generalize hv : a.eval x = xv at hr
      generalize opd gl e y = yv at h hr
      cases hr with
      | str s =>
        obtain ⟨v', q1, q2⟩ := slcS_sound (P := P) (w := w) t h rl rh hu
        exact ⟨v', by simp only [execOp, heq, hv]; exact exec_v q1, q2⟩
      | _ => simp [slcS] at h
    · rename_i el y l hh hu h1 h2 h3
      split at hc
      · rename_i n hn
        cases hc
        simp only [evP] at h
        have hr := hE.opd h1
        have rl := cOpdO_rel hE h2
        have rh := cOpdO_rel hE h3
        unfold szOf at hn
        obtain ⟨it, hit, hsz⟩ := Option.map_eq_some_iff.1 hn
        obtain ⟨v', q1, q2⟩ := slcV_slice (P := P) (w := w) t el it h hr rl rh hu hit hsz
        exact ⟨v', by simp only [execOp, heq]; exact exec_v q1, q2⟩
      · cases hc
    · cases hc
  case h_16 t x f heq =>
    split at hc
    · rename_i fs hu
      split at hc
      · rename_i fd hf
        split at hc
        · rename_i n hn
          obtain ⟨y, h1, rfl⟩ := cOpd_map hc
          simp only [evP] at h
          have hr := hE.opd h1
          generalize hv : a.eval x = xv at hr
          generalize opd gl e y = yv at h hr
          cases hr <;> (try simp only at h) <;> try (cases h; done)
          · rename_i b o1 g hrho
            cases h
            exact ⟨_, by simp only [execOp, heq, hv]; exact exec_v (fieldAt_run hu hf hn g o1), .ptr _ _ _ hrho⟩
          · rename_i cs g o1 vs hl hi
            split at h
            · cases h
              refine ⟨_, by simp only [execOp, heq, hv]; exact exec_v (fieldAt_run hu hf hn g o1), .rp _ _ _ (vs.drop fd.offset) (hl.drop _) (fun j u hu => ?_)⟩
              rw [List.getElem?_drop] at hu
              have := hi _ _ hu
              rw [show o1 + fd.offset + j = o1 + (fd.offset + j) by omega]; exact this
            · cases h
        · cases hc
      · cases hc
    · cases hc
  case h_17 t x f heq =>
    split at hc
    · rename_i fs hu
      split at hc
      · rename_i fd hf
        split at hc
        · rename_i n y hn h1
          cases hc
          simp only [evP] at h
          have hr := hE.opd h1
          generalize hv : a.eval x = xv at hr
          generalize opd gl e y = yv at h hr
          cases hr <;> (try simp only at h) <;> try (cases h; done)
          rename_i cs V hl
          obtain ⟨v', q1, q2⟩ := part_sound (P := P) (w := w) hn h hl
          refine ⟨v', ?_, q2⟩
          simp only [execOp, heq, hv]
          exact exec_v (by simp [Instr.field, run_underlying hu, hf, asAgg, q1])
        · cases hc
      · cases hc
    · cases hc
  case h_18 t x i heq =>
    split at hc
    · rename_i el y j hu h1 h2
      split at hc
      · rename_i n hn
        cases hc
        simp only [evP] at h
        have hr := hE.opd h1
        have hri := hE.opd h2
        generalize hv : a.eval x = xv at hr
        generalize opd gl e y = yv at h hr
        cases hr <;> (try simp only at h) <;> try (cases h; done)
        · rename_i cs len tk g o1 cap vs hl hi hcn hcm htk
          split at h
          · rename_i jj hj
            cases h
            obtain ⟨k, z, q1, q2, q3, q4⟩ := idx_sound hj hri
            refine ⟨_, by simp only [execOp, heq, hv, q1]; exact exec_v (indexAt_slice hu hn q2 q3), ?_⟩
            rw [q4]
            refine .rp _ _ _ (vs.drop (jj * n)) (hl.drop _) (fun j' u hu => ?_)
            rw [List.getElem?_drop] at hu
            have := hi _ _ hu
            rw [show o1 + jj * n + j' = o1 + (jj * n + j') by omega]; exact this
          · cases h
        · split at h
          · rename_i jj hj
            obtain ⟨k, z, q1, q2, q3, q4⟩ := idx_sound hj hri
            omega
          · cases h
        · rename_i zz b o1 len g cap L hrho hlim hcn hcc hcm
          split at h
          · rename_i jj hj
            cases h
            obtain ⟨k, z, q1, q2, q3, q4⟩ := idx_sound hj hri
            refine ⟨_, by simp only [execOp, heq, hv, q1]; exact exec_v (indexAt_slice hu hn q2 q3), ?_⟩
            rw [q4]
            exact .ptr _ _ _ hrho
          · cases h
      · cases hc
    · rename_i len el y j hu h1 h2
      split at hc
      · rename_i n hn
        cases hc
        simp only [evP] at h
        have hr := hE.opd h1
        have hri := hE.opd h2
        generalize hv : a.eval x = xv at hr
        generalize opd gl e y = yv at h hr
        cases hr <;> (try simp only at h) <;> try (cases h; done)
        · rename_i b o1 g hrho
          split at h
          · rename_i jj hj
            cases h
            obtain ⟨k, z, q1, q2, q3, q4⟩ := idx_sound hj hri
            refine ⟨_, by simp only [execOp, heq, hv, q1]; exact exec_v (indexAt_array hu hn q2 q3), ?_⟩
            rw [q4]
            exact .ptr _ _ _ hrho
          · cases h
        · rename_i cs g o1 vs hl hi
          split at h
          · rename_i jj hj
            split at h
            · cases h
              obtain ⟨k, z, q1, q2, q3, q4⟩ := idx_sound hj hri
              refine ⟨_, by simp only [execOp, heq, hv, q1]; exact exec_v (indexAt_array hu hn q2 q3), ?_⟩
              rw [q4]
              refine .rp _ _ _ (vs.drop (jj * n)) (hl.drop _) (fun j' u hu => ?_)
              rw [List.getElem?_drop] at hu
              have := hi _ _ hu
              rw [show o1 + jj * n + j' = o1 + (jj * n + j') by omega]; exact this
            · cases h
          · cases h
      · cases hc
    · cases hc
  case h_19 t x i heq =>
    split at hc
    · rename_i len el y j hu h1 h2
      split at hc
      · rename_i b n hb hn
        cases hc
        simp only [evP] at h
        have hr := hE.opd h1
        have hri := hE.opd h2
        generalize hv : a.eval x = xv at hr
        generalize opd gl e y = yv at h hr
        cases hr <;> (try simp only at h) <;> try (cases h; done)
        rename_i cs V hl
        split at h
        · rename_i jj hj
          obtain ⟨k, z, q1, q2, q3, q4⟩ := idx_sound hj hri
          have hcn : cellsN P el = some (if b then some n else none) ∨ (b = false ∧ n ≠ 1) := by
            unfold cellsN
            rw [hb, hn]
            cases b
            · by_cases h1 : n = 1
              · subst h1; exact .inl rfl
              · exact .inr ⟨rfl, h1⟩
            · exact .inl rfl
          have hp : ∃ v', (part el V (jj * n)).run P w = .ok v' w ∧ RelV G v v' := by
            rcases hcn with hcn | ⟨rfl, _⟩
            · exact part_sound hcn h hl
            · simp only [cut, Bool.false_eq_true, if_false] at h
              obtain ⟨u, hu', r, _⟩ := hl.get h
              have hu'' : V[jj * n]? = some u := by simpa using hu'
              exact ⟨u, by simp [part, isAg_run hb, hu''], r⟩
          obtain ⟨v', p1, p2⟩ := hp
          refine ⟨v', ?_, p2⟩
          simp only [execOp, heq, hv, q1]
          refine exec_v ?_
          simp [Instr.index, asIntOf, run_underlying hu, q2, q3, szOf_run hn, q4, p1]
        · cases h
      · cases hc
    · rename_i y j hu h1 h2
      cases hc
      simp only [evP] at h
      have hr := hE.opd h1
      have hri := hE.opd h2
      generalize hv : a.eval x = xv at hr
      generalize opd gl e y = yv at h hr
      cases hr <;> (try simp only at h) <;> try (cases h; done)
      rename_i s
      split at h
      · rename_i jj hj
        split at h
        · rename_i b hb
          cases h
          obtain ⟨k, z, q1, q2, q3, q4⟩ := idx_sound hj hri
          refine ⟨.int .u8 b.toNat, ?_, .int _ _⟩
          simp only [execOp, heq, hv, q1]
          refine exec_v ?_
          have hs : s[z.toNat]? = some b := by
            rw [q4]
            have : s.data[jj]? = some b := by simpa using hb
            exact this
          simp [Instr.index, asIntOf, run_underlying hu, q2, hs]
        · cases h
      · cases h
    · cases hc
  case h_20 x xt t ok heq =>
    split at hc
    · cases hc
    · rename_i d z y hd hu hz h1
      cases hc
      simp only [evP] at h
      have hzr : ∃ zv, (zeroValue t).run P w = .ok zv w ∧ RelV G z zv := by
        unfold zeroOf at hz
        split at hz
        · rename_i zv hzz
          obtain ⟨it, hit, hz2⟩ := Option.bind_eq_some_iff.1 hzz
          exact ⟨zv, by simp [zeroValue, typeInfo, hit, hz2], toAVa_rel hz⟩
        · cases hz
      obtain ⟨zv, hz1, hz2⟩ := hzr
      have hr := hE.opd h1
      generalize hv : a.eval x = xv at hr
      generalize opd gl e y = yv at h hr
      have hnot : ∀ ms, d ≠ .interface ms := fun ms e => hd ms e
      cases hr <;> (try simp only at h) <;> try (cases h; done)
      · split at h
        · rename_i hok
          cases h
          refine ⟨.tuple #[zv, .bool false], ?_, .tup _ _ (.cons _ _ _ _ hz2 (.cons _ _ _ _ (.bool _) .nil))⟩
          simp only [execOp, heq, hv]
          refine exec_v ?_
          simp only [Instr.typeAssert, Sem.run_bind, run_underlying hu, Result.andThen_ok]
          cases d <;> first | exact absurd rfl (hnot _) | simp [hok, hz1]
        · cases h
      · rename_i u av vv hrv
        split at h
        · rename_i e
          subst e
          cases h
          cases ok
          · refine ⟨vv, ?_, hrv⟩
            simp only [execOp, heq, hv]
            refine exec_v ?_
            simp only [Instr.typeAssert, Sem.run_bind, run_underlying hu, Result.andThen_ok]
            cases d <;> first | exact absurd rfl (hnot _) | simp
          · refine ⟨.tuple #[vv, .bool true], ?_, .tup _ _ (.cons _ _ _ _ hrv (.cons _ _ _ _ (.bool _) .nil))⟩
            simp only [execOp, heq, hv]
            refine exec_v ?_
            simp only [Instr.typeAssert, Sem.run_bind, run_underlying hu, Result.andThen_ok]
            cases d <;> first | exact absurd rfl (hnot _) | simp
        · rename_i hne
          split at h
          · rename_i hok
            cases h
            refine ⟨.tuple #[zv, .bool false], ?_, .tup _ _ (.cons _ _ _ _ hz2 (.cons _ _ _ _ (.bool _) .nil))⟩
            simp only [execOp, heq, hv]
            refine exec_v ?_
            simp only [Instr.typeAssert, Sem.run_bind, run_underlying hu, Result.andThen_ok]
            cases d <;> first | exact absurd rfl (hnot _) | simp [hok, hz1, hne]
          · cases h
    · cases hc
  case h_21 x i heq =>
    obtain ⟨y, h1, rfl⟩ := cOpd_map hc
    simp only [evP] at h
    have hr := hE.opd h1
    generalize hv : a.eval x = xv at hr
    generalize opd gl e y = yv at h hr
    cases hr <;> (try simp only at h) <;> try (cases h; done)
    rename_i cs V hl
    obtain ⟨u, q1, q2⟩ := hl.get h
    have q1' : V[i]? = some u := by simpa using q1
    exact ⟨u, by simp only [execOp, heq, hv]; exact exec_v (by simp [Instr.extract, q1']), q2⟩
  case h_22 args ts heq =>
    split at hc
    · rename_i x t ha ht'
      have ea : args = #[x] := by rw [← Array.toArray_toList (xs := args), ha]
      have et : ts = #[t] := by rw [← Array.toArray_toList (xs := ts), ht']
      subst ea; subst et
      split at hc
      · rename_i y hu h1
        cases hc
        simp only [evP] at h
        have hr := hE.opd h1
        generalize hv : a.eval x = xv at hr
        generalize opd gl e y = yv at h hr
        cases hr <;> (try simp only at h) <;> try (cases h; done)
        rename_i s
        cases h
        have hsz : s.data.toList.length = s.size := by simp
        rw [hsz]
        refine ⟨.int .i64 s.size, ?_, .int _ _⟩
        simp [execOp, heq, resolve, invoke, builtin, hv, Builtin.len_, run_underlying hu, goInt]
      · rename_i el y hu h1
        cases hc
        simp only [evP] at h
        have hr := hE.opd h1
        generalize hv : a.eval x = xv at hr
        generalize opd gl e y = yv at h hr
        cases hr <;> (try simp only at h) <;> try (cases h; done)
        all_goals
          cases h
          refine ⟨.int .i64 _, ?_, .int _ _⟩
          simp [execOp, heq, resolve, invoke, builtin, hv, Builtin.len_, run_underlying hu, goInt]
      · cases hc
    · cases hc
  case h_23 args ts heq =>
    obtain ⟨ms, h1, rfl⟩ := Option.map_eq_some_iff.1 hc
    have hr := hE.opds h1
    simp only [evP] at h
    split at h
    · cases h
    · rename_i x xs hxs
      split at h
      · rw [hxs] at hr
        generalize hl : args.toList.map a.eval = us at hr
        cases hr with
        | cons _ u _ us r t =>
          obtain ⟨v', q1, q2⟩ := foldV_sound (P := P) (w := w) (f' := Builtin.min2) (fun _ _ _ _ _ p q r => mnV_sound p q r) h r t
          refine ⟨v', ?_, q2⟩
          simp [execOp, heq, resolve, invoke, builtin, Builtin.min_, hl, q1]
      · cases h
  case h_24 args ts heq =>
    obtain ⟨ms, h1, rfl⟩ := Option.map_eq_some_iff.1 hc
    have hr := hE.opds h1
    simp only [evP] at h
    split at h
    · cases h
    · rename_i x xs hxs
      split at h
      · rw [hxs] at hr
        generalize hl : args.toList.map a.eval = us at hr
        cases hr with
        | cons _ u _ us r t =>
          obtain ⟨v', q1, q2⟩ := foldV_sound (P := P) (w := w) (f' := Builtin.max2) (fun _ _ _ _ _ p q r => mxV_sound p q r) h r t
          refine ⟨v', ?_, q2⟩
          simp [execOp, heq, resolve, invoke, builtin, Builtin.max_, hl, q1]
      · cases h
  case h_25 args ts heq =>
    split at hc
    · split at hc
      · split at hc
        · split at hc
          · cases hc; simp [evP] at h
          · cases hc
        · cases hc
      · split at hc
        · split at hc
          · cases hc; simp [evP] at h
          · cases hc
        · cases hc
      · cases hc
    · cases hc
  case h_26 args ts heq =>
    split at hc
    · split at hc
      · split at hc
        · cases hc; simp [evP] at h
        · cases hc
      · split at hc
        · cases hc; simp [evP] at h
        · cases hc
      · cases hc
    · cases hc
  case h_27 f args ts heq =>
    obtain ⟨ms, h1, rfl⟩ := Option.map_eq_some_iff.1 hc
    simp [evP] at h
  case h_28 t l c heq =>
    split at hc
    · split at hc
      · split at hc
        · cases hc; simp [evP] at h
        · cases hc
      · cases hc
    · cases hc
  case h_29 t x heq =>
    split at hc
    · obtain ⟨y, _, rfl⟩ := cOpd_map hc
      simp [evP] at h
    · cases hc
  case h_30 x heq =>
    obtain ⟨y, _, rfl⟩ := cOpd_map hc
    simp [evP] at h
  case h_31 t args ts heq =>
    obtain ⟨ms, h1, rfl⟩ := Option.map_eq_some_iff.1 hc
    simp [evP] at h
  case h_32 f first captured heq =>
    split at hc
    · rename_i hf
      obtain ⟨ms, h1, rfl⟩ := Option.map_eq_some_iff.1 hc
      have hr := hE.opds h1
      simp only [evP] at h
      cases h
      have ef : first = #[] := by rw [← Array.toArray_toList (xs := first), hf]
      subst ef
      refine ⟨.func (.func f) #[] (captured.map a.eval), by simp only [execOp, heq]; exact exec_v (by simp [Instr.makeFunc]), .clo _ _ _ ?_⟩
      rw [Array.toList_map]
      exact hr
    · cases hc
  case h_33 => cases hc
end
end Go.Ab
