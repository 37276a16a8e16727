/- The relation between the evaluator's values and the machine's: what it says, and that it lives on. No conditions. -/
import Derived.Test.YtbeimfhodgmjhaaDoorAb1
import Derived.Below
import Derived.Laws.AppendOwn
import Derived.Lib.AppendStr
import Derived.Laws.IdiomCopy
namespace Go.Ab
open Go

/-- Whose block a ticket speaks of: the block, where its slice begins, the size of an element, how many there are, how many may be. -/
structure Tk where
  g : Nat
  o : Nat
  sz : Nat
  n : Nat
  cap : Nat
/-- What is known of the machine's memory beside: cells that never turn; where the small heap's blocks lie. -/
structure Gh where
  base : Nat
  imm : Nat → Nat → Option Value
  rho : Nat → Option Nat
  lim : Nat → Option (Nat × Nat)
  tk : Nat → Nat → Option Tk
  /-- Blocks that the small heap has made already, the machine not yet. -/
  res : Nat → Bool
structure Gh.le0 (G G' : Gh) : Prop where
  base : G'.base = G.base
  imm : ∀ g o v, G.imm g o = some v → G'.imm g o = some v
  rho : ∀ b g, G.rho b = some g → G'.rho b = some g
  lim : ∀ b g, G.lim b = some g → G'.lim b = some g
  tk : ∀ t v T, G.tk t v = some T → G'.tk t v = some T
  old : ∀ g o, g < G.base → G'.imm g o = G.imm g o
structure Gh.le (G G' : Gh) : Prop extends Gh.le0 G G' where
  res : G'.res = G.res
theorem Gh.le0_refl (G : Gh) : G.le0 G := ⟨rfl, fun _ _ _ h => h, fun _ _ h => h, fun _ _ h => h, fun _ _ _ h => h, fun _ _ _ => rfl⟩
theorem Gh.le_refl (G : Gh) : G.le G := ⟨G.le0_refl, rfl⟩
theorem Gh.le0.trans {A B C : Gh} (h : A.le0 B) (k : B.le0 C) : A.le0 C :=
  ⟨k.base.trans h.base, fun _ _ _ x => k.imm _ _ _ (h.imm _ _ _ x), fun _ _ x => k.rho _ _ (h.rho _ _ x), fun _ _ x => k.lim _ _ (h.lim _ _ x), fun _ _ _ x => k.tk _ _ _ (h.tk _ _ _ x), fun g o hg => (k.old g o (by rw [h.base]; exact hg)).trans (h.old g o hg)⟩
theorem Gh.le.trans {A B C : Gh} (h : A.le B) (k : B.le C) : A.le C := ⟨h.tole0.trans k.tole0, k.res.trans h.res⟩
/-- An object that lies in the machine's memory. -/
def Gh.Live (G : Gh) (b : Nat) (o : Obj) : Prop := o ≠ .dead ∧ G.res b = false

/-- The ticket of a slice. -/
def TkOk (G : Gh) (g o n cap : Nat) : Option (Nat × Nat × Nat) → Prop
  | none => True
  | some (t, v, z) => ∃ k T, G.tk t v = some T ∧ T.sz = z ∧ T.g = g ∧ n + k = T.n ∧ cap + k = T.cap ∧ (o = T.o + k * T.sz ∨ cap = 0)
theorem TkOk.mono0 {G G' : Gh} (h : G.le0 G') {g o n cap : Nat} {tk : Option (Nat × Nat × Nat)} (x : TkOk G g o n cap tk) : TkOk G' g o n cap tk := by
  cases tk with
  | none => trivial
  | some p =>
    obtain ⟨t, v, z⟩ := p
    obtain ⟨k, T, h1, h2⟩ := x
    exact ⟨k, T, h.tk _ _ _ h1, h2⟩

mutual
inductive RelV (G : Gh) : AV → Value → Prop
  | undef (v : Value) : RelV G .undef v
  | bool (b : Bool) : RelV G (.bool b) (.bool b)
  | int (k : IntKind) (n : Int) : RelV G (.int k n) (.int k n)
  | str (s : ByteArray) : RelV G (.str s.data.toList) (.string s)
  | nilp : RelV G .nilp (.pointer none)
  | ptr (b o g : Nat) (h : G.rho b = some g) : RelV G (.ptr b o) (.pointer (some ⟨g, o, none⟩))
  | rp (cs : List AV) (g o : Nat) (vs : List Value) (h : RelL G cs vs) (hi : ∀ j v, vs[j]? = some v → G.imm g (o + j) = some v) : RelV G (.rp cs) (.pointer (some ⟨g, o, none⟩))
  | nils : RelV G .nils (.slice none 0 0)
  | sl (cs : List AV) (n : Nat) (tk : Option (Nat × Nat × Nat)) (g o cap : Nat) (vs : List Value) (h : RelL G cs vs) (hi : ∀ j v, vs[j]? = some v → G.imm g (o + j) = some v)
      (hn : n ≤ cap) (hc : cap ≤ maxLen) (ht : TkOk G g o n cap tk) : RelV G (.sl cs n tk) (.slice (some ⟨g, o, none⟩) n cap)
  | hs (z b o n g cap L : Nat) (h : G.rho b = some g) (hl : G.lim b = some (z, L)) (hn : n ≤ cap) (hc : o + cap * z ≤ L) (hm : cap ≤ maxLen) : RelV G (.hs z b o n) (.slice (some ⟨g, o, none⟩) n cap)
  | nili : RelV G .nili .nilIface
  | iface (t : Nat) (a : AV) (v : Value) (h : RelV G a v) : RelV G (.iface t a) (.iface t v)
  | agg (cs : List AV) (vs : Array Value) (h : RelL G cs vs.toList) : RelV G (.agg cs) (.agg vs)
  | tup (cs : List AV) (vs : Array Value) (h : RelT G cs vs.toList) : RelV G (.tup cs) (.tuple vs)
/-- Cells: none of them is a struct or a tuple. -/
inductive RelL (G : Gh) : List AV → List Value → Prop
  | nil : RelL G [] []
  | cons (a : AV) (v : Value) (as : List AV) (vs : List Value) (h : RelV G a v) (h1 : v.oneCell' = true) (t : RelL G as vs) : RelL G (a :: as) (v :: vs)
inductive RelT (G : Gh) : List AV → List Value → Prop
  | nil : RelT G [] []
  | cons (a : AV) (v : Value) (as : List AV) (vs : List Value) (h : RelV G a v) (t : RelT G as vs) : RelT G (a :: as) (v :: vs)
end

mutual
theorem RelV.mono0 {G G' : Gh} (hG : G.le0 G') {a : AV} {v : Value} (x : RelV G a v) : RelV G' a v := by
  cases x with
  | undef => exact .undef _
  | bool => exact .bool _
  | int => exact .int _ _
  | str => exact .str _
  | nilp => exact .nilp
  | ptr b o g h => exact .ptr b o g (hG.rho _ _ h)
  | rp cs g o vs h hi => exact .rp cs g o vs (RelL.mono0 hG h) (fun j v q => hG.imm _ _ _ (hi j v q))
  | nils => exact .nils
  | sl cs n tk g o cap vs h hi hn hc ht => exact .sl cs n tk g o cap vs (RelL.mono0 hG h) (fun j v q => hG.imm _ _ _ (hi j v q)) hn hc (ht.mono0 hG)
  | hs z b o n g cap L h hl hn hc hm => exact .hs z b o n g cap L (hG.rho _ _ h) (hG.lim _ _ hl) hn hc hm
  | nili => exact .nili
  | iface t a v h => exact .iface t a v (RelV.mono0 hG h)
  | agg cs vs h => exact .agg cs vs (RelL.mono0 hG h)
  | tup cs vs h => exact .tup cs vs (RelT.mono0 hG h)
theorem RelL.mono0 {G G' : Gh} (hG : G.le0 G') {as : List AV} {vs : List Value} (x : RelL G as vs) : RelL G' as vs := by
  cases x with
  | nil => exact .nil
  | cons a v as vs h h1 t => exact .cons a v as vs (RelV.mono0 hG h) h1 (RelL.mono0 hG t)
theorem RelT.mono0 {G G' : Gh} (hG : G.le0 G') {as : List AV} {vs : List Value} (x : RelT G as vs) : RelT G' as vs := by
  cases x with
  | nil => exact .nil
  | cons a v as vs h t => exact .cons a v as vs (RelV.mono0 hG h) (RelT.mono0 hG t)
end
theorem RelV.mono {G G' : Gh} (hG : G.le G') {a : AV} {v : Value} (x : RelV G a v) : RelV G' a v := x.mono0 hG.tole0
theorem RelL.mono {G G' : Gh} (hG : G.le G') {as : List AV} {vs : List Value} (x : RelL G as vs) : RelL G' as vs := x.mono0 hG.tole0
theorem RelT.mono {G G' : Gh} (hG : G.le G') {as : List AV} {vs : List Value} (x : RelT G as vs) : RelT G' as vs := x.mono0 hG.tole0
theorem TkOk.mono {G G' : Gh} (h : G.le G') {g o n cap : Nat} {tk : Option (Nat × Nat × Nat)} (x : TkOk G g o n cap tk) : TkOk G' g o n cap tk := x.mono0 h.tole0

/-! ### Lists of cells -/
theorem RelL.length {G : Gh} {as : List AV} {vs : List Value} (x : RelL G as vs) : as.length = vs.length := by
  induction as generalizing vs with
  | nil => cases x; rfl
  | cons a as ih => cases x with | cons _ v _ vs h h1 t => simp [ih t]
theorem RelL.append {G : Gh} {as bs : List AV} {vs us : List Value} (x : RelL G as vs) (y : RelL G bs us) : RelL G (as ++ bs) (vs ++ us) := by
  induction as generalizing vs with
  | nil => cases x; exact y
  | cons a as ih => cases x with | cons _ v _ vs h h1 t => exact .cons _ _ _ _ h h1 (ih t)
theorem RelL.drop {G : Gh} {as : List AV} {vs : List Value} (x : RelL G as vs) (n : Nat) : RelL G (as.drop n) (vs.drop n) := by
  induction n generalizing as vs with
  | zero => simpa using x
  | succ n ih => cases x with
    | nil => simpa using RelL.nil
    | cons _ v _ vs h h1 t => simpa using ih t
theorem RelL.take {G : Gh} {as : List AV} {vs : List Value} (x : RelL G as vs) (n : Nat) : RelL G (as.take n) (vs.take n) := by
  induction n generalizing as vs with
  | zero => simpa using RelL.nil
  | succ n ih => cases x with
    | nil => simpa using RelL.nil
    | cons _ v _ vs h h1 t => simpa using RelL.cons _ _ _ _ h h1 (ih t)
theorem RelL.get {G : Gh} {as : List AV} {vs : List Value} (x : RelL G as vs) {i : Nat} {a : AV} (h : as[i]? = some a) : ∃ v, vs[i]? = some v ∧ RelV G a v ∧ v.oneCell' = true := by
  induction i generalizing as vs with
  | zero => cases x with
    | nil => simp at h
    | cons _ v _ vs h' h1 t => simp at h; subst h; exact ⟨v, by simp, h', h1⟩
  | succ i ih => cases x with
    | nil => simp at h
    | cons _ v _ vs h' h1 t => simpa using ih t (by simpa using h)
theorem RelL.get' {G : Gh} {as : List AV} {vs : List Value} (x : RelL G as vs) {i : Nat} {v : Value} (h : vs[i]? = some v) : ∃ a, as[i]? = some a ∧ RelV G a v ∧ v.oneCell' = true := by
  induction i generalizing as vs with
  | zero => cases x with
    | nil => simp at h
    | cons a _ as _ h' h1 t => simp at h; subst h; exact ⟨a, by simp, h', h1⟩
  | succ i ih => cases x with
    | nil => simp at h
    | cons _ v _ vs h' h1 t => simpa using ih t (by simpa using h)
theorem RelL.set {G : Gh} {as : List AV} {vs : List Value} (x : RelL G as vs) (i : Nat) {a : AV} {v : Value} (h : RelV G a v) (h1 : v.oneCell' = true) : RelL G (as.set i a) (vs.set i v) := by
  induction i generalizing as vs with
  | zero => cases x with
    | nil => simpa using RelL.nil
    | cons _ u _ us h' h1' t => simpa using RelL.cons _ _ _ _ h h1 t
  | succ i ih => cases x with
    | nil => simpa using RelL.nil
    | cons _ u _ us h' h1' t => simpa using RelL.cons _ _ _ _ h' h1' (ih t)
theorem RelL.one {G : Gh} {a : AV} {v : Value} (h : RelV G a v) (h1 : v.oneCell' = true) : RelL G [a] [v] := .cons _ _ _ _ h h1 .nil
theorem RelL.mem {G : Gh} {as : List AV} {vs : List Value} (x : RelL G as vs) : ∀ v ∈ vs, v.oneCell' = true := by
  induction as generalizing vs with
  | nil => cases x; simp
  | cons a as ih => cases x with | cons _ v _ vs h h1 t => intro u hu; rcases List.mem_cons.1 hu with rfl | hu; exact h1; exact ih t u hu
theorem RelT.get {G : Gh} {as : List AV} {vs : List Value} (x : RelT G as vs) {i : Nat} {a : AV} (h : as[i]? = some a) : ∃ v, vs[i]? = some v ∧ RelV G a v := by
  induction i generalizing as vs with
  | zero => cases x with
    | nil => simp at h
    | cons _ v _ vs h' t => simp at h; subst h; exact ⟨v, by simp, h'⟩
  | succ i ih => cases x with
    | nil => simp at h
    | cons _ v _ vs h' t => simpa using ih t (by simpa using h)
theorem RelT.length {G : Gh} {as : List AV} {vs : List Value} (x : RelT G as vs) : as.length = vs.length := by
  induction as generalizing vs with
  | nil => cases x; rfl
  | cons a as ih => cases x with | cons _ v _ vs h t => simp [ih t]

/-! ### The small heap -/
theorem getH_upd_same (h : List (Nat × Obj)) (b : Nat) (o o' : Obj) (hb : getH h b = some o) : getH (updH h b o') b = some o' := by
  induction h with
  | nil => simp [getH] at hb
  | cons p h ih =>
    obtain ⟨i, q⟩ := p
    by_cases e : i = b
    · subst e; simp [updH, getH]
    · simp only [getH, e, if_false] at hb; simp [updH, getH, e, ih hb]
theorem getH_upd_ne (h : List (Nat × Obj)) (b c : Nat) (o : Obj) (hb : c ≠ b) : getH (updH h b o) c = getH h c := by
  induction h with
  | nil => simp [getH, updH]
  | cons p h ih =>
    obtain ⟨i, q⟩ := p
    by_cases e : i = b
    · subst e; simp [updH, getH, Ne.symm hb]
    · simp [updH, getH, e, ih]
theorem St.get_upd_same (s : St) {b : Nat} {o : Obj} (o' : Obj) (hb : s.get b = some o) : (s.upd b o').get b = some o' := getH_upd_same _ _ _ _ hb
theorem St.get_upd_ne (s : St) {b c : Nat} (o : Obj) (hb : c ≠ b) : (s.upd b o).get c = s.get c := getH_upd_ne _ _ _ _ hb
theorem St.get_new_same (s : St) (o : Obj) : (s.new o).get s.next = some o := by simp [St.get, St.new, getH]
theorem St.get_new_ne (s : St) {c : Nat} (o : Obj) (hb : c ≠ s.next) : (s.new o).get c = s.get c := by simp [St.get, St.new, getH, Ne.symm hb]
theorem St.next_upd (s : St) (b : Nat) (o : Obj) : (s.upd b o).next = s.next := rfl
theorem St.next_new (s : St) (o : Obj) : (s.new o).next = s.next + 1 := rfl

/-- A block of the small heap, as it lies in the machine's memory. -/
def ObjOk (G : Gh) (w : World) (b : Nat) : Obj → Nat → Prop
  | .cells sz cs, g => G.rho b = some g ∧ ∃ cur E vs, w.heap[g]? = some (.cells cur E (0, 0)) ∧ G.lim b = some (sz, cur.size) ∧ RelL G cs vs ∧ cs.length ≤ cur.size ∧ cur.toList.take cs.length = vs ∧ (∀ o, G.imm g o = none)
  | .tick sz v, g => ∃ T cur E, G.tk b v = some T ∧ T.g = g ∧ T.sz = sz ∧ T.n ≤ T.cap ∧ T.cap ≤ maxLen ∧ w.heap[g]? = some (.cells cur E (0, 0)) ∧ T.o + T.cap * sz ≤ cur.size ∧ (∀ o, T.o + T.n * sz ≤ o → G.imm g o = none)
  | .iter l p, g => G.rho b = some g ∧ ∃ s : ByteArray, s.data.toList = l ∧ w.heap[g]? = some (.stringIter s p) ∧ (∀ o, G.imm g o = none)
  | .dead, _ => True
  | .froz _ cs, g => G.rho b = some g ∧ ∃ cur E vs, w.heap[g]? = some (.cells cur E (0, 0)) ∧ RelL G cs vs ∧ (∀ j v, vs[j]? = some v → G.imm g j = some v)
/-- The whole state. `w0`: the memory as it was in the beginning; below `base` nothing turns. `pl`: where each block lies. -/
structure RelP (G : Gh) (w0 : World) (s : St) (w : World) (pl : Nat → Nat) : Prop where
  below : Go.RowKit.Below G.base w0 w
  base : G.base ≤ w.heap.size
  imm : ∀ g o v, G.imm g o = some v → w.cell? ⟨g, o, none⟩ = some v ∧ v.oneCell' = true
  fresh : ∀ b, s.next ≤ b → s.get b = none ∧ G.rho b = none ∧ G.lim b = none ∧ ∀ v, G.tk b v = none
  at_ : ∀ b o, s.get b = some o → G.Live b o → G.base ≤ pl b ∧ ObjOk G w b o (pl b)
  apart : ∀ b c o q, s.get b = some o → s.get c = some q → G.Live b o → G.Live c q → pl b = pl c → b = c
  tkV : ∀ b v T, G.tk b v = some T → ∀ sz u, s.get b = some (.tick sz u) → v ≤ u
  resV : ∀ b, G.res b = true → b < s.next ∧ G.rho b = none ∧ G.lim b = none ∧ ∀ v, G.tk b v = none
def RelS (G : Gh) (w0 : World) (s : St) (w : World) : Prop := ∃ pl, RelP G w0 s w pl

theorem ObjOk.lt {G : Gh} {w : World} {b : Nat} {o : Obj} {g : Nat} (h : ObjOk G w b o g) (hd : o ≠ .dead) : g < w.heap.size := by
  cases o with
  | cells sz cs => obtain ⟨_, cur, E, vs, h1, _⟩ := h; exact (Array.getElem?_eq_some_iff.1 h1).1
  | tick sz v => obtain ⟨T, cur, E, _, _, _, _, _, h1, _⟩ := h; exact (Array.getElem?_eq_some_iff.1 h1).1
  | iter l p => obtain ⟨_, s, _, h1, _⟩ := h; exact (Array.getElem?_eq_some_iff.1 h1).1
  | dead => exact absurd rfl hd
  | froz sz cs => obtain ⟨_, cur, E, vs, h1, _⟩ := h; exact (Array.getElem?_eq_some_iff.1 h1).1
/-- An object lives on where its block is as it was, and what never turns says nothing new of it. -/
theorem ObjOk.keep0 {G G' : Gh} {w w' : World} {b : Nat} {o : Obj} {g : Nat} (h : ObjOk G w b o g) (hG : G.le0 G') (hw : w'.heap[g]? = w.heap[g]?)
    (hi : ∀ o, G'.imm g o = G.imm g o) : ObjOk G' w' b o g := by
  cases o with
  | cells sz cs =>
    obtain ⟨hr, cur, E, vs, h1, h2, h3, h4, h5, h6⟩ := h
    exact ⟨hG.rho _ _ hr, cur, E, vs, hw.trans h1, hG.lim _ _ h2, h3.mono0 hG, h4, h5, fun o => (hi o).trans (h6 o)⟩
  | tick sz v =>
    obtain ⟨T, cur, E, h1, h2, h3, h4, h5, h6, h7, h8⟩ := h
    exact ⟨T, cur, E, hG.tk _ _ _ h1, h2, h3, h4, h5, hw.trans h6, h7, fun o ho => (hi o).trans (h8 o ho)⟩
  | iter l p =>
    obtain ⟨hr, s, h1, h2, h3⟩ := h
    exact ⟨hG.rho _ _ hr, s, h1, hw.trans h2, fun o => (hi o).trans (h3 o)⟩
  | dead => trivial
  | froz sz cs =>
    obtain ⟨hr, cur, E, vs, h1, h2, h3⟩ := h
    exact ⟨hG.rho _ _ hr, cur, E, vs, hw.trans h1, h2.mono0 hG, fun j v q => (hi j).trans (h3 j v q)⟩
theorem ObjOk.keep {G G' : Gh} {w w' : World} {b : Nat} {o : Obj} {g : Nat} (h : ObjOk G w b o g) (hG : G.le G') (hw : w'.heap[g]? = w.heap[g]?)
    (hi : ∀ o, G'.imm g o = G.imm g o) : ObjOk G' w' b o g := h.keep0 hG.tole0 hw hi

section
variable {G : Gh} {w0 : World} {s : St} {w : World} {pl : Nat → Nat}
theorem cell_of_heap {w w' : World} {g : Nat} (h : w'.heap[g]? = w.heap[g]?) (o : Nat) : w'.cell? ⟨g, o, none⟩ = w.cell? ⟨g, o, none⟩ := by simp [World.cell?, h]

/-- A draw turns nothing. -/
theorem RelS.drew (h : RelS G w0 s w) : RelS G w0 s w.drew := by
  obtain ⟨pl, h⟩ := h
  refine ⟨pl, h.below.drew, h.base, h.imm, h.fresh, fun b o hb hd => ?_, h.apart, h.tkV, h.resV⟩
  obtain ⟨h1, h2⟩ := h.at_ b o hb hd
  exact ⟨h1, h2.keep (Gh.le_refl G) rfl (fun _ => rfl)⟩

/-- With one more block in the machine, and one more object. -/
def Gh.cellsAt (G : Gh) (b g sz L : Nat) : Gh :=
  { G with rho := fun c => if c = b then some g else G.rho c, lim := fun c => if c = b then some (sz, L) else G.lim c }
theorem Gh.cellsAt_le (G : Gh) (b g sz L : Nat) (hr : G.rho b = none) (hl : G.lim b = none) : G.le (G.cellsAt b g sz L) := by
  refine ⟨⟨rfl, fun _ _ _ h => h, fun c x h => ?_, fun c x h => ?_, fun _ _ _ h => h, fun _ _ _ => rfl⟩, rfl⟩
  · have : c ≠ b := fun e => by subst e; simp [hr] at h
    simpa [Gh.cellsAt, this] using h
  · have : c ≠ b := fun e => by subst e; simp [hl] at h
    simpa [Gh.cellsAt, this] using h
theorem heap_alloc_lt (w : World) (o : Go.Obj) {g : Nat} (h : g < w.heap.size) : (w.alloc o).heap[g]? = w.heap[g]? := Go.RowKit.Below.heap_alloc w o g h
theorem RelP.imm_lt (h : RelP G w0 s w pl) {g o : Nat} {v : Value} (hi : G.imm g o = some v) : g < w.heap.size := by
  have := (h.imm g o v hi).1
  unfold World.cell? at this
  split at this
  · rename_i c e f hb; exact (Array.getElem?_eq_some_iff.1 hb).1
  · simp at this
theorem RelP.imm_new (h : RelP G w0 s w pl) (o : Nat) : G.imm w.heap.size o = none := by
  cases hx : G.imm w.heap.size o with
  | none => rfl
  | some v => exact absurd (h.imm_lt hx) (by omega)
theorem RelP.pl_lt (h : RelP G w0 s w pl) {b : Nat} {o : Obj} (hb : s.get b = some o) (hd : G.Live b o) : pl b < w.heap.size := (h.at_ b o hb hd).2.lt hd.1
theorem RelP.resF (h : RelP G w0 s w pl) {b g : Nat} (hr : G.rho b = some g) : G.res b = false := by
  cases hx : G.res b with
  | false => rfl
  | true => obtain ⟨_, h1, _⟩ := h.resV b hx; rw [hr] at h1; cases h1
theorem RelP.resT (h : RelP G w0 s w pl) {b v : Nat} {T : Tk} (hr : G.tk b v = some T) : G.res b = false := by
  cases hx : G.res b with
  | false => rfl
  | true => obtain ⟨_, _, _, h1⟩ := h.resV b hx; rw [h1] at hr; cases hr
theorem RelS.resF (h : RelS G w0 s w) {b g : Nat} (hr : G.rho b = some g) : G.res b = false := by obtain ⟨pl, h⟩ := h; exact h.resF hr
theorem RelS.resSl (h : RelS G w0 s w) {cs : List AV} {n b v z : Nat} {x : Value} (hx : RelV G (.sl cs n (some (b, v, z))) x) : G.res b = false := by
  obtain ⟨pl, h⟩ := h
  cases hx with
  | sl _ _ _ _ _ _ vs hc hi hn hm ht => obtain ⟨k, T, h1, _⟩ := ht; exact h.resT h1
theorem RelP.get_lt (h : RelP G w0 s w pl) {b : Nat} {o : Obj} (hb : s.get b = some o) : b < s.next := by
  rcases Nat.lt_or_ge b s.next with h' | h'
  · exact h'
  · have := (h.fresh b h').1; rw [hb] at this; cases this

/-- A new block of cells of the small heap's own. -/
theorem RelS.newCells (h : RelS G w0 s w) (sz : Nat) (cs : List AV) (cur : Array Value) (E : TypeId) (vs : List Value)
    (hc : RelL G cs vs) (hl : cs.length ≤ cur.size) (ht : cur.toList.take cs.length = vs) :
    ∃ G', G.le G' ∧ G'.rho s.next = some w.heap.size ∧ G'.lim s.next = some (sz, cur.size) ∧ RelS G' w0 (s.new (.cells sz cs)) (w.alloc (.cells cur E)) := by
  obtain ⟨pl, h⟩ := h
  obtain ⟨f1, f2, f3, f4⟩ := h.fresh s.next (Nat.le_refl _)
  have hle := Gh.cellsAt_le G s.next w.heap.size sz cur.size f2 f3
  refine ⟨G.cellsAt s.next w.heap.size sz cur.size, hle, by simp [Gh.cellsAt], by simp [Gh.cellsAt], fun b => if b = s.next then w.heap.size else pl b, ?_⟩
  refine ⟨h.below.alloc h.base _, Nat.le_trans h.base (by simp), fun g o v hi => ?_, fun b hb => ?_, fun b o hb hd => ?_, fun b c o q hb hc' ho hq hp => ?_, fun b v T hT sz' u hb => ?_, fun b hres => ?_⟩
  · obtain ⟨h1, h2⟩ := h.imm g o v hi
    exact ⟨by rw [cell_of_heap (heap_alloc_lt w _ (h.imm_lt hi))]; exact h1, h2⟩
  · have hb' : s.next + 1 ≤ b := hb
    obtain ⟨g1, g2, g3, g4⟩ := h.fresh b (by omega)
    have hne : b ≠ s.next := by omega
    exact ⟨by rw [St.get_new_ne _ _ hne]; exact g1, by simp [Gh.cellsAt, hne, g2], by simp [Gh.cellsAt, hne, g3], g4⟩
  · by_cases e : b = s.next
    · subst e
      rw [St.get_new_same] at hb
      cases hb
      simp only [if_true]
      refine ⟨h.base, by simp [Gh.cellsAt], cur, E, vs, heap_alloc_new w _, by simp [Gh.cellsAt], hc.mono hle, hl, ht, fun o => h.imm_new o⟩
    · rw [St.get_new_ne _ _ e] at hb
      simp only [e, if_false]
      obtain ⟨h1, h2⟩ := h.at_ b o hb hd
      exact ⟨h1, h2.keep hle (heap_alloc_lt w _ (h2.lt hd.1)) (fun _ => rfl)⟩
  · by_cases e : b = s.next <;> by_cases e' : c = s.next
    · rw [e, e']
    · subst e
      rw [St.get_new_ne _ _ e'] at hc'
      simp only [if_true, e', if_false] at hp
      exact absurd (h.pl_lt hc' hq) (by omega)
    · subst e'
      rw [St.get_new_ne _ _ e] at hb
      simp only [if_true, e, if_false] at hp
      exact absurd (h.pl_lt hb ho) (by omega)
    · rw [St.get_new_ne _ _ e] at hb
      rw [St.get_new_ne _ _ e'] at hc'
      simp only [e, e', if_false] at hp
      exact h.apart b c o q hb hc' ho hq hp
  · by_cases e : b = s.next
    · subst e; rw [St.get_new_same] at hb; cases hb
    · rw [St.get_new_ne _ _ e] at hb
      exact h.tkV b v T hT sz' u hb
  · obtain ⟨g1, g2, g3, g4⟩ := h.resV b hres
    have hne : b ≠ s.next := by omega
    exact ⟨Nat.lt_succ_of_lt g1, by simp [Gh.cellsAt, hne, g2], by simp [Gh.cellsAt, hne, g3], g4⟩
end

end Go.Ab
