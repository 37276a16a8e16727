/- Values with unknown parts, and blocks by other numbers: what is put in their stead; every operation goes along with it. No conditions. -/
import Derived.Test.YtgflghhffmjojaaGreatDoorAb0
set_option linter.unusedSimpArgs false
set_option linter.unusedVariables false
set_option maxRecDepth 100000
namespace Go.Ab
open Go
/-- From here on a closure's number is an unknown's. -/
def bigN : Nat := 1000000000
/-- What may stand for an unknown. -/
def lfOk : AV → Bool
  | .bool _ => true
  | .int _ _ => true
  | .str _ => true
  | .nils => true
  | .sl _ _ none => true
  | .rp _ => true
  | _ => false
/-- What the unknowns are, and where the blocks lie. -/
structure Sg where
  L : Nat → AV
  r : Nat → Nat
  n0 : Nat
  b0 : Nat
  sh : ∀ j, r (n0 + j) = b0 + j
  ok : ∀ i, lfOk (L i) = true
def tkR (g : Sg) : Option (Nat × Nat × Nat) → Option (Nat × Nat × Nat)
  | none => none
  | some (t, v, z) => some (g.r t, v, z)
/-- An unknown list may have a ticket. -/
def lfT (g : Sg) (v : AV) : List AV → AV
  | [.hs z t u _] => match v with
    | .sl cs n _ => .sl cs n (some (g.r t, u, z))
    | v => v
  | _ => v
mutual
def sv (g : Sg) : AV → AV
  | .undef => .undef
  | .bool b => .bool b
  | .int k n => .int k n
  | .str s => .str s
  | .nilp => .nilp
  | .ptr b o => .ptr (g.r b) o
  | .rp cs => .rp (svL g cs)
  | .nils => .nils
  | .sl cs n tk => .sl (svL g cs) n (tkR g tk)
  | .hs z b o n => .hs z (g.r b) o n
  | .nili => .nili
  | .iface t v => .iface t (sv g v)
  | .agg cs => .agg (svL g cs)
  | .tup cs => .tup (svL g cs)
  | .clo f cs => if f < bigN then .clo f (svL g cs) else lfT g (g.L (f - bigN)) cs
def svL (g : Sg) : List AV → List AV
  | [] => []
  | v :: vs => sv g v :: svL g vs
end
def so (g : Sg) : Obj → Obj
  | .cells z cs => .cells z (svL g cs)
  | .tick z e => .tick z e
  | .iter s p => .iter s p
  | .dead => .dead
  | .froz z cs => .froz z (svL g cs)
mutual
/-- Nothing unknown, no block. -/
def plainV : AV → Bool
  | .undef => true
  | .bool _ => true
  | .int _ _ => true
  | .str _ => true
  | .nilp => true
  | .nils => true
  | .nili => true
  | .rp cs => plainL cs
  | .sl cs _ none => plainL cs
  | .iface _ v => plainV v
  | .agg cs => plainL cs
  | .tup cs => plainL cs
  | _ => false
def plainL : List AV → Bool
  | [] => true
  | v :: vs => plainV v && plainL vs
end
mutual
theorem plain_sv (g : Sg) : ∀ v : AV, plainV v = true → sv g v = v
  | .undef, _ => rfl
  | .bool _, _ => rfl
  | .int _ _, _ => rfl
  | .str _, _ => rfl
  | .nilp, _ => rfl
  | .nils, _ => rfl
  | .nili, _ => rfl
  | .rp cs, h => by simp only [plainV] at h; simp only [sv, plain_svL g cs h]
  | .sl cs n none, h => by simp only [plainV] at h; simp only [sv, tkR, plain_svL g cs h]
  | .sl cs n (some _), h => by simp [plainV] at h
  | .iface t v, h => by simp only [plainV] at h; simp only [sv, plain_sv g v h]
  | .agg cs, h => by simp only [plainV] at h; simp only [sv, plain_svL g cs h]
  | .tup cs, h => by simp only [plainV] at h; simp only [sv, plain_svL g cs h]
  | .ptr _ _, h => by simp [plainV] at h
  | .hs _ _ _ _, h => by simp [plainV] at h
  | .clo _ _, h => by simp [plainV] at h
theorem plain_svL (g : Sg) : ∀ vs : List AV, plainL vs = true → svL g vs = vs
  | [], _ => rfl
  | v :: vs, h => by
    simp only [plainL, Bool.and_eq_true] at h
    simp only [svL, plain_sv g v h.1, plain_svL g vs h.2]
end
theorem svL_map (g : Sg) : ∀ l, svL g l = l.map (sv g)
  | [] => rfl
  | v :: vs => by simp only [svL, List.map_cons, svL_map g vs]
theorem svL_len (g : Sg) (l : List AV) : (svL g l).length = l.length := by rw [svL_map, List.length_map]
theorem svL_get (g : Sg) (l : List AV) (i : Nat) : (svL g l)[i]? = l[i]?.map (sv g) := by rw [svL_map, List.getElem?_map]
theorem svL_take (g : Sg) (l : List AV) (i : Nat) : (svL g l).take i = svL g (l.take i) := by rw [svL_map, svL_map, List.map_take]
theorem svL_drop (g : Sg) (l : List AV) (i : Nat) : (svL g l).drop i = svL g (l.drop i) := by rw [svL_map, svL_map, List.map_drop]
theorem svL_app (g : Sg) (l m : List AV) : svL g (l ++ m) = svL g l ++ svL g m := by rw [svL_map, svL_map, svL_map, List.map_append]
theorem svL_set (g : Sg) (l : List AV) (i : Nat) (v : AV) : svL g (l.set i v) = (svL g l).set i (sv g v) := by rw [svL_map, svL_map, List.map_set]
/-! ### Operands -/
def okO : Opd → Bool
  | .c v => plainV v
  | _ => true
def okO' : Option Opd → Bool
  | some x => okO x
  | none => true
def okOp : MOp → Bool
  | .mv x => okO x
  | .pick c a b => okO c && (okO a && okO b)
  | .bin _ x y => okO x && okO y
  | .eqv _ _ x y => okO x && okO y
  | .un _ x => okO x
  | .conv _ x => okO x
  | .mki _ x => okO x
  | .slc _ x lo hi => okO x && (okO' lo && okO' hi)
  | .sls x lo hi => okO x && (okO' lo && okO' hi)
  | .lens x => okO x
  | .ixs x i => okO x && okO i
  | .fa _ x => okO x
  | .fld _ _ x => okO x
  | .ixa _ x i => okO x && okO i
  | .ixp _ _ x i => okO x && okO i
  | .ix _ _ _ x i => okO x && okO i
  | .load _ x => okO x
  | .store _ x v => okO x && okO v
  | .nchk x => okO x
  | .tas _ z _ x => plainV z && okO x
  | .ext _ x => okO x
  | .call _ args => args.all fun p => okO p.2
  | .len x => okO x
  | .mn args => args.all okO
  | .mx args => args.all okO
  | .app _ _ _ x y => okO x && okO y
  | .build zs ps => plainL zs && ps.all fun p => okO p.2.2
  | .bsl _ _ _ zs ps => plainL zs && ps.all fun p => okO p.2.2
  | .bsi _ _ zs ps => plainL zs && ps.all fun p => okO p.2.2
  | .alloc zs => plainL zs
  | .box x => okO x
  | .mks _ _ zs l c => plainL zs && (okO l && okO c)
  | .cpy _ x y => okO x && okO y
  | .rng x => okO x
  | .nxt x => okO x
  | .mkc f cs => decide (f < bigN) && cs.all okO
  | .callv x args => okO x && args.all fun p => okO p.2
section
variable {g : Sg} {gl : Nat → AV} {e : Env}
theorem at_sv (e : Env) (i : Nat) : Env.at (svL g e) i = sv g (e.at i) := by
  unfold Env.at
  rw [List.getD_eq_getElem?_getD, List.getD_eq_getElem?_getD, svL_get]
  cases e[i]? <;> rfl
theorem opd_sv (hgl : ∀ i, plainV (gl i) = true) {x : Opd} (hx : okO x = true) : opd gl (svL g e) x = sv g (opd gl e x) := by
  cases x with
  | s i => exact at_sv e i
  | c v => exact (plain_sv g v hx).symm
  | g i => exact (plain_sv _ _ (hgl i)).symm
theorem opds_sv (hgl : ∀ i, plainV (gl i) = true) : ∀ {l : List Opd}, l.all okO = true → l.map (opd gl (svL g e)) = svL g (l.map (opd gl e)) := by
  intro l
  induction l with
  | nil => intro _; rfl
  | cons x l ih =>
    intro h
    rw [List.all_cons, Bool.and_eq_true] at h
    simp only [List.map_cons, svL, opd_sv hgl h.1, ih h.2]
theorem opdo_sv (hgl : ∀ i, plainV (gl i) = true) {x : Option Opd} (hx : okO' x = true) : x.map (opd gl (svL g e)) = (x.map (opd gl e)).map (sv g) := by
  cases x with
  | none => rfl
  | some x => simp only [Option.map_some, opd_sv hgl (x := x) hx]
/-! ### Pure operations -/
theorem idx_sv {n : Nat} {v : AV} {j : Nat} (h : idx n v = some j) : idx n (sv g v) = some j := by
  cases v <;> first | (cases h; done) | exact h
theorem bnd_sv {n : Nat} {v : AV} {j : Nat} (h : bnd n v = some j) : bnd n (sv g v) = some j := by
  cases v <;> first | (cases h; done) | exact h
theorem bndO_sv {d n : Nat} {v : Option AV} {j : Nat} (h : bndO d n v = some j) : bndO d n (v.map (sv g)) = some j := by
  cases v with
  | none => exact h
  | some v => exact bnd_sv h
theorem eqSc_sv {k : SK} {x y : AV} {b : Bool} (h : eqSc k x y = some b) : eqSc k (sv g x) (sv g y) = some b := by
  cases k <;> cases x <;> first | (cases h; done) | (cases y <;> first | (cases h; done) | exact h)
theorem eqScL_sv : ∀ {ks : List SK} {xs ys : List AV} {b : Bool}, eqScL ks xs ys = some b → eqScL ks (svL g xs) (svL g ys) = some b := by
  intro ks
  induction ks with
  | nil => intro xs ys b h; cases xs <;> cases ys <;> first | (cases h; done) | exact h
  | cons k ks ih =>
    intro xs ys b h
    cases xs with
    | nil => cases h
    | cons x xs =>
      cases ys with
      | nil => cases h
      | cons y ys =>
        simp only [eqScL, svL] at h ⊢
        cases hq : eqSc k x y with
        | none => rw [hq] at h; cases h
        | some c =>
          rw [hq] at h
          rw [eqSc_sv hq]
          cases c with
          | true => exact ih h
          | false => exact h
theorem eqFl_sv {q : EqF} {x y : AV} {b : Bool} (h : eqFl q x y = some b) : eqFl q (sv g x) (sv g y) = some b := by
  cases q with
  | one k => exact eqSc_sv h
  | many ks =>
    cases x <;> first | (cases h; done) | skip
    cases y <;> first | (cases h; done) | exact eqScL_sv h
theorem eqAV_sv {q : EqK} {x y : AV} {b : Bool} (h : eqAV q x y = some b) : eqAV q (sv g x) (sv g y) = some b := by
  cases q with
  | flat q => exact eqFl_sv h
  | ptr => cases x <;> first | (cases h; done) | (cases y <;> first | (cases h; done) | exact h)
  | slc => cases x <;> first | (cases h; done) | (cases y <;> first | (cases h; done) | exact h)
  | ifc l =>
    cases x <;> first | (cases h; done) | skip
    · cases y <;> first | (cases h; done) | exact h
    · cases y <;> first | (cases h; done) | exact h | skip
      rename_i t x u y
      simp only [eqAV, sv] at h ⊢
      split at h
      · rename_i e
        rw [if_pos e]
        split at h
        · exact eqFl_sv h
        · cases h
      · rename_i e
        rw [if_neg e]
        exact h
/-- A number, a truth, a text. -/
def scHn : AV → Bool
  | .bool _ => true
  | .int _ _ => true
  | .str _ => true
  | _ => false
theorem scHn_sv {v : AV} (h : scHn v = true) : sv g v = v := by cases v <;> first | rfl | cases h
theorem binI_sc {op : BinOp} {k : IntKind} {a b : Int} {v : AV} (h : binI op k a b = some v) : scHn v = true := by
  cases op <;> simp only [binI] at h <;> first | (cases h; rfl) | (split at h <;> cases h <;> rfl) | cases h
theorem shI_sc {op : BinOp} {k : IntKind} {a b : Int} {v : AV} (h : shI op k a b = some v) : scHn v = true := by
  unfold shI at h
  split at h
  · cases h
  · cases op <;> simp only at h <;> cases h <;> rfl
theorem binS_sc {op : BinOp} {a b : List UInt8} {v : AV} (h : binS op a b = some v) : scHn v = true := by
  cases op <;> simp only [binS] at h <;> first | (cases h; rfl) | (split at h <;> cases h <;> rfl) | cases h
theorem binV_sv {op : BinOp} {x y v : AV} (h : binV op x y = some v) : binV op (sv g x) (sv g y) = some v ∧ scHn v = true := by
  cases x <;> first | (cases h; done) | skip
  · cases y <;> first | (cases h; done) | skip
    refine ⟨h, ?_⟩
    simp only [binV] at h
    split at h
    · exact shI_sc h
    · exact shI_sc h
    · split at h
      · exact binI_sc h
      · cases h
  · cases y <;> first | (cases h; done) | exact ⟨h, binS_sc h⟩
theorem unV_sv {op : UnOp} {x v : AV} (h : unV op x = some v) : unV op (sv g x) = some v ∧ scHn v = true := by
  cases x <;> first | (cases h; done) | skip
  · refine ⟨h, ?_⟩
    cases op <;> simp only [unV] at h <;> cases h <;> rfl
  · refine ⟨h, ?_⟩
    cases op <;> simp only [unV] at h <;> cases h <;> rfl
theorem toByte_sv {x : AV} {b : UInt8} (h : toByte x = some b) : sv g x = x := by cases x <;> first | rfl | cases h
theorem toBytes_sv : ∀ {xs : List AV} {l : List UInt8}, toBytes xs = some l → svL g xs = xs := by
  intro xs
  induction xs with
  | nil => intro l _; rfl
  | cons x xs ih =>
    intro l h
    simp only [toBytes] at h
    split at h
    · rename_i b l' h1 h2
      simp only [svL, toByte_sv h1, ih h2]
    · cases h
theorem runes_sv : ∀ {xs : List AV} {l : List UInt8}, runes xs = some l → svL g xs = xs := by
  intro xs
  induction xs with
  | nil => intro l _; rfl
  | cons x xs ih =>
    intro l h
    cases x <;> first | (cases h; done) | skip
    rename_i k n
    cases k <;> first | (cases h; done) | skip
    simp only [runes] at h
    split at h
    · rename_i l' h1
      simp only [svL, sv, ih h1]
    · cases h
theorem convP_sv {c : Cv} {x v : AV} (h : convP c x = some v) : convP c (sv g x) = some v ∧ scHn v = true := by
  cases x <;> first | (cases c <;> first | (cases h; done) | (cases h; exact ⟨rfl, rfl⟩)) | skip
  rename_i cs n tk
  cases c <;> first | (cases h; done) | skip
  · simp only [convP, sv, svL_len] at h ⊢
    split at h
    · rename_i hl
      rw [if_pos hl]
      cases ht : toBytes cs with
      | none => rw [ht] at h; cases h
      | some l => rw [toBytes_sv ht, ht]; rw [ht] at h; cases h; exact ⟨rfl, rfl⟩
    · cases h
  · simp only [convP, sv, svL_len] at h ⊢
    split at h
    · rename_i hl
      rw [if_pos hl]
      cases ht : runes cs with
      | none => rw [ht] at h; cases h
      | some l => rw [runes_sv ht, ht]; rw [ht] at h; cases h; exact ⟨rfl, rfl⟩
    · cases h
theorem tkCut_sv (size h n : Nat) (tk : Option (Nat × Nat × Nat)) : tkCut size h n (tkR g tk) = tkR g (tkCut size h n tk) := by
  cases tk with
  | none => rfl
  | some p =>
    obtain ⟨t, v, z⟩ := p
    simp only [tkCut, tkR]
    by_cases hh : h = n ∧ z = size
    · rw [if_pos hh, if_pos hh]
    · rw [if_neg hh, if_neg hh]
theorem slcV_sv {size : Nat} {x : AV} {lo hi : Option AV} {v : AV} (h : slcV size x lo hi = some v) : slcV size (sv g x) (lo.map (sv g)) (hi.map (sv g)) = some (sv g v) := by
  cases x <;> first | (cases h; done) | skip
  · simp only [slcV, sv] at h ⊢
    split at h
    · rename_i h1 q1
      rw [bndO_sv q1]
      simp only
      split at h
      · rename_i l1 q2
        rw [bndO_sv q2]
        cases h; rfl
      · cases h
    · cases h
  · simp only [slcV, sv] at h ⊢
    split at h
    · rename_i h1 q1
      rw [bndO_sv q1]
      simp only
      split at h
      · rename_i l1 q2
        rw [bndO_sv q2]
        cases h
        simp only [sv, svL_take, svL_drop, tkCut_sv]
      · cases h
    · cases h
  · simp only [slcV, sv] at h ⊢
    split at h
    · rename_i h1 q1
      rw [bndO_sv q1]
      simp only
      split at h
      · rename_i l1 q2
        rw [bndO_sv q2]
        simp only
        split at h
        · rename_i q3
          rw [if_pos q3]; cases h; rfl
        · cases h
      · cases h
    · cases h
theorem slcS_sv {x : AV} {lo hi : Option AV} {v : AV} (h : slcS x lo hi = some v) : slcS (sv g x) (lo.map (sv g)) (hi.map (sv g)) = some (sv g v) := by
  cases x <;> first | (cases h; done) | skip
  simp only [slcS, sv] at h ⊢
  split at h
  · rename_i h1 q1
    rw [bndO_sv q1]
    simp only
    split at h
    · rename_i l1 q2
      rw [bndO_sv q2]
      cases h; rfl
    · cases h
  · cases h
theorem cut_sv {cs : List AV} {off : Nat} {n : Option Nat} {v : AV} (h : Ab.cut cs off n = some v) : Ab.cut (svL g cs) off n = some (sv g v) := by
  cases n with
  | none =>
    simp only [Ab.cut] at h ⊢
    rw [svL_get, h]; rfl
  | some n =>
    simp only [Ab.cut, svL_len] at h ⊢
    split at h
    · rename_i q
      rw [if_pos q]; cases h
      simp only [sv, svL_take, svL_drop]
    · cases h
theorem lfT_cells (g : Sg) (i : Nat) (cs : List AV) : cellsOf (lfT g (g.L i) cs) = some [lfT g (g.L i) cs] := by
  have := g.ok i
  unfold lfT
  split
  · split
    · rfl
    · cases hq : g.L i <;> rw [hq] at this <;> first | rfl | cases this
  · cases hq : g.L i <;> rw [hq] at this <;> first | rfl | cases this
theorem lfT_freeze (g : Sg) (i : Nat) (cs : List AV) (n : Nat) (s : St) : freeze n s (lfT g (g.L i) cs) = some (lfT g (g.L i) cs, s) := by
  have := g.ok i
  unfold lfT
  split
  · split
    · rfl
    · cases hq : g.L i <;> rw [hq] at this <;> first | rfl | cases this
  · cases hq : g.L i <;> rw [hq] at this <;> first | rfl | cases this
theorem cellsOf_sv {v : AV} {cs : List AV} (h : cellsOf v = some cs) : cellsOf (sv g v) = some (svL g cs) := by
  cases v <;> first | (cases h; done) | (cases h; rfl) | skip
  rename_i f xs
  cases h
  simp only [sv, svL]
  split
  · rfl
  · exact lfT_cells g _ _
theorem fillL_sv : ∀ (vs cells : List AV) (off : Nat), svL g (fillL cells off vs) = fillL (svL g cells) off (svL g vs) := by
  intro vs
  induction vs with
  | nil => intro cells off; rfl
  | cons v vs ih => intro cells off; simp only [fillL, svL, ih, svL_set]
theorem storeL_sv {cs vs cs' : List AV} {o : Nat} (h : storeL cs o vs = some cs') : storeL (svL g cs) o (svL g vs) = some (svL g cs') := by
  simp only [storeL, svL_len] at h ⊢
  split at h
  · rename_i q
    rw [if_pos q]; cases h; rw [fillL_sv]
  · cases h
theorem fill_sv (hgl : ∀ i, plainV (gl i) = true) : ∀ {ps : List (Nat × Nat × Opd)} {cells cs' : List AV}, (ps.all fun p => okO p.2.2) = true → fill gl e cells ps = some cs' → fill gl (svL g e) (svL g cells) ps = some (svL g cs') := by
  intro ps
  induction ps with
  | nil => intro cells cs' _ h; cases h; rfl
  | cons p ps ih =>
    intro cells cs' hp h
    obtain ⟨off, size, x⟩ := p
    rw [List.all_cons, Bool.and_eq_true] at hp
    simp only [fill, opd_sv hgl hp.1] at h ⊢
    split at h
    · rename_i vs hv
      rw [cellsOf_sv hv]
      simp only [svL_len]
      split at h
      · rename_i hl
        rw [if_pos hl]
        split at h
        · rename_i cells' hs
          rw [storeL_sv hs]
          exact ih hp.2 h
        · cases h
      · cases h
    · cases h
theorem mnV_sv {x y v : AV} (h : mnV x y = some v) : mnV (sv g x) (sv g y) = some v ∧ scHn v = true := by
  cases x <;> first | (cases h; done) | skip
  cases y <;> first | (cases h; done) | skip
  refine ⟨h, ?_⟩
  simp only [mnV] at h
  split at h <;> cases h; rfl
theorem mxV_sv {x y v : AV} (h : mxV x y = some v) : mxV (sv g x) (sv g y) = some v ∧ scHn v = true := by
  cases x <;> first | (cases h; done) | skip
  cases y <;> first | (cases h; done) | skip
  refine ⟨h, ?_⟩
  simp only [mxV] at h
  split at h <;> cases h; rfl
theorem foldV_sv {f : AV → AV → Option AV} (hf : ∀ x y v, f x y = some v → f (sv g x) (sv g y) = some v ∧ scHn v = true) : ∀ {xs : List AV} {x v : AV}, foldV f x xs = some v → foldV f (sv g x) (svL g xs) = some (sv g v) := by
  intro xs
  induction xs with
  | nil => intro x v h; cases h; rfl
  | cons y xs ih =>
    intro x v h
    simp only [foldV, svL] at h ⊢
    split at h
    · rename_i z hz
      obtain ⟨h1, h2⟩ := hf _ _ _ hz
      rw [h1]
      have := ih h
      rw [scHn_sv h2] at this
      exact this
    · cases h
/-- Not an unknown. -/
def notLf : AV → Bool
  | .clo f _ => decide (f < bigN)
  | _ => true
theorem evP_sv (hgl : ∀ i, plainV (gl i) = true) {m : MOp} (hm : okOp m = true) (hn : ∀ x, m = .nchk x → notLf (opd gl e x) = true) {v : AV} (h : evP gl e m = some v) : evP gl (svL g e) m = some (sv g v) := by
  cases m with
  | mv x =>
    simp only [evP, opd_sv hgl (x := x) hm] at h ⊢
    cases h; rfl
  | pick c a b =>
    simp only [okOp, Bool.and_eq_true] at hm
    simp only [evP, opd_sv hgl hm.1, opd_sv hgl hm.2.1, opd_sv hgl hm.2.2] at h ⊢
    generalize opd gl e c = cv at h ⊢
    cases cv <;> first | (cases h; done) | skip
    rename_i b
    cases b <;> (cases h; rfl)
  | bin op x y =>
    simp only [okOp, Bool.and_eq_true] at hm
    simp only [evP, opd_sv hgl hm.1, opd_sv hgl hm.2] at h ⊢
    obtain ⟨h1, h2⟩ := binV_sv (g := g) h
    rw [h1, scHn_sv h2]
  | eqv neg q x y =>
    simp only [okOp, Bool.and_eq_true] at hm
    simp only [evP, opd_sv hgl hm.1, opd_sv hgl hm.2] at h ⊢
    split at h
    · rename_i b hb
      rw [eqAV_sv hb]
      cases h; rfl
    · cases h
  | un op x =>
    simp only [evP, opd_sv hgl (x := x) hm] at h ⊢
    obtain ⟨h1, h2⟩ := unV_sv (g := g) h
    rw [h1, scHn_sv h2]
  | conv c x =>
    simp only [evP, opd_sv hgl (x := x) hm] at h ⊢
    obtain ⟨h1, h2⟩ := convP_sv (g := g) h
    rw [h1, scHn_sv h2]
  | mki t x =>
    simp only [evP, opd_sv hgl (x := x) hm] at h ⊢
    cases h; rfl
  | slc size x lo hi =>
    simp only [okOp, Bool.and_eq_true] at hm
    simp only [evP, opd_sv hgl hm.1, opdo_sv hgl hm.2.1, opdo_sv hgl hm.2.2] at h ⊢
    exact slcV_sv h
  | sls x lo hi =>
    simp only [okOp, Bool.and_eq_true] at hm
    simp only [evP, opd_sv hgl hm.1, opdo_sv hgl hm.2.1, opdo_sv hgl hm.2.2] at h ⊢
    exact slcS_sv h
  | lens x =>
    simp only [evP, opd_sv hgl (x := x) hm] at h ⊢
    generalize opd gl e x = a at h ⊢
    cases a <;> first | (cases h; done) | (cases h; rfl)
  | ixs x i =>
    simp only [okOp, Bool.and_eq_true] at hm
    simp only [evP, opd_sv hgl hm.1, opd_sv hgl hm.2] at h ⊢
    generalize opd gl e x = a at h ⊢
    cases a <;> first | (cases h; done) | skip
    simp only [sv] at h ⊢
    split at h
    · rename_i j hj
      rw [idx_sv hj]
      simp only
      split at h
      · cases h; rfl
      · cases h
    · cases h
  | fa off x =>
    simp only [evP, opd_sv hgl (x := x) hm] at h ⊢
    generalize opd gl e x = a at h ⊢
    cases a <;> first | (cases h; done) | (cases h; rfl) | skip
    simp only [sv, svL_len] at h ⊢
    split at h
    · rename_i q
      rw [if_pos q]; cases h; simp only [sv, svL_drop]
    · cases h
  | fld off n x =>
    simp only [evP, opd_sv hgl (x := x) hm] at h ⊢
    generalize opd gl e x = a at h ⊢
    cases a <;> first | (cases h; done) | skip
    exact cut_sv h
  | ixa size x i =>
    simp only [okOp, Bool.and_eq_true] at hm
    simp only [evP, opd_sv hgl hm.1, opd_sv hgl hm.2] at h ⊢
    generalize opd gl e x = a at h ⊢
    cases a <;> first | (cases h; done) | skip
    · simp only [sv] at h ⊢
      split at h
      · rename_i j hj
        rw [idx_sv hj]; cases h; simp only [sv, svL_drop]
      · cases h
    · simp only [sv] at h ⊢
      split at h
      · rename_i j hj
        rw [idx_sv hj]; cases h; rfl
      · cases h
  | ixp len size x i =>
    simp only [okOp, Bool.and_eq_true] at hm
    simp only [evP, opd_sv hgl hm.1, opd_sv hgl hm.2] at h ⊢
    generalize opd gl e x = a at h ⊢
    cases a <;> first | (cases h; done) | skip
    · simp only [sv] at h ⊢
      split at h
      · rename_i j hj
        rw [idx_sv hj]; cases h; rfl
      · cases h
    · simp only [sv, svL_len] at h ⊢
      split at h
      · rename_i j hj
        rw [idx_sv hj]
        simp only
        split at h
        · rename_i q
          rw [if_pos q]; cases h; simp only [sv, svL_drop]
        · cases h
      · cases h
  | ix len size agg x i =>
    simp only [okOp, Bool.and_eq_true] at hm
    simp only [evP, opd_sv hgl hm.1, opd_sv hgl hm.2] at h ⊢
    generalize opd gl e x = a at h ⊢
    cases a <;> first | (cases h; done) | skip
    simp only [sv] at h ⊢
    split at h
    · rename_i j hj
      rw [idx_sv hj]
      exact cut_sv h
    · cases h
  | load n x =>
    simp only [evP, opd_sv hgl (x := x) hm] at h ⊢
    generalize opd gl e x = a at h ⊢
    cases a <;> first | (cases h; done) | skip
    exact cut_sv h
  | nchk x =>
    have hn := hn x rfl
    simp only [evP, opd_sv hgl (x := x) hm] at h ⊢
    generalize opd gl e x = a at h hn ⊢
    cases a <;> first | (cases h; done) | (cases h; rfl) | skip
    rename_i f cs
    cases h
    have hf : f < bigN := of_decide_eq_true hn
    simp only [sv, if_pos hf]
  | tas t z ok x =>
    simp only [okOp, Bool.and_eq_true] at hm
    simp only [evP, opd_sv hgl hm.2] at h ⊢
    generalize opd gl e x = a at h ⊢
    have hz := plain_sv g z hm.1
    cases a <;> first | (cases h; done) | skip
    · simp only [sv] at h ⊢
      cases ok with
      | true => cases h; simp only [sv, svL, hz]; rfl
      | false => cases h
    · rename_i u w
      simp only [sv] at h ⊢
      split at h
      · rename_i q
        rw [if_pos q]; cases h; cases ok <;> rfl
      · rename_i q
        rw [if_neg q]
        cases ok with
        | true => cases h; simp only [sv, svL, hz, if_true]
        | false => cases h
  | ext i x =>
    simp only [evP, opd_sv hgl (x := x) hm] at h ⊢
    generalize opd gl e x = a at h ⊢
    cases a <;> first | (cases h; done) | skip
    simp only [sv] at h ⊢
    rw [svL_get, h]; rfl
  | len x =>
    simp only [evP, opd_sv hgl (x := x) hm] at h ⊢
    generalize opd gl e x = a at h ⊢
    cases a <;> first | (cases h; done) | (cases h; rfl)
  | mn args =>
    simp only [evP, opds_sv hgl (l := args) hm] at h ⊢
    generalize args.map (opd gl e) = l at h ⊢
    cases l with
    | nil => cases h
    | cons x xs =>
      simp only [svL] at h ⊢
      split at h
      · rename_i q
        rw [if_pos (by cases x <;> first | rfl | cases q)]
        exact foldV_sv (fun x y v hh => mnV_sv hh) h
      · cases h
  | mx args =>
    simp only [evP, opds_sv hgl (l := args) hm] at h ⊢
    generalize args.map (opd gl e) = l at h ⊢
    cases l with
    | nil => cases h
    | cons x xs =>
      simp only [svL] at h ⊢
      split at h
      · rename_i q
        rw [if_pos (by cases x <;> first | rfl | cases q)]
        exact foldV_sv (fun x y v hh => mxV_sv hh) h
      · cases h
  | build zs ps =>
    simp only [okOp, Bool.and_eq_true] at hm
    simp only [evP] at h ⊢
    cases hf : fill gl e zs ps with
    | none => rw [hf] at h; cases h
    | some cs =>
      rw [hf] at h
      have := fill_sv (g := g) hgl hm.2 hf
      rw [plain_svL g zs hm.1] at this
      rw [this]
      cases h; rfl
  | mkc f cs =>
    simp only [okOp, Bool.and_eq_true] at hm
    simp only [evP, opds_sv hgl (l := cs) hm.2] at h ⊢
    cases h
    simp only [sv, if_pos (of_decide_eq_true hm.1)]
  | call _ _ => cases h
  | callv _ _ => cases h
  | store _ _ _ => cases h
  | app _ _ _ _ _ => cases h
  | bsl _ _ _ _ _ => cases h
  | bsi _ _ _ _ => cases h
  | alloc _ => cases h
  | box _ => cases h
  | mks _ _ _ _ _ => cases h
  | cpy _ _ _ => cases h
  | rng _ => cases h
  | nxt _ => cases h
end
end Go.Ab
