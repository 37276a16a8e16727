/- The evaluator's operations on values answer as the machine's do, continued: parts, fields, literals, least and greatest. No conditions. -/
import Derived.Test.YtbeimfhodgmjhaaDoorAb6
set_option linter.unusedSimpArgs false
set_option linter.unusedVariables false
namespace Go.Ab
open Go

section
variable {P : Program} {G : Gh} {w : World}

/-! ### Zero values and constants -/
theorem toAV_rel {v : Value} {x : AV} (h : toAV v = some x) : RelV G x v ∧ v.oneCell' = true := by
  unfold toAV at h
  split at h <;> cases h
  · exact ⟨.bool _, rfl⟩
  · exact ⟨.int _ _, rfl⟩
  · exact ⟨.str _, rfl⟩
  · exact ⟨.nilp, rfl⟩
  · exact ⟨.nils, rfl⟩
  · exact ⟨.nili, rfl⟩
theorem toAVs_rel {vs : List Value} {xs : List AV} (h : toAVs vs = some xs) : RelL G xs vs := by
  induction vs generalizing xs with
  | nil => simp only [toAVs] at h; cases h; exact .nil
  | cons v vs ih =>
    simp only [toAVs] at h
    split at h
    · rename_i x xs' h1 h2
      cases h
      obtain ⟨r, o⟩ := toAV_rel (G := G) h1
      exact .cons _ _ _ _ r o (ih h2)
    · cases h
theorem toAVa_rel {v : Value} {x : AV} (h : toAVa v = some x) : RelV G x v := by
  unfold toAVa at h
  split at h
  · rename_i cs
    obtain ⟨xs, h1, rfl⟩ := Option.map_eq_some_iff.1 h
    exact .agg _ _ (toAVs_rel h1)
  · exact (toAV_rel h).1
theorem toAVa_cells {v : Value} {x : AV} (h : toAVa v = some x) : RelL G (zcells x) v.cells.toList := by
  unfold toAVa at h
  split at h
  · rename_i cs
    obtain ⟨xs, h1, rfl⟩ := Option.map_eq_some_iff.1 h
    exact toAVs_rel h1
  · rename_i hn
    obtain ⟨r, o⟩ := toAV_rel (G := G) h
    have e1 : v.cells.toList = [v] := by cases v <;> first | rfl | exact absurd rfl (hn _)
    have e2 : zcells x = [x] := by
      unfold toAV at h
      split at h <;> cases h <;> rfl
    rw [e1, e2]
    exact .one r o
theorem cellsOf_rel {x : AV} {v : Value} {cs : List AV} (h : cellsOf x = some cs) (r : RelV G x v) : RelL G cs v.cells.toList := by
  cases r <;> (try simp only [cellsOf] at h) <;> try (cases h; done)
  case agg hl => cases h; exact hl
  all_goals
    cases h
    refine .one ?_ rfl
    first
      | exact .bool _ | exact .int _ _ | exact .str _ | exact .nilp | exact .ptr _ _ _ ‹_› | exact .rp _ _ _ _ ‹_› ‹_› | exact .nils | exact .sl _ _ _ _ _ _ _ ‹_› ‹_› ‹_› ‹_› ‹_› | exact .hs _ _ _ _ _ _ _ ‹_› ‹_› ‹_› ‹_› ‹_› | exact .nili | exact .iface _ _ _ ‹_›

/-! ### Parts -/
theorem isAg_run {t : TypeId} {b : Bool} (h : isAg P t = some b) : (isAgg t).run P w = .ok b w := by
  unfold isAg at h
  split at h
  · rename_i hu; cases h; simp [isAgg, run_underlying hu]
  · rename_i hu; cases h; simp [isAgg, run_underlying hu]
  · rename_i d h1 h2 hu
    cases h
    exact run_isAgg_of hu (fun fs e => h1 fs e) (fun n e q => h2 n e q)
  · cases h
theorem szOf_run {t : TypeId} {n : Nat} (h : szOf P t = some n) : (Go.sizeOf t).run P w = .ok n w := by
  unfold szOf at h
  obtain ⟨i, hi, rfl⟩ := Option.map_eq_some_iff.1 h
  simp [Go.sizeOf, typeInfo, hi]
theorem cellsN_cases {t : TypeId} {n : Option Nat} (h : cellsN P t = some n) : (∃ k, n = some k ∧ isAg P t = some true ∧ szOf P t = some k) ∨ (n = none ∧ isAg P t = some false ∧ szOf P t = some 1) := by
  unfold cellsN at h
  split at h
  · rename_i k h1 h2; cases h; exact .inl ⟨k, rfl, h1, h2⟩
  · rename_i h1 h2; cases h; exact .inr ⟨rfl, h1, h2⟩
  · cases h
theorem part_sound {t : TypeId} {n : Option Nat} {cs : List AV} {V : Array Value} {off : Nat} {v : AV} (hn : cellsN P t = some n) (hc : cut cs off n = some v) (hl : RelL G cs V.toList) :
    ∃ v', (part t V off).run P w = .ok v' w ∧ RelV G v v' := by
  rcases cellsN_cases hn with ⟨k, rfl, h1, h2⟩ | ⟨rfl, h1, h2⟩
  · simp only [cut] at hc
    split at hc
    · cases hc
      refine ⟨.agg (V.extract off (off + k)), by simp [part, isAg_run h1, szOf_run h2], .agg _ _ ?_⟩
      have : (V.extract off (off + k)).toList = (V.toList.drop off).take k := by simp [List.drop_take]
      rw [this]; exact (hl.drop _).take _
    · cases hc
  · simp only [cut] at hc
    obtain ⟨u, hu, r, _⟩ := hl.get hc
    have hu' : V[off]? = some u := by simpa using hu
    exact ⟨u, by simp [part, isAg_run h1, hu'], r⟩
theorem loadVar_sound {t : TypeId} {n : Option Nat} {cs : List AV} {vs : List Value} {g o0 o : Nat} {v : AV} (hn : cellsN P t = some n) (hc : cut cs o n = some v) (hl : RelL G cs vs)
    (hr : ∀ j u, vs[j]? = some u → w.cell? ⟨g, o0 + j, none⟩ = some u) :
    ∃ v', (loadVar t ⟨g, o0 + o, none⟩).run P w = .ok v' w ∧ RelV G v v' := by
  rcases cellsN_cases hn with ⟨k, rfl, h1, h2⟩ | ⟨rfl, h1, h2⟩
  · simp only [cut] at hc
    split at hc
    · rename_i hk
      cases hc
      have hlen : ((vs.drop o).take k).length = k := by rw [List.length_take, List.length_drop, ← hl.length]; omega
      have hld := run_loadCells_list (P := P) w ⟨g, o0 + o, none⟩ ((vs.drop o).take k) (fun j u hu => by
        rw [addr_add]
        rw [List.getElem?_take] at hu
        split at hu
        · rw [List.getElem?_drop] at hu
          have := hr _ _ hu
          rw [show o0 + o + j = o0 + (o + j) by omega]; exact this
        · cases hu)
      rw [hlen] at hld
      refine ⟨.agg ((vs.drop o).take k).toArray, by simp [loadVar, isAg_run h1, szOf_run h2, hld], .agg _ _ ?_⟩
      simpa using (hl.drop o).take k
    · cases hc
  · simp only [cut] at hc
    obtain ⟨u, hu, r, _⟩ := hl.get hc
    refine ⟨u, ?_, r⟩
    simp [loadVar, isAg_run h1, run_load, hr _ _ hu]

/-! ### Literals -/
def fillV (cells : List Value) (off : Nat) : List Value → List Value
  | [] => cells
  | v :: vs => fillV (cells.set off v) (off + 1) vs
theorem fillL_rel {as : List AV} {us : List Value} {xs : List AV} {vs : List Value} (off : Nat) (h : RelL G as us) (k : RelL G xs vs) : RelL G (fillL as off xs) (fillV us off vs) := by
  induction xs generalizing as us vs off with
  | nil => cases k; exact h
  | cons x xs ih => cases k with | cons _ v _ vs r o t => exact ih _ (h.set off r o) t
theorem fillL_length (as : List AV) (off : Nat) (xs : List AV) : (fillL as off xs).length = as.length := by
  induction xs generalizing as off with
  | nil => rfl
  | cons x xs ih => simp only [fillL]; rw [ih, List.length_set]
theorem fillV_length (as : List Value) (off : Nat) (xs : List Value) : (fillV as off xs).length = as.length := by
  induction xs generalizing as off with
  | nil => rfl
  | cons x xs ih => simp only [fillV]; rw [ih, List.length_set]
theorem fold_fill (l : List Value) : ∀ (k off : Nat) (cells : Array Value), ((l.zipIdx k).foldl (fun cs (x : Value × Nat) => cs.setIfInBounds (off + x.2) x.1) cells).toList = fillV cells.toList (off + k) l := by
  induction l with
  | nil => intro k off cells; rfl
  | cons v vs ih =>
    intro k off cells
    simp only [List.zipIdx_cons, List.foldl_cons, ih, fillV, Array.toList_setIfInBounds]
    rw [Nat.add_assoc]

/-- What is known of the frame: its slots; the package-level variables. -/
structure RelE (G : Gh) (gl : Nat → AV) (e : Env) (a : Act) : Prop where
  at_ : ∀ i, RelV G (e.at i) (a.tmps.getD i undef)
  size : e.length = a.tmps.size
  glob : ∀ g, RelV G (gl g) (.pointer (some ⟨g, 0, none⟩))
theorem RelE.mono0 {gl : Nat → AV} {e : Env} {a : Act} {G' : Gh} (h : RelE G gl e a) (hG : G.le0 G') : RelE G' gl e a := ⟨fun i => (h.at_ i).mono0 hG, h.size, fun g => (h.glob g).mono0 hG⟩
theorem RelE.mono {gl : Nat → AV} {e : Env} {a : Act} {G' : Gh} (h : RelE G gl e a) (hG : G.le G') : RelE G' gl e a := ⟨fun i => (h.at_ i).mono hG, h.size, fun g => (h.glob g).mono hG⟩
theorem RelE.opd {gl : Nat → AV} {e : Env} {a : Act} (h : RelE G gl e a) {o : Operand} {m : Opd} (hc : cOpd o = some m) : RelV G (opd gl e m) (a.eval o) := by
  cases o <;> simp only [cOpd] at hc
  · cases hc; exact h.at_ _
  · obtain ⟨x, hx, rfl⟩ := Option.map_eq_some_iff.1 hc
    exact toAVa_rel hx
  · cases hc; exact h.glob _
  · cases hc
theorem RelE.put {gl : Nat → AV} {e : Env} {a : Act} (h : RelE G gl e a) (d : Option Nat) {v : AV} {v' : Value} (hv : RelV G v v') : RelE G gl (e.put d v) (a.put d v') := by
  cases d with
  | none => exact h
  | some d =>
    refine ⟨fun i => ?_, by simp [Env.put, Act.put, h.size], h.glob⟩
    have hi := h.at_ i
    simp only [Env.at, Env.put, Act.put, List.getD_eq_getElem?_getD, Array.getD_eq_getD_getElem?] at hi ⊢
    rw [List.getElem?_set, Array.getElem?_setIfInBounds]
    by_cases e' : d = i
    · subst e'
      by_cases hd : d < a.tmps.size
      · have hd' : d < List.length e := by rw [h.size]; exact hd
        simp [hd, hd', hv]
      · have hd' : ¬ d < List.length e := by rw [h.size]; exact hd
        simp [hd, hd']
        exact .undef _
    · simp [e', hi]
theorem RelE.mask {gl : Nat → AV} {e : Env} {a : Act} (h : RelE G gl e a) (l : List Bool) : RelE G gl (maskE l e) a := by
  have hlen : ∀ (l : List Bool) (e : Env), (maskE l e).length = List.length e := by
    intro l
    induction l with
    | nil => intro e; cases e <;> rfl
    | cons b bs ih => intro e; cases e with
      | nil => rfl
      | cons v vs => simp [maskE, ih]
  have hat : ∀ (l : List Bool) (e : Env) (i : Nat), Env.at (maskE l e) i = e.at i ∨ Env.at (maskE l e) i = .undef := by
    intro l
    induction l with
    | nil => intro e i; cases e <;> exact .inl rfl
    | cons b bs ih => intro e i; cases e with
      | nil => exact .inl rfl
      | cons v vs =>
        cases i with
        | zero => cases b <;> simp [maskE, Env.at]
        | succ i => simpa [maskE, Env.at] using ih vs i
  refine ⟨fun i => ?_, by rw [hlen, h.size], h.glob⟩
  rcases hat l e i with q | q <;> rw [q]
  · exact h.at_ i
  · exact .undef _

theorem fill_sound {gl : Nat → AV} {e : Env} {a : Act} (hE : RelE G gl e a) (place : Nat → Option (Nat × Nat)) : ∀ (parts : List (Nat × Operand)) (ps : List (Nat × Nat × Opd)) (cells cells' : List AV) (V : Array Value),
    cParts place parts = some ps → fill gl e cells ps = some cells' → RelL G cells V.toList →
    ∃ V' : Array Value, Instr.fill place V (parts.map fun x => (x.1, a.eval x.2)) = some V' ∧ RelL G cells' V'.toList ∧ V'.size = V.size
  | [], ps, cells, cells', V, hp, hf, hl => by
    simp only [cParts] at hp
    cases hp
    simp only [fill] at hf
    cases hf
    exact ⟨V, rfl, hl, rfl⟩
  | (i, x) :: parts, ps, cells, cells', V, hp, hf, hl => by
    simp only [cParts] at hp
    split at hp
    · rename_i off size y l h1 h2 h3
      cases hp
      simp only [fill] at hf
      split at hf
      · rename_i vs hvs
        split at hf
        · rename_i hsz
          split at hf
          · rename_i cells1 hst
            have hr := cellsOf_rel hvs (hE.opd h2)
            unfold storeL at hst
            split at hst
            · rename_i hfit
              cases hst
              have hvl : (a.eval x).cells.size = size := by have := hr.length; simp at this; omega
              have hcl : cells.length = V.size := by have := hl.length; simpa using this
              have hstep : ((a.eval x).cells.zipIdx.foldl (fun cs (x : Value × Nat) => cs.setIfInBounds (off + x.2) x.1) V).toList = fillV V.toList off (a.eval x).cells.toList := by
                rw [← Array.foldl_toList, Array.toList_zipIdx, fold_fill]; rfl
              obtain ⟨V', e1, e2, e3⟩ := fill_sound hE place parts l _ cells' ((a.eval x).cells.zipIdx.foldl (fun cs (x : Value × Nat) => cs.setIfInBounds (off + x.2) x.1) V) h3 hf (by rw [hstep]; exact fillL_rel off hl hr)
              have hss : ((a.eval x).cells.zipIdx.foldl (fun cs (x : Value × Nat) => cs.setIfInBounds (off + x.2) x.1) V).size = V.size := by
                rw [← Array.length_toList, hstep, fillV_length, Array.length_toList]
              refine ⟨V', ?_, e2, e3.trans hss⟩
              rw [← e1]
              simp only [List.map_cons, Instr.fill, h1]
              have hn1 : ¬ ((a.eval x).cells.size ≠ size) := by omega
              have hn2 : ¬ (off + (a.eval x).cells.size > V.size) := by omega
              simp [hn1, hn2]
            · cases hst
          · cases hf
        · cases hf
      · cases hf
    · cases hp

theorem rep_get {α : Type} (l : List α) : ∀ (len i : Nat), i < len * l.length → ((List.replicate len l).flatten)[i]? = l[i % l.length]?
  | 0, i, h => by simp at h
  | len + 1, i, h => by
    rw [List.replicate_succ, List.flatten_cons]
    by_cases hi : i < l.length
    · rw [List.getElem?_append_left hi, Nat.mod_eq_of_lt hi]
    · have hi' : l.length ≤ i := by omega
      rw [List.getElem?_append_right hi', rep_get l len (i - l.length) (by rw [Nat.add_mul] at h; omega)]
      congr 1
      exact (Nat.mod_eq_sub_mod hi').symm
theorem rep_cells (z : Array Value) (len : Nat) (hz : 0 < z.size) : ((Array.range (len * z.size)).map (z[· % z.size]!)).toList = (List.replicate len z.toList).flatten := by
  apply List.ext_getElem?
  intro i
  by_cases hi : i < len * z.size
  · have h1 := rep_get z.toList len i (by simpa using hi)
    rw [h1]
    have hm : i % z.size < z.size := Nat.mod_lt _ hz
    simp [hi, hm]
  · have h2 : ((List.replicate len z.toList).flatten).length = len * z.size := by simp [List.length_flatten]
    rw [List.getElem?_eq_none (by simp; omega), List.getElem?_eq_none (by rw [h2]; omega)]
theorem rep_rel {zs : List AV} {vs : List Value} (h : RelL G zs vs) : ∀ len, RelL G (List.replicate len zs).flatten (List.replicate len vs).flatten
  | 0 => .nil
  | len + 1 => by rw [List.replicate_succ, List.replicate_succ, List.flatten_cons, List.flatten_cons]; exact h.append (rep_rel h len)

/-! ### Least and greatest -/
theorem mnV_sound {x y v : AV} {x' y' : Value} (h : mnV x y = some v) (hx : RelV G x x') (hy : RelV G y y') : ∃ v', (Builtin.min2 x' y').run P w = .ok v' w ∧ RelV G v v' := by
  cases hx <;> (try simp only [mnV] at h) <;> try (cases h; done)
  cases hy <;> (try simp only [mnV] at h) <;> try (cases h; done)
  split at h
  · cases h; exact ⟨_, rfl, .int _ _⟩
  · cases h
theorem mxV_sound {x y v : AV} {x' y' : Value} (h : mxV x y = some v) (hx : RelV G x x') (hy : RelV G y y') : ∃ v', (Builtin.max2 x' y').run P w = .ok v' w ∧ RelV G v v' := by
  cases hx <;> (try simp only [mxV] at h) <;> try (cases h; done)
  cases hy <;> (try simp only [mxV] at h) <;> try (cases h; done)
  split at h
  · cases h; exact ⟨_, rfl, .int _ _⟩
  · cases h
theorem RelE.opds {gl : Nat → AV} {e : Env} {a : Act} (h : RelE G gl e a) {l : List Operand} {ms : List Opd} (hc : cOpds l = some ms) : RelT G (ms.map (Ab.opd gl e)) (l.map a.eval) := by
  induction l generalizing ms with
  | nil => simp only [cOpds] at hc; cases hc; exact .nil
  | cons x xs ih =>
    simp only [cOpds] at hc
    split at hc
    · rename_i m ms' h1 h2
      cases hc
      exact .cons _ _ _ _ (h.opd h1) (ih h2)
    · cases hc
theorem foldV_sound {f : AV → AV → Option AV} {f' : Value → Value → Sem Value} (hf : ∀ x y v x' y', f x y = some v → RelV G x x' → RelV G y y' → ∃ v', (f' x' y').run P w = .ok v' w ∧ RelV G v v') :
    ∀ {ys : List AV} {us : List Value} {x : AV} {x' : Value} {v : AV}, foldV f x ys = some v → RelV G x x' → RelT G ys us → ∃ v', (us.foldlM f' x').run P w = .ok v' w ∧ RelV G v v' := by
  intro ys
  induction ys with
  | nil =>
    intro us x x' v h hx hr
    cases hr
    simp only [foldV] at h
    cases h
    exact ⟨x', by simp, hx⟩
  | cons y ys ih =>
    intro us x x' v h hx hr
    cases hr with
    | cons _ u _ us r t =>
      simp only [foldV] at h
      split at h
      · rename_i z hz
        obtain ⟨z', h1, h2⟩ := hf _ _ _ _ _ hz hx r
        obtain ⟨v', h3, h4⟩ := ih h h2 t
        exact ⟨v', by simp [List.foldlM_cons, h1, h3], h4⟩
      · cases h

end
end Go.Ab
