/- How the relation follows the machine's memory, continued: rows that never turn, blocks that change their name, iterators. No conditions. -/
import Derived.Test.YtbeimfhodgmjhaaDoorAb8
set_option linter.unusedSimpArgs false
set_option linter.unusedVariables false
namespace Go.Ab
open Go

section
variable {G : Gh} {w0 : World} {s : St} {w : World}

/-- A row in a block of its own that never turns. -/
theorem RelS.newImm (h : RelS G w0 s w) (cs : List AV) (cur : Array Value) (E : TypeId) (fr : Nat × Nat) (vs : List Value)
    (hc : RelL G cs vs) (ht : cur.toList.take cs.length = vs) :
    ∃ G', G.le G' ∧ (∀ j v, vs[j]? = some v → G'.imm w.heap.size j = some v) ∧ RelS G' w0 s (w.alloc (.cells cur E fr)) := by
  obtain ⟨pl, h⟩ := h
  have hle := Gh.more_le G w.heap.size 0 vs (fun o _ => h.imm_new o) h.base
  refine ⟨_, hle, fun j v hv => by have := Gh.more_at G w.heap.size 0 vs j v hv; rwa [Nat.zero_add] at this, pl, ?_⟩
  refine ⟨h.below.alloc h.base _, Nat.le_trans h.base (by simp), fun g o v hi => ?_, h.fresh, fun b o hb hd => ?_, h.apart, h.tkV, h.resV⟩
  · by_cases hg : g = w.heap.size
    · subst hg
      by_cases ho : o < vs.length
      · have hv : vs[o]? = some v := by simpa [Gh.more, ho] using hi
        refine ⟨?_, hc.mem v (List.mem_of_getElem? hv)⟩
        rw [← ht, List.getElem?_take] at hv
        split at hv
        · simp only [World.cell?, World.alloc, Array.getElem?_push_size]
          simpa using hv
        · cases hv
      · rw [Gh.more_beyond _ _ _ _ (by omega), h.imm_new] at hi
        cases hi
    · rw [Gh.more_other _ _ _ _ hg] at hi
      obtain ⟨h1, h2⟩ := h.imm g o v hi
      exact ⟨by rw [cell_of_heap (heap_alloc_lt w _ (h.imm_lt hi))]; exact h1, h2⟩
  · obtain ⟨h1, h2⟩ := h.at_ b o hb hd
    have := h2.lt hd.1
    exact ⟨h1, h2.keep hle (heap_alloc_lt w _ this) (fun o => Gh.more_other _ _ _ _ (by omega) o)⟩

/-- A block that goes on under a new name, its cells written. -/
theorem RelS.rehome (h : RelS G w0 s w) {b sz : Nat} {cs : List AV} (hb : s.get b = some (.cells sz cs)) (hres : G.res b = false) :
    ∃ g cur E vs, G.rho b = some g ∧ G.lim b = some (sz, cur.size) ∧ w.heap[g]? = some (.cells cur E (0, 0)) ∧ RelL G cs vs ∧ cs.length ≤ cur.size ∧ cur.toList.take cs.length = vs ∧
      ∀ (cs' : List AV) (us : List Value) (cur' : Array Value), RelL G cs' us → cur'.size = cur.size → cs'.length ≤ cur.size → cur'.toList.take cs'.length = us →
      ∃ G', G.le G' ∧ G'.rho s.next = some g ∧ G'.lim s.next = some (sz, cur.size) ∧ RelS G' w0 ((s.upd b .dead).new (.cells sz cs')) (w.setRow g cur') := by
  obtain ⟨pl, h⟩ := h
  obtain ⟨hbase, hr, cur, E, vs, e1, e2, e3, e4, e5, e6⟩ := h.at_ b _ hb ⟨by simp, hres⟩
  refine ⟨pl b, cur, E, vs, hr, e2, e1, e3, e4, e5, fun cs' us cur' hu hsz hfit htk => ?_⟩
  obtain ⟨f1, f2, f3, f4⟩ := h.fresh s.next (Nat.le_refl _)
  have hle := Gh.cellsAt_le G s.next (pl b) sz cur.size f2 f3
  have hgs := setRow_heap w (pl b) cur cur' E _ e1
  have hbn : b ≠ s.next := fun e => by subst e; rw [hb] at f1; cases f1
  refine ⟨G.cellsAt s.next (pl b) sz cur.size, hle, by simp [Gh.cellsAt], by simp [Gh.cellsAt], fun c => if c = s.next then pl b else pl c, ?_⟩
  have live : ∀ {c : Nat} {q : Obj}, c ≠ s.next → ((s.upd b .dead).new (.cells sz cs')).get c = some q → q ≠ .dead → c ≠ b ∧ s.get c = some q := by
    intro c q hc hq hd
    rw [St.get_new_ne _ _ (by exact hc)] at hq
    have : c ≠ b := fun e => by subst e; rw [St.get_upd_same _ _ hb] at hq; cases hq; exact hd rfl
    rw [St.get_upd_ne _ _ this] at hq
    exact ⟨this, hq⟩
  have snew : ((s.upd b .dead).new (.cells sz cs')).get s.next = some (.cells sz cs') := St.get_new_same (s.upd b .dead) _
  refine ⟨below_setRow h.below hbase _, by rw [size_setRow]; exact h.base, fun g' o' x hi => ?_, fun c hc => ?_, fun c q hc hd => ?_, fun c d q r hc hd hq hr' hp => ?_, fun c v' T' hT sz' u hc => ?_, fun c hc0 => ?_⟩
  · obtain ⟨h1, h2⟩ := h.imm g' o' x hi
    have hg : g' ≠ pl b := fun e => by
      subst e
      have hx : G.imm (pl b) o' = some x := hi
      rw [e6] at hx; cases hx
    exact ⟨by rw [cell_setRow_other w _ _ _ hg]; exact h1, h2⟩
  · have hc' : s.next + 1 ≤ c := hc
    obtain ⟨g1, g2, g3, g4⟩ := h.fresh c (by omega)
    have hne : c ≠ s.next := by omega
    have hne' : c ≠ b := fun e => by subst e; rw [hb] at g1; cases g1
    exact ⟨by rw [St.get_new_ne _ _ (by exact hne), St.get_upd_ne _ _ hne']; exact g1, by simp [Gh.cellsAt, hne, g2], by simp [Gh.cellsAt, hne, g3], g4⟩
  · by_cases e : c = s.next
    · subst e
      rw [snew] at hc
      cases hc
      simp only [if_true]
      exact ⟨hbase, by simp [Gh.cellsAt], cur', E, us, hgs, by simp [Gh.cellsAt, hsz], hu.mono hle, by rw [hsz]; exact hfit, htk, fun o => e6 o⟩
    · obtain ⟨hcb, hq⟩ := live e hc hd.1
      simp only [e, if_false]
      obtain ⟨h1, h2⟩ := h.at_ c q hq hd
      have hne : pl c ≠ pl b := fun hx => hcb (h.apart c b q _ hq hb hd ⟨by simp, hres⟩ hx)
      exact ⟨h1, h2.keep hle (setRow_other w _ _ _ hne) (fun o => rfl)⟩
  · by_cases e : c = s.next <;> by_cases e' : d = s.next
    · rw [e, e']
    · subst e
      obtain ⟨hdb, hq'⟩ := live e' hd hr'.1
      simp only [if_true, e', if_false] at hp
      exact absurd (h.apart d b r _ hq' hb hr' ⟨by simp, hres⟩ hp.symm) hdb
    · subst e'
      obtain ⟨hcb, hq'⟩ := live e hc hq.1
      simp only [if_true, e, if_false] at hp
      exact absurd (h.apart c b q _ hq' hb hq ⟨by simp, hres⟩ hp) hcb
    · obtain ⟨_, hq1⟩ := live e hc hq.1
      obtain ⟨_, hq2⟩ := live e' hd hr'.1
      simp only [e, e', if_false] at hp
      exact h.apart c d q r hq1 hq2 hq hr' hp
  · by_cases e : c = s.next
    · subst e; rw [snew] at hc; cases hc
    · obtain ⟨_, hq⟩ := live e hc (by simp)
      exact h.tkV c v' T' hT sz' u hq
  · obtain ⟨g1, g2, g3, g4⟩ := h.resV c hc0
    have hne : c ≠ s.next := by omega
    exact ⟨Nat.lt_succ_of_lt g1, by simp [Gh.cellsAt, hne, g2], by simp [Gh.cellsAt, hne, g3], g4⟩

theorem heap_set_ne (h : Array Go.Obj) (g k : Nat) (o : Go.Obj) (hk : k ≠ g) : (h.setIfInBounds g o)[k]? = h[k]? := by simp [Array.getElem?_setIfInBounds, Ne.symm hk]
theorem heap_set_same (h : Array Go.Obj) (g : Nat) (o : Go.Obj) (hk : g < h.size) : (h.setIfInBounds g o)[g]? = some o := by simp [Array.getElem?_setIfInBounds, hk]

/-- A block whose ticket is given up may be marked. -/
theorem RelS.markKill (h : RelS G w0 s w) {b sz v : Nat} (hb : s.get b = some (.tick sz v)) {T : Tk} (hT : G.tk b v = some T) (cur : Array Value) (E : TypeId) (fr : Nat × Nat)
    (hg : w.heap[T.g]? = some (.cells cur E (0, 0))) (w' : World) (hw : w'.heap = w.heap.setIfInBounds T.g (.cells cur E fr)) (ho : w'.os = w.os) (htp : w'.tape = w.tape) (hout : w'.output = w.output) : RelS G w0 (s.upd b .dead) w' := by
  obtain ⟨pl, h⟩ := h
  have hres := h.resT hT
  obtain ⟨hbase, T', cur', E', e1, e2, _⟩ := h.at_ b _ hb ⟨by simp, hres⟩
  rw [hT] at e1
  cases e1
  have hlt : T.g < w.heap.size := (Array.getElem?_eq_some_iff.1 hg).1
  refine ⟨pl, ⟨ho.trans h.below.os, htp.trans h.below.tape, hout.trans h.below.output, by rw [hw, Array.size_setIfInBounds]; exact h.below.size, fun k hk => ?_⟩, by rw [hw, Array.size_setIfInBounds]; exact h.base, fun g' o' x hi => ?_, fun c hc => ?_, fun c q hc hd => ?_, fun c d q r hc hd hq hr hp => ?_, fun c v' T' hT' sz' u hc => ?_, fun c hc0 => ?_⟩
  · rw [hw, heap_set_ne _ _ _ _ (by rw [e2]; omega)]
    exact h.below.block k hk
  · obtain ⟨h1, h2⟩ := h.imm g' o' x hi
    refine ⟨?_, h2⟩
    by_cases e : g' = T.g
    · subst e
      simp only [World.cell?, hw, heap_set_same _ _ _ hlt]
      simpa [World.cell?, hg] using h1
    · simp only [World.cell?, hw, heap_set_ne _ _ _ _ e]
      simpa [World.cell?] using h1
  · obtain ⟨g1, g2, g3, g4⟩ := h.fresh c hc
    have hne : c ≠ b := fun e => by subst e; rw [hb] at g1; cases g1
    exact ⟨by rw [St.get_upd_ne _ _ hne]; exact g1, g2, g3, g4⟩
  · by_cases e : c = b
    · subst e
      rw [St.get_upd_same _ _ hb] at hc
      cases hc
      exact absurd rfl hd.1
    · rw [St.get_upd_ne _ _ e] at hc
      obtain ⟨h1, h2⟩ := h.at_ c q hc hd
      have hne : pl c ≠ T.g := fun hx => e (h.apart c b q _ hc hb hd ⟨by simp, hres⟩ (by rw [hx, e2]))
      exact ⟨h1, h2.keep (Gh.le_refl G) (by rw [hw, heap_set_ne _ _ _ _ hne]) (fun o => rfl)⟩
  · by_cases e : c = b
    · subst e; rw [St.get_upd_same _ _ hb] at hc; cases hc; exact absurd rfl hq.1
    · by_cases e' : d = b
      · subst e'; rw [St.get_upd_same _ _ hb] at hd; cases hd; exact absurd rfl hr.1
      · rw [St.get_upd_ne _ _ e] at hc; rw [St.get_upd_ne _ _ e'] at hd
        exact h.apart c d q r hc hd hq hr hp
  · by_cases e : c = b
    · subst e; rw [St.get_upd_same _ _ hb] at hc; cases hc
    · rw [St.get_upd_ne _ _ e] at hc
      exact h.tkV c v' T' hT' sz' u hc
  · exact h.resV c hc0

/-- A new iterator over a text. -/
theorem RelS.newIter (h : RelS G w0 s w) (str : ByteArray) :
    ∃ G', G.le G' ∧ G'.rho s.next = some w.heap.size ∧ RelS G' w0 (s.new (.iter str.data.toList 0)) (w.alloc (.stringIter str 0)) := by
  obtain ⟨pl, h⟩ := h
  obtain ⟨f1, f2, f3, f4⟩ := h.fresh s.next (Nat.le_refl _)
  have hle := Gh.cellsAt_le G s.next w.heap.size 0 0 f2 f3
  refine ⟨G.cellsAt s.next w.heap.size 0 0, hle, by simp [Gh.cellsAt], fun b => if b = s.next then w.heap.size else pl b, ?_⟩
  refine ⟨h.below.alloc h.base _, Nat.le_trans h.base (by simp), fun g o v hi => ?_, fun b hb => ?_, fun b o hb hd => ?_, fun b c o q hb hc' ho hq hp => ?_, fun b v T hT sz' u hb => ?_, fun c hc0 => ?_⟩
  · obtain ⟨h1, h2⟩ := h.imm g o v hi
    exact ⟨by rw [cell_of_heap (heap_alloc_lt w _ (h.imm_lt hi))]; exact h1, h2⟩
  · have hb' : s.next + 1 ≤ b := hb
    obtain ⟨g1, g2, g3, g4⟩ := h.fresh b (by omega)
    have hne : b ≠ s.next := by omega
    exact ⟨by rw [St.get_new_ne _ _ hne]; exact g1, by simp [Gh.cellsAt, hne, g2], by simp [Gh.cellsAt, hne, g3], g4⟩
  · by_cases e : b = s.next
    · subst e
      rw [St.get_new_same] at hb
      cases hb
      simp only [if_true]
      exact ⟨h.base, by simp [Gh.cellsAt], str, rfl, heap_alloc_new w _, fun o => h.imm_new o⟩
    · rw [St.get_new_ne _ _ e] at hb
      simp only [e, if_false]
      obtain ⟨h1, h2⟩ := h.at_ b o hb hd
      exact ⟨h1, h2.keep hle (heap_alloc_lt w _ (h2.lt hd.1)) (fun _ => rfl)⟩
  · by_cases e : b = s.next <;> by_cases e' : c = s.next
    · rw [e, e']
    · subst e
      rw [St.get_new_ne _ _ e'] at hc'
      simp only [if_true, e', if_false] at hp
      exact absurd (h.pl_lt hc' hq) (by omega)
    · subst e'
      rw [St.get_new_ne _ _ e] at hb
      simp only [if_true, e, if_false] at hp
      exact absurd (h.pl_lt hb ho) (by omega)
    · rw [St.get_new_ne _ _ e] at hb
      rw [St.get_new_ne _ _ e'] at hc'
      simp only [e, e', if_false] at hp
      exact h.apart b c o q hb hc' ho hq hp
  · by_cases e : b = s.next
    · subst e; rw [St.get_new_same] at hb; cases hb
    · rw [St.get_new_ne _ _ e] at hb
      exact h.tkV b v T hT sz' u hb
  · obtain ⟨g1, g2, g3, g4⟩ := h.resV c hc0
    have hne : c ≠ s.next := by omega
    exact ⟨Nat.lt_succ_of_lt g1, by simp [Gh.cellsAt, hne, g2], by simp [Gh.cellsAt, hne, g3], g4⟩

/-- An iterator's step. -/
theorem RelS.setIter (h : RelS G w0 s w) {b p : Nat} {l : List UInt8} (hb : s.get b = some (.iter l p)) (hres : G.res b = false) :
    ∃ g str, G.rho b = some g ∧ str.data.toList = l ∧ w.heap[g]? = some (.stringIter str p) ∧ ∀ p', RelS G w0 (s.upd b (.iter l p')) { w with heap := w.heap.setIfInBounds g (.stringIter str p') } := by
  obtain ⟨pl, h⟩ := h
  obtain ⟨hbase, hr, str, e1, e2, e3⟩ := h.at_ b _ hb ⟨by simp, hres⟩
  have hlt : pl b < w.heap.size := (Array.getElem?_eq_some_iff.1 e2).1
  refine ⟨pl b, str, hr, e1, e2, fun p' => ⟨pl, ⟨h.below.os, h.below.tape, h.below.output, by show w0.heap.size ≤ (w.heap.setIfInBounds _ _).size; rw [Array.size_setIfInBounds]; exact h.below.size, fun k hk => ?_⟩, by show _ ≤ (w.heap.setIfInBounds _ _).size; rw [Array.size_setIfInBounds]; exact h.base, fun g' o' x hi => ?_, fun c hc => ?_, fun c q hc hd => ?_, fun c d q r hc hd hq hr' hp => ?_, fun c v' T' hT' sz' u hc => ?_, fun c hc0 => ?_⟩⟩
  · show (w.heap.setIfInBounds (pl b) _)[k]? = _
    rw [heap_set_ne _ _ _ _ (by omega)]
    exact h.below.block k hk
  · obtain ⟨h1, h2⟩ := h.imm g' o' x hi
    have hg : g' ≠ pl b := fun e => by subst e; rw [e3] at hi; cases hi
    refine ⟨?_, h2⟩
    simp only [World.cell?, heap_set_ne _ _ _ _ hg]
    simpa [World.cell?] using h1
  · obtain ⟨g1, g2, g3, g4⟩ := h.fresh c hc
    have hne : c ≠ b := fun e => by subst e; rw [hb] at g1; cases g1
    exact ⟨by rw [St.get_upd_ne _ _ hne]; exact g1, g2, g3, g4⟩
  · by_cases e : c = b
    · subst e
      rw [St.get_upd_same _ _ hb] at hc
      cases hc
      exact ⟨hbase, hr, str, e1, heap_set_same _ _ _ hlt, e3⟩
    · rw [St.get_upd_ne _ _ e] at hc
      obtain ⟨h1, h2⟩ := h.at_ c q hc hd
      have hne : pl c ≠ pl b := fun hx => e (h.apart c b q _ hc hb hd ⟨by simp, hres⟩ hx)
      exact ⟨h1, h2.keep (Gh.le_refl G) (heap_set_ne _ _ _ _ hne) (fun o => rfl)⟩
  · have hc' : ∃ q, s.get c = some q ∧ G.Live c q := by
      by_cases e : c = b
      · exact ⟨_, e ▸ hb, ⟨by simp, by rw [e]; exact hres⟩⟩
      · rw [St.get_upd_ne _ _ e] at hc; exact ⟨_, hc, hq⟩
    have hd' : ∃ q, s.get d = some q ∧ G.Live d q := by
      by_cases e : d = b
      · exact ⟨_, e ▸ hb, ⟨by simp, by rw [e]; exact hres⟩⟩
      · rw [St.get_upd_ne _ _ e] at hd; exact ⟨_, hd, hr'⟩
    obtain ⟨q1, a1, a2⟩ := hc'
    obtain ⟨q2, b1, b2⟩ := hd'
    exact h.apart c d q1 q2 a1 b1 a2 b2 hp
  · by_cases e : c = b
    · subst e; rw [St.get_upd_same _ _ hb] at hc; cases hc
    · rw [St.get_upd_ne _ _ e] at hc
      exact h.tkV c v' T' hT' sz' u hc
  · exact h.resV c hc0

/-- What a live block of cells holds can be read. -/
theorem RelS.cells (h : RelS G w0 s w) {b sz : Nat} {cs : List AV} (hb : s.get b = some (.cells sz cs)) (hres : G.res b = false) :
    ∃ g vs cur E, G.rho b = some g ∧ G.lim b = some (sz, cur.size) ∧ RelL G cs vs ∧ w.heap[g]? = some (.cells cur E (0, 0)) ∧ cs.length ≤ cur.size ∧ cur.toList.take cs.length = vs ∧ ∀ j u, vs[j]? = some u → w.cell? ⟨g, j, none⟩ = some u := by
  obtain ⟨pl, h⟩ := h
  obtain ⟨hbase, hr, cur, E, vs, e1, e2, e3, e4, e5, e6⟩ := h.at_ b _ hb ⟨by simp, hres⟩
  refine ⟨pl b, vs, cur, E, hr, e2, e3, e1, e4, e5, fun j u hu => ?_⟩
  rw [← e5, List.getElem?_take] at hu
  split at hu
  · simp only [World.cell?, e1]; simpa using hu
  · cases hu

end
end Go.Ab
