/- The evaluator is sound: second part. No conditions. -/
import Derived.Test.YtgflghhffmjojaaGreatDoorAbD
/- How the relation follows the machine's memory, continued: rows that never turn, blocks that change their name, iterators. No conditions. -/
set_option linter.unusedSimpArgs false
set_option linter.unusedVariables false
namespace Go.Ab
open Go
section
variable {G : Gh} {w0 : World} {s : St} {w : World}
theorem RelS.newImm (h : RelS G w0 s w) (cs : List AV) (cur : Array Value) (E : TypeId) (fr : Nat × Nat) (vs : List Value)
    (hc : RelL G cs vs) (ht : cur.toList.take cs.length = vs) :
    ∃ G', G.le G' ∧ (∀ j v, vs[j]? = some v → G'.imm w.heap.size j = some v) ∧ RelS G' w0 s (w.alloc (.cells cur E fr)) := by
  obtain ⟨pl, h⟩ := h
  have hle := Gh.more_le G w.heap.size 0 vs (fun o _ => h.imm_new o) h.base
  refine ⟨_, hle, fun j v hv => by have := Gh.more_at G w.heap.size 0 vs j v hv; rwa [Nat.zero_add] at this, pl, ?_⟩
  refine ⟨h.below.alloc h.base _, Nat.le_trans h.base (by simp), fun g o v hi => ?_, h.fresh, fun b o hb hd => ?_, h.apart, h.tkV, h.resV⟩
  · by_cases hg : g = w.heap.size
    · subst hg
      by_cases ho : o < vs.length
      · have hv : vs[o]? = some v := by simpa [Gh.more, ho] using hi
        refine ⟨?_, hc.mem v (List.mem_of_getElem? hv)⟩
        rw [← ht, List.getElem?_take] at hv
        split at hv
        · simp only [World.cell?, World.alloc, Array.getElem?_push_size]
          simpa using hv
        · cases hv
      · rw [Gh.more_beyond _ _ _ _ (by omega), h.imm_new] at hi
        cases hi
    · rw [Gh.more_other _ _ _ _ hg] at hi
      obtain ⟨h1, h2⟩ := h.imm g o v hi
      exact ⟨by rw [cell_of_heap (heap_alloc_lt w _ (h.imm_lt hi))]; exact h1, h2⟩
  · obtain ⟨h1, h2⟩ := h.at_ b o hb hd
    have := h2.lt hd.1
    exact ⟨h1, h2.keep hle (heap_alloc_lt w _ this) (fun o => Gh.more_other _ _ _ _ (by omega) o)⟩
theorem RelS.rehome (h : RelS G w0 s w) {b sz : Nat} {cs : List AV} (hb : s.get b = some (.cells sz cs)) (hres : G.res b = false) :
    ∃ g cur E vs fr, G.rho b = some g ∧ G.lim b = some (sz, cur.size) ∧ w.heap[g]? = some (.cells cur E fr) ∧ FrOk cur fr ∧ RelL G cs vs ∧ cs.length ≤ cur.size ∧ cur.toList.take cs.length = vs ∧
      ∀ (cs' : List AV) (us : List Value) (cur' : Array Value), RelL G cs' us → cur'.size = cur.size → cs'.length ≤ cur.size → cur'.toList.take cs'.length = us →
      ∃ G', G.le G' ∧ G'.rho s.next = some g ∧ G'.lim s.next = some (sz, cur.size) ∧ RelS G' w0 ((s.upd b .dead).new (.cells sz cs')) (w.setRow g cur') := by
  obtain ⟨pl, h⟩ := h
  obtain ⟨hbase, hr, cur, E, vs, fr, e1, e2, e3, e4, e5, e6, efr⟩ := h.at_ b _ hb ⟨by simp, hres⟩
  refine ⟨pl b, cur, E, vs, fr, hr, e2, e1, efr, e3, e4, e5, fun cs' us cur' hu hsz hfit htk => ?_⟩
  obtain ⟨f1, f2, f3, f4⟩ := h.fresh s.next (Nat.le_refl _)
  have hle := Gh.cellsAt_le G s.next (pl b) sz cur.size f2 f3
  have hgs := setRow_heap w (pl b) cur cur' E _ e1
  have hbn : b ≠ s.next := fun e => by subst e; rw [hb] at f1; cases f1
  refine ⟨G.cellsAt s.next (pl b) sz cur.size, hle, by simp [Gh.cellsAt], by simp [Gh.cellsAt], fun c => if c = s.next then pl b else pl c, ?_⟩
  have live : ∀ {c : Nat} {q : Obj}, c ≠ s.next → ((s.upd b .dead).new (.cells sz cs')).get c = some q → q ≠ .dead → c ≠ b ∧ s.get c = some q := by
    intro c q hc hq hd
    rw [St.get_new_ne _ _ (by exact hc)] at hq
    have : c ≠ b := fun e => by subst e; rw [St.get_upd_same _ _ hb] at hq; cases hq; exact hd rfl
    rw [St.get_upd_ne _ _ this] at hq
    exact ⟨this, hq⟩
  have snew : ((s.upd b .dead).new (.cells sz cs')).get s.next = some (.cells sz cs') := St.get_new_same (s.upd b .dead) _
  refine ⟨below_setRow h.below hbase _, by rw [size_setRow]; exact h.base, fun g' o' x hi => ?_, fun c hc => ?_, fun c q hc hd => ?_, fun c d q r hc hd hq hr' hp => ?_, fun c v' T' hT sz' u hc => ?_, fun c hc0 => ?_⟩
  · obtain ⟨h1, h2⟩ := h.imm g' o' x hi
    have hg : g' ≠ pl b := fun e => by
      subst e
      have hx : G.imm (pl b) o' = some x := hi
      rw [e6] at hx; cases hx
    exact ⟨by rw [cell_setRow_other w _ _ _ hg]; exact h1, h2⟩
  · have hc' : s.next + 1 ≤ c := hc
    obtain ⟨g1, g2, g3, g4⟩ := h.fresh c (by omega)
    have hne : c ≠ s.next := by omega
    have hne' : c ≠ b := fun e => by subst e; rw [hb] at g1; cases g1
    exact ⟨by rw [St.get_new_ne _ _ (by exact hne), St.get_upd_ne _ _ hne']; exact g1, by simp [Gh.cellsAt, hne, g2], by simp [Gh.cellsAt, hne, g3], g4⟩
  · by_cases e : c = s.next
    · subst e
      rw [snew] at hc
      cases hc
      simp only [if_true]
      exact ⟨hbase, by simp [Gh.cellsAt], cur', E, us, fr, hgs, by simp [Gh.cellsAt, hsz], hu.mono hle, by rw [hsz]; exact hfit, htk, fun o => e6 o, efr.sized hsz⟩
    · obtain ⟨hcb, hq⟩ := live e hc hd.1
      simp only [e, if_false]
      obtain ⟨h1, h2⟩ := h.at_ c q hq hd
      have hne : pl c ≠ pl b := fun hx => hcb (h.apart c b q _ hq hb hd ⟨by simp, hres⟩ hx)
      exact ⟨h1, h2.keep hle (setRow_other w _ _ _ hne) (fun o => rfl)⟩
  · by_cases e : c = s.next <;> by_cases e' : d = s.next
    · rw [e, e']
    · subst e
      obtain ⟨hdb, hq'⟩ := live e' hd hr'.1
      simp only [if_true, e', if_false] at hp
      exact absurd (h.apart d b r _ hq' hb hr' ⟨by simp, hres⟩ hp.symm) hdb
    · subst e'
      obtain ⟨hcb, hq'⟩ := live e hc hq.1
      simp only [if_true, e, if_false] at hp
      exact absurd (h.apart c b q _ hq' hb hq ⟨by simp, hres⟩ hp) hcb
    · obtain ⟨_, hq1⟩ := live e hc hq.1
      obtain ⟨_, hq2⟩ := live e' hd hr'.1
      simp only [e, e', if_false] at hp
      exact h.apart c d q r hq1 hq2 hq hr' hp
  · by_cases e : c = s.next
    · subst e; rw [snew] at hc; cases hc
    · obtain ⟨_, hq⟩ := live e hc (by simp)
      exact h.tkV c v' T' hT sz' u hq
  · obtain ⟨g1, g2, g3, g4⟩ := h.resV c hc0
    have hne : c ≠ s.next := by omega
    exact ⟨Nat.lt_succ_of_lt g1, by simp [Gh.cellsAt, hne, g2], by simp [Gh.cellsAt, hne, g3], g4⟩
theorem heap_set_ne (h : Array Go.Obj) (g k : Nat) (o : Go.Obj) (hk : k ≠ g) : (h.setIfInBounds g o)[k]? = h[k]? := by simp [Array.getElem?_setIfInBounds, Ne.symm hk]
theorem heap_set_same (h : Array Go.Obj) (g : Nat) (o : Go.Obj) (hk : g < h.size) : (h.setIfInBounds g o)[g]? = some o := by simp [Array.getElem?_setIfInBounds, hk]
theorem RelS.markKill (h : RelS G w0 s w) {b sz v : Nat} (hb : s.get b = some (.tick sz v)) {T : Tk} (hT : G.tk b v = some T) (cur : Array Value) (E : TypeId) (fr : Nat × Nat)
    (hg : w.heap[T.g]? = some (.cells cur E (0, 0))) (w' : World) (hw : w'.heap = w.heap.setIfInBounds T.g (.cells cur E fr)) (ho : w'.os = w.os) (htp : w'.tape = w.tape) (hout : w'.output = w.output) : RelS G w0 (s.upd b .dead) w' := by
  obtain ⟨pl, h⟩ := h
  have hres := h.resT hT
  obtain ⟨hbase, T', cur', E', e1, e2, _⟩ := h.at_ b _ hb ⟨by simp, hres⟩
  rw [hT] at e1
  cases e1
  have hlt : T.g < w.heap.size := (Array.getElem?_eq_some_iff.1 hg).1
  refine ⟨pl, ⟨ho.trans h.below.os, htp.trans h.below.tape, hout.trans h.below.output, by rw [hw, Array.size_setIfInBounds]; exact h.below.size, fun k hk => ?_⟩, by rw [hw, Array.size_setIfInBounds]; exact h.base, fun g' o' x hi => ?_, fun c hc => ?_, fun c q hc hd => ?_, fun c d q r hc hd hq hr hp => ?_, fun c v' T' hT' sz' u hc => ?_, fun c hc0 => ?_⟩
  · rw [hw, heap_set_ne _ _ _ _ (by rw [e2]; omega)]
    exact h.below.block k hk
  · obtain ⟨h1, h2⟩ := h.imm g' o' x hi
    refine ⟨?_, h2⟩
    by_cases e : g' = T.g
    · subst e
      simp only [World.cell?, hw, heap_set_same _ _ _ hlt]
      simpa [World.cell?, hg] using h1
    · simp only [World.cell?, hw, heap_set_ne _ _ _ _ e]
      simpa [World.cell?] using h1
  · obtain ⟨g1, g2, g3, g4⟩ := h.fresh c hc
    have hne : c ≠ b := fun e => by subst e; rw [hb] at g1; cases g1
    exact ⟨by rw [St.get_upd_ne _ _ hne]; exact g1, g2, g3, g4⟩
  · by_cases e : c = b
    · subst e
      rw [St.get_upd_same _ _ hb] at hc
      cases hc
      exact absurd rfl hd.1
    · rw [St.get_upd_ne _ _ e] at hc
      obtain ⟨h1, h2⟩ := h.at_ c q hc hd
      have hne : pl c ≠ T.g := fun hx => e (h.apart c b q _ hc hb hd ⟨by simp, hres⟩ (by rw [hx, e2]))
      exact ⟨h1, h2.keep (Gh.le_refl G) (by rw [hw, heap_set_ne _ _ _ _ hne]) (fun o => rfl)⟩
  · by_cases e : c = b
    · subst e; rw [St.get_upd_same _ _ hb] at hc; cases hc; exact absurd rfl hq.1
    · by_cases e' : d = b
      · subst e'; rw [St.get_upd_same _ _ hb] at hd; cases hd; exact absurd rfl hr.1
      · rw [St.get_upd_ne _ _ e] at hc; rw [St.get_upd_ne _ _ e'] at hd
        exact h.apart c d q r hc hd hq hr hp
  · by_cases e : c = b
    · subst e; rw [St.get_upd_same _ _ hb] at hc; cases hc
    · rw [St.get_upd_ne _ _ e] at hc
      exact h.tkV c v' T' hT' sz' u hc
  · exact h.resV c hc0
theorem RelS.newIter (h : RelS G w0 s w) (str : ByteArray) :
    ∃ G', G.le G' ∧ G'.rho s.next = some w.heap.size ∧ RelS G' w0 (s.new (.iter str.data.toList 0)) (w.alloc (.stringIter str 0)) := by
  obtain ⟨pl, h⟩ := h
  obtain ⟨f1, f2, f3, f4⟩ := h.fresh s.next (Nat.le_refl _)
  have hle := Gh.cellsAt_le G s.next w.heap.size 0 0 f2 f3
  refine ⟨G.cellsAt s.next w.heap.size 0 0, hle, by simp [Gh.cellsAt], fun b => if b = s.next then w.heap.size else pl b, ?_⟩
  refine ⟨h.below.alloc h.base _, Nat.le_trans h.base (by simp), fun g o v hi => ?_, fun b hb => ?_, fun b o hb hd => ?_, fun b c o q hb hc' ho hq hp => ?_, fun b v T hT sz' u hb => ?_, fun c hc0 => ?_⟩
  · obtain ⟨h1, h2⟩ := h.imm g o v hi
    exact ⟨by rw [cell_of_heap (heap_alloc_lt w _ (h.imm_lt hi))]; exact h1, h2⟩
  · have hb' : s.next + 1 ≤ b := hb
    obtain ⟨g1, g2, g3, g4⟩ := h.fresh b (by omega)
    have hne : b ≠ s.next := by omega
    exact ⟨by rw [St.get_new_ne _ _ hne]; exact g1, by simp [Gh.cellsAt, hne, g2], by simp [Gh.cellsAt, hne, g3], g4⟩
  · by_cases e : b = s.next
    · subst e
      rw [St.get_new_same] at hb
      cases hb
      simp only [if_true]
      exact ⟨h.base, by simp [Gh.cellsAt], str, rfl, heap_alloc_new w _, fun o => h.imm_new o⟩
    · rw [St.get_new_ne _ _ e] at hb
      simp only [e, if_false]
      obtain ⟨h1, h2⟩ := h.at_ b o hb hd
      exact ⟨h1, h2.keep hle (heap_alloc_lt w _ (h2.lt hd.1)) (fun _ => rfl)⟩
  · by_cases e : b = s.next <;> by_cases e' : c = s.next
    · rw [e, e']
    · subst e
      rw [St.get_new_ne _ _ e'] at hc'
      simp only [if_true, e', if_false] at hp
      exact absurd (h.pl_lt hc' hq) (by omega)
    · subst e'
      rw [St.get_new_ne _ _ e] at hb
      simp only [if_true, e, if_false] at hp
      exact absurd (h.pl_lt hb ho) (by omega)
    · rw [St.get_new_ne _ _ e] at hb
      rw [St.get_new_ne _ _ e'] at hc'
      simp only [e, e', if_false] at hp
      exact h.apart b c o q hb hc' ho hq hp
  · by_cases e : b = s.next
    · subst e; rw [St.get_new_same] at hb; cases hb
    · rw [St.get_new_ne _ _ e] at hb
      exact h.tkV b v T hT sz' u hb
  · obtain ⟨g1, g2, g3, g4⟩ := h.resV c hc0
    have hne : c ≠ s.next := by omega
    exact ⟨Nat.lt_succ_of_lt g1, by simp [Gh.cellsAt, hne, g2], by simp [Gh.cellsAt, hne, g3], g4⟩
theorem RelS.setIter (h : RelS G w0 s w) {b p : Nat} {l : List UInt8} (hb : s.get b = some (.iter l p)) (hres : G.res b = false) :
    ∃ g str, G.rho b = some g ∧ str.data.toList = l ∧ w.heap[g]? = some (.stringIter str p) ∧ ∀ p', RelS G w0 (s.upd b (.iter l p')) { w with heap := w.heap.setIfInBounds g (.stringIter str p') } := by
  obtain ⟨pl, h⟩ := h
  obtain ⟨hbase, hr, str, e1, e2, e3⟩ := h.at_ b _ hb ⟨by simp, hres⟩
  have hlt : pl b < w.heap.size := (Array.getElem?_eq_some_iff.1 e2).1
  refine ⟨pl b, str, hr, e1, e2, fun p' => ⟨pl, ⟨h.below.os, h.below.tape, h.below.output, by show w0.heap.size ≤ (w.heap.setIfInBounds _ _).size; rw [Array.size_setIfInBounds]; exact h.below.size, fun k hk => ?_⟩, by show _ ≤ (w.heap.setIfInBounds _ _).size; rw [Array.size_setIfInBounds]; exact h.base, fun g' o' x hi => ?_, fun c hc => ?_, fun c q hc hd => ?_, fun c d q r hc hd hq hr' hp => ?_, fun c v' T' hT' sz' u hc => ?_, fun c hc0 => ?_⟩⟩
  · show (w.heap.setIfInBounds (pl b) _)[k]? = _
    rw [heap_set_ne _ _ _ _ (by omega)]
    exact h.below.block k hk
  · obtain ⟨h1, h2⟩ := h.imm g' o' x hi
    have hg : g' ≠ pl b := fun e => by subst e; rw [e3] at hi; cases hi
    refine ⟨?_, h2⟩
    simp only [World.cell?, heap_set_ne _ _ _ _ hg]
    simpa [World.cell?] using h1
  · obtain ⟨g1, g2, g3, g4⟩ := h.fresh c hc
    have hne : c ≠ b := fun e => by subst e; rw [hb] at g1; cases g1
    exact ⟨by rw [St.get_upd_ne _ _ hne]; exact g1, g2, g3, g4⟩
  · by_cases e : c = b
    · subst e
      rw [St.get_upd_same _ _ hb] at hc
      cases hc
      exact ⟨hbase, hr, str, e1, heap_set_same _ _ _ hlt, e3⟩
    · rw [St.get_upd_ne _ _ e] at hc
      obtain ⟨h1, h2⟩ := h.at_ c q hc hd
      have hne : pl c ≠ pl b := fun hx => e (h.apart c b q _ hc hb hd ⟨by simp, hres⟩ hx)
      exact ⟨h1, h2.keep (Gh.le_refl G) (heap_set_ne _ _ _ _ hne) (fun o => rfl)⟩
  · have hc' : ∃ q, s.get c = some q ∧ G.Live c q := by
      by_cases e : c = b
      · exact ⟨_, e ▸ hb, ⟨by simp, by rw [e]; exact hres⟩⟩
      · rw [St.get_upd_ne _ _ e] at hc; exact ⟨_, hc, hq⟩
    have hd' : ∃ q, s.get d = some q ∧ G.Live d q := by
      by_cases e : d = b
      · exact ⟨_, e ▸ hb, ⟨by simp, by rw [e]; exact hres⟩⟩
      · rw [St.get_upd_ne _ _ e] at hd; exact ⟨_, hd, hr'⟩
    obtain ⟨q1, a1, a2⟩ := hc'
    obtain ⟨q2, b1, b2⟩ := hd'
    exact h.apart c d q1 q2 a1 b1 a2 b2 hp
  · by_cases e : c = b
    · subst e; rw [St.get_upd_same _ _ hb] at hc; cases hc
    · rw [St.get_upd_ne _ _ e] at hc
      exact h.tkV c v' T' hT' sz' u hc
  · exact h.resV c hc0
theorem RelS.cells (h : RelS G w0 s w) {b sz : Nat} {cs : List AV} (hb : s.get b = some (.cells sz cs)) (hres : G.res b = false) :
    ∃ g vs cur E fr, G.rho b = some g ∧ G.lim b = some (sz, cur.size) ∧ RelL G cs vs ∧ (w.heap[g]? = some (.cells cur E fr) ∧ FrOk cur fr) ∧ cs.length ≤ cur.size ∧ cur.toList.take cs.length = vs ∧ ∀ j u, vs[j]? = some u → w.cell? ⟨g, j, none⟩ = some u := by
  obtain ⟨pl, h⟩ := h
  obtain ⟨hbase, hr, cur, E, vs, fr, e1, e2, e3, e4, e5, e6, efr⟩ := h.at_ b _ hb ⟨by simp, hres⟩
  refine ⟨pl b, vs, cur, E, fr, hr, e2, e3, ⟨e1, efr⟩, e4, e5, fun j u hu => ?_⟩
  rw [← e5, List.getElem?_take] at hu
  split at hu
  · simp only [World.cell?, e1]; simpa using hu
  · cases hu
end
end Go.Ab
/- One operation that reads or turns the small heap answers as the machine's. No conditions. -/
set_option linter.unusedSimpArgs false
set_option linter.unusedVariables false
namespace Go.Ab
open Go
section
variable {P : Program} {G : Gh} {w0 : World} {s : St} {w : World} {gl : Nat → AV} {e : Env} {a : Act}
def OpOk (P : Program) (G : Gh) (w0 w : World) (a : Act) (o : Oper) (v : AV) (s' : St) : Prop :=
  ∃ G' v' w' nx, G.le G' ∧ (execOp a.eval o).run P w = .ok nx w' ∧ (nx = .value v' ∨ (nx = .skip ∧ v' = undef)) ∧ RelV G' v v' ∧ RelS G' w0 s' w'
theorem OpOk.val {o : Oper} {v : AV} {s' : St} {G' : Gh} {v' : Value} {w' : World} (hG : G.le G') (h : (execOp a.eval o).run P w = .ok (.value v') w') (hv : RelV G' v v') (hs : RelS G' w0 s' w') : OpOk P G w0 w a o v s' :=
  ⟨G', v', w', _, hG, h, .inl rfl, hv, hs⟩
theorem load_heap {o : Oper} {t : TypeId} {x : Operand} {n : Option Nat} {y : Opd} {v : AV} (heq : o.op = .load t x) (hn : cellsN P t = some n) (h1 : cOpd x = some y) (hE : RelE G gl e a) (hS : RelS G w0 s w)
    (h : evR gl e s (.load n y) = some v) : OpOk P G w0 w a o v s := by
  simp only [evR] at h
  have hr := hE.opd h1
  generalize hv : a.eval x = xv at hr
  generalize opd gl e y = yv at h hr
  cases hr <;> (try simp only at h) <;> try (cases h; done)
  rename_i b off g hrho
  split at h
  · rename_i z cs hb
    obtain ⟨g', vs, cur, E, fr, q1, _, q3, _, _, _, q7⟩ := hS.cells hb (hS.resF hrho)
    rw [hrho] at q1
    cases q1
    obtain ⟨v', e1, e2⟩ := loadVar_sound (P := P) (w := w) (g := g) (o0 := 0) hn h q3 (fun j u hu => by rw [Nat.zero_add]; exact q7 j u hu)
    rw [Nat.zero_add] at e1
    exact OpOk.val (Gh.le_refl G) (by simp only [execOp, heq, hv]; exact exec_v (by simpa [Instr.loadAt, Instr.sureAddr] using e1)) e2 hS
  · cases h
theorem conv_heap {o : Oper} {src dst : TypeId} {x : Operand} {c : Cv} {y : Opd} {v : AV} (heq : o.op = .convert src dst x) (h1 : cOpd x = some y) (hcv : ConvAt P src dst c) (hE : RelE G gl e a) (hS : RelS G w0 s w)
    (h : evR gl e s (.conv c y) = some v) : OpOk P G w0 w a o v s := by
  simp only [evR] at h
  have hr := hE.opd h1
  generalize hv : a.eval x = xv at hr
  generalize opd gl e y = yv at h hr
  cases hr <;> (try simp only at h) <;> try (cases h; done)
  rename_i zz b off n g cap L hrho hlim hn hcap hm
  split at h
  · rename_i z cs hb
    split at h
    · rename_i hcond
      obtain ⟨hz, hcc, hfit⟩ := hcond
      subst hcc
      obtain ⟨el, c1, c2, c3⟩ := hcv
      obtain ⟨l, hl, rfl⟩ := Option.map_eq_some_iff.1 h
      obtain ⟨g', vs, cur, E, fr, q1, _, q3, _, _, _, q7⟩ := hS.cells hb (hS.resF hrho)
      rw [hrho] at q1
      cases q1
      obtain ⟨ns, e1, e2⟩ := toBytes_sound hl ((q3.drop off).take n)
      have hlen : ((vs.drop off).take n).length = n := by rw [List.length_take, List.length_drop, ← q3.length]; omega
      obtain ⟨str, hs1, hs2⟩ := bytes_run (P := P) (w := w) (g := g) (o := off) (cap := cap) e1 hlen (fun j u hu => by
        rw [addr_add]
        rw [List.getElem?_take] at hu
        split at hu
        · rw [List.getElem?_drop] at hu; exact q7 _ _ hu
        · cases hu)
      refine OpOk.val (v' := .string str) (Gh.le_refl G) (by simp only [execOp, heq, hv]; exact exec_v (by rw [run_convert_bytes_string w src dst el _ n cap c1 c3 c2]; exact hs1)) ?_ hS
      rw [e2, ← hs2]; exact .str _
    · cases h
  · cases h
theorem take_fill (l us : List Value) (o : Nat) (h : o + us.length ≤ l.length) : fillV l o us = l.take o ++ us ++ l.drop (o + us.length) := by
  induction us generalizing l o with
  | nil => simp [fillV]
  | cons u us ih =>
    simp only [fillV, List.length_cons] at h ⊢
    rw [ih (l.set o u) (o + 1) (by rw [List.length_set]; omega)]
    have h1 : (l.set o u).take (o + 1) = l.take o ++ [u] := by
      rw [List.take_succ_eq_append_getElem (by rw [List.length_set]; omega)]
      simp only [List.take_set, List.getElem_set_self]
      rw [List.set_eq_of_length_le (by rw [List.length_take]; omega)]
    have h2 : (l.set o u).drop (o + 1 + us.length) = l.drop (o + (us.length + 1)) := by
      rw [List.drop_set, if_pos (by omega)]; congr 1; omega
    rw [h1, h2]
    simp
theorem take_mid (l us : List Value) (o m : Nat) (h : o + us.length ≤ m) (hm : m ≤ l.length) : (l.take o ++ us ++ l.drop (o + us.length)).take m = fillV (l.take m) o us := by
  rw [take_fill _ _ _ (by rw [List.length_take]; omega), List.take_append, List.take_append, List.take_take, List.take_take]
  have e1 : (l.take o ++ us).length = o + us.length := by rw [List.length_append, List.length_take]; omega
  have e2 : (l.take o).length = o := by rw [List.length_take]; omega
  rw [e1, e2, Nat.min_eq_right (show o ≤ m by omega), Nat.min_eq_left (show o ≤ m by omega), List.take_of_length_le (by omega : us.length ≤ m - o), List.drop_take]
theorem store_heap {o : Oper} {t : TypeId} {x y : Operand} {n : Nat} {x' y' : Opd} {v : AV} {s' : St} (heq : o.op = .store t x y) (hn : szOf P t = some n) (h1 : cOpd x = some x') (h2 : cOpd y = some y') (hE : RelE G gl e a) (hS : RelS G w0 s w)
    (h : evW gl e s (.store n x' y') = some (v, s')) : OpOk P G w0 w a o v s' := by
  simp only [evW] at h
  have hr := hE.opd h1
  have hry := hE.opd h2
  generalize hv : a.eval x = xv at hr
  generalize opd gl e x' = xa at h hr
  cases hr <;> (try simp only at h) <;> try (cases h; done)
  rename_i b off g hrho
  split at h
  · rename_i z cs hb
    split at h
    · rename_i vs hvs
      split at h
      · rename_i hlen
        split at h
        · rename_i cs' hst
          cases h
          have hrv := cellsOf_rel hvs hry
          unfold storeL at hst
          split at hst
          · rename_i hfit
            cases hst
            obtain ⟨g', us, cur, E, fr, q1, _, q3, ⟨q4, qfr⟩, q5, q6, q7⟩ := hS.cells hb (hS.resF hrho)
            rw [hrho] at q1
            cases q1
            obtain ⟨g2, cur2, E2, fr2, p1, p2, p3, p4⟩ := hS.setCells hb (hS.resF hrho) (fillL_rel off q3 hrv) (fillL_length cs off vs)
            rw [hrho] at p1
            cases p1
            rw [q4] at p2
            cases p2
            have hcl : (a.eval y).cells.toList.length = vs.length := hrv.length.symm
            have hsz : (a.eval y).cells.size = n := by rw [← Array.length_toList, hcl, hlen]
            have hrun := run_storeCells_fr P g off E fr (a.eval y).cells.toList 0 cur w q4 qfr (by rw [hcl]; omega) (hrv.mem)
            simp only [Nat.add_zero] at hrun
            refine ⟨G, undef, _, .skip, Gh.le_refl G, ?_, .inr ⟨rfl, rfl⟩, .undef _, p4 (cur.toList.take off ++ (a.eval y).cells.toList ++ cur.toList.drop (off + (a.eval y).cells.toList.length)).toArray ?_ ?_⟩
            · simp only [execOp, heq, hv]
              simp [Instr.storeAt, Instr.sureAddr, storeVar, szOf_run hn, hsz, hrun]
            · simp only [List.size_toArray, List.length_append, List.length_take, List.length_drop, Array.length_toList] at hcl ⊢
              omega
            · rw [← q6]
              exact take_mid _ _ _ _ (by rw [hcl]; exact hfit) (by simpa using q5)
          · cases hst
        · cases h
      · cases h
    · cases h
  · cases h
theorem alloc_heap {o : Oper} {t : TypeId} {zs : List AV} (heq : o.op = .alloc t) (hz : zeroCells' P t = some zs) (hS : RelS G w0 s w) : OpOk P G w0 w a o (.ptr s.next 0) (s.new (.cells 0 zs)) := by
  unfold zeroCells' zeroOf at hz
  obtain ⟨zv, hz1, rfl⟩ := Option.map_eq_some_iff.1 hz
  split at hz1
  · rename_i z hzz
    obtain ⟨it, hit, hz2⟩ := Option.bind_eq_some_iff.1 hzz
    have hr : RelL G (zcells zv) z.cells.toList := toAVa_cells hz1
    have hl : (zcells zv).length = z.cells.size := by have := hr.length; simpa using this
    obtain ⟨G', q1, q2, q3, q4⟩ := hS.newCells 0 (zcells zv) z.cells t z.cells.toList hr (by omega) (by rw [hl]; simp [← Array.length_toList])
    refine OpOk.val q1 (v' := .pointer (some ⟨w.heap.size, 0, none⟩)) ?_ (.ptr _ _ _ q2) q4
    simp only [execOp, heq]
    refine exec_v ?_
    simp [Instr.alloc, zeroValue, typeInfo, hit, hz2, newVar, newRow]
  · cases hz1
theorem box_heap {o : Oper} {t : TypeId} {x : Operand} {y : Opd} {v : AV} {s' : St} (heq : o.op = .box t x) (h1 : cOpd x = some y) (hE : RelE G gl e a) (hS : RelS G w0 s w)
    (h : evW gl e s (.box y) = some (v, s')) : OpOk P G w0 w a o v s' := by
  simp only [evW] at h
  split at h
  · rename_i cs hcs
    cases h
    have hr := cellsOf_rel hcs (hE.opd h1)
    have hl : cs.length = (a.eval x).cells.size := by have := hr.length; simpa using this
    obtain ⟨G', q1, q2, q3, q4⟩ := hS.newCells 0 cs (a.eval x).cells t _ hr (by omega) (by rw [hl]; simp [← Array.length_toList])
    refine OpOk.val q1 (v' := .pointer (some ⟨w.heap.size, 0, none⟩)) ?_ (.ptr _ _ _ q2) q4
    simp only [execOp, heq]
    refine exec_v ?_
    simp [Instr.box, newVar, newRow]
  · cases h
/-! ### Appends -/
theorem newsOf_sound {size : Nat} {y : AV} {y' : Value} {news : List AV} {m : Nat} {tx : TypeId} (h : newsOf size s y = some (news, m)) (hy : RelV G y y') (hS : RelS G w0 s w)
    (hk : (∃ e', P.underlying tx = some (.slice e')) ∨ P.underlying tx = some .string) :
    ∃ us, RelL G news us ∧ Src P size tx y' m us w ∧ ∀ k, k ≤ m → (Builtin.firstCells size k y').run P w = .ok (us.take (k * size)).toArray w := by
  have hI := hS.immW
  have fin : ∀ {g o n cap : Nat} {us : List Value}, us.length = n * size → (∀ j u, us[j]? = some u → w.cell? ((⟨g, o, none⟩ : Addr).add j) = some u) → RelL G news us → y' = .slice (some ⟨g, o, none⟩) n cap → m = n →
      ∃ us, RelL G news us ∧ Src P size tx y' m us w ∧ ∀ k, k ≤ m → (Builtin.firstCells size k y').run P w = .ok (us.take (k * size)).toArray w := by
    intro g o n cap us hl hr hrel hy' hm
    subst hy'; subst hm
    refine ⟨us, hrel, ⟨hk, fun _ => rfl, run_firstCells_some w size m _ m cap us hl hr, run_firstCells_some w.drew size m _ m cap us hl (by simpa using hr), hl, hrel.mem⟩, fun k hkm => ?_⟩
    have htl : (us.take (k * size)).length = k * size := by
      have : k * size ≤ m * size := Nat.mul_le_mul_right _ hkm
      rw [List.length_take]; omega
    exact run_firstCells_some w size k _ _ _ _ htl (fun j u hu => by
      rw [List.getElem?_take] at hu
      split at hu
      · exact hr j u hu
      · cases hu)
  cases hy <;> (try simp only [newsOf] at h) <;> try (cases h; done)
  · -- a text
    rename_i str
    split at h
    · rename_i hs
      cases h
      subst hs
      have hlen : str.data.toList.length = str.size := by simp
      have hrel : ∀ l : List UInt8, RelL G (bytesAV l) (l.map fun b => Value.int .u8 b.toNat) := by
        intro l
        induction l with
        | nil => exact .nil
        | cons b bs ih => exact .cons _ _ _ _ (.int _ _) rfl ih
      refine ⟨byteCells str, hrel _, ?_, fun k hkm => ?_⟩
      · rw [hlen]
        exact ⟨hk, fun _ => rfl, firstCells_string str w, firstCells_string str w.drew, by rw [byteCells_length, Nat.mul_one], fun u hu => by obtain ⟨_, _, rfl⟩ := List.mem_map.1 hu; rfl⟩
      · rw [Nat.mul_one]
        simp only [Builtin.firstCells, Sem.run_pure]
        congr 1
        apply Array.ext'
        simp [byteCells, List.map_take]
    · cases h
  · cases h
    refine ⟨[], .nil, ⟨hk, fun _ => rfl, run_firstCells_none w size 0 0 0, run_firstCells_none w.drew size 0 0 0, by simp, fun _ h => by cases h⟩, fun k hkm => ?_⟩
    simp [Builtin.firstCells]
  · rename_i cs n tk g o cap vs hl hi hn hcm htk
    split at h
    · rename_i hlen
      cases h
      exact fin (by rw [← hl.length, hlen]) (imm_reads hI hi) hl rfl rfl
    · cases h
  · rename_i a
    have hx : news = [] ∧ m = 0 := by
      have := h
      simp only [List.length_nil, Nat.zero_mul, if_true, Option.some.injEq, Prod.mk.injEq] at this
      exact ⟨this.1.symm, this.2.symm⟩
    obtain ⟨rfl, rfl⟩ := hx
    refine ⟨[], .nil, ⟨hk, fun _ => rfl, run_firstCells_some w size 0 a 0 0 [] (by simp) (by simp), run_firstCells_some w.drew size 0 a 0 0 [] (by simp) (by simp), by simp, fun _ h => by cases h⟩, fun k hkm => ?_⟩
    have : k = 0 := by omega
    subst this
    simpa using run_firstCells_some w size 0 a 0 0 [] (by simp) (by simp)
  · rename_i zz b o n g cap L hrho hlim hn hcap hcm
    split at h
    · rename_i z cs hb
      split at h
      · rename_i hcond
        cases h
        obtain ⟨g', vs, cur, E, fr, q1, _, q3, _, _, _, q7⟩ := hS.cells hb (hS.resF hrho)
        rw [hrho] at q1
        cases q1
        have hlen : ((vs.drop o).take (m * size)).length = m * size := by rw [List.length_take, List.length_drop, ← q3.length]; omega
        exact fin hlen (fun j u hu => by
          rw [addr_add]
          rw [List.getElem?_take] at hu
          split at hu
          · rw [List.getElem?_drop] at hu; exact q7 _ _ hu
          · cases hu) ((q3.drop o).take _) rfl rfl
      · cases h
    · cases h
theorem fits_le {n bytes : Nat} (h : fits n bytes = true) : n * bytes ≤ 140737488355328 ∧ n ≤ maxLen ∧ (n : Int) ≤ 9223372036854775807 := by
  simp only [fits, Bool.and_eq_true, decide_eq_true_eq] at h
  refine ⟨h.1, ?_, by omega⟩
  unfold maxLen
  omega
section
variable {t tx el ty : TypeId} {i : TypeInfo} {z : Value}
theorem append_room_at (ht : P.underlying t = some (.slice el)) (hi : P.info? el = some i) {y' : Value} {m : Nat} {us : List Value} (hs : Src P i.size tx y' m us w) {g o n cap : Nat} {cur : Array Value} {E : TypeId} {fr : Nat × Nat}
    (hg : w.heap[g]? = some (.cells cur E fr)) (hfr : FrOk cur fr) (hfit : o + n * i.size + us.length ≤ cur.size) (hroom : n + m ≤ cap) :
    (Builtin.append_ #[t, tx] ty #[.slice (some ⟨g, o, none⟩) n cap, y']).run P w =
      .ok (.slice (some ⟨g, o, none⟩) (n + m) cap) (w.setRow g (cur.toList.take (o + n * i.size) ++ us ++ cur.toList.drop (o + n * i.size + us.length)).toArray) := by
  have hst := run_storeCells_fr P g (o + n * i.size) E fr us 0 cur w hg hfr (by simpa using hfit) hs.one
  simp only [Nat.add_zero] at hst
  rcases hs.kind with ⟨e', hk⟩ | hk <;> simp [Builtin.append_, run_underlying ht, run_underlying hk, sizeOf, typeInfo, hi, hs.len, hroom, hs.cells, addr_add, hst]
theorem append_nothing (ht : P.underlying t = some (.slice el)) (hi : P.info? el = some i) {y' : Value} {us : List Value} (hs : Src P i.size tx y' 0 us w) {A : Option Addr} {n cap : Nat} (hroom : n ≤ cap) :
    (Builtin.append_ #[t, tx] ty #[.slice A n cap, y']).run P w = .ok (.slice A n cap) w := by
  have hu : us = [] := List.eq_nil_of_length_eq_zero (by rw [hs.newsLen]; simp)
  subst hu
  cases A <;> rcases hs.kind with ⟨e', hk⟩ | hk <;> simp [Builtin.append_, run_underlying ht, run_underlying hk, sizeOf, typeInfo, hi, hs.len, hroom, hs.cells, storeCells]
theorem call_run {o : Oper} {b : Builtin} {args : Array Operand} {ts : Array TypeId} {X : Sem Value} {v' : Value} {w' : World} (heq : o.op = .call { callee := .builtin b, args := args, argTypes := ts })
    (hb : builtin b ts o.type (args.map fun | .const _ => true | _ => false) (args.map a.eval) = (do pure (Next.value (← X)))) (h : X.run P w = .ok v' w') : (execOp a.eval o).run P w = .ok (.value v') w' := by
  simp only [execOp, heq]
  show (builtin b ts o.type (args.map fun | .const _ => true | _ => false) (args.map a.eval)).run P w = _
  rw [hb]
  exact exec_v h
theorem app_heap {o : Oper} {args : Array Operand} {ts : Array TypeId} {x y : Operand} {x' y' : Opd} {v : AV} {s' : St} {hp : Bool}
    (heq : o.op = .call { callee := .builtin .append, args := args, argTypes := ts }) (ha : args.toList = [x, y]) (hts : ts.toList = [t, tx])
    (ht : P.underlying t = some (.slice el)) (hk : (∃ e', P.underlying tx = some (.slice e')) ∨ P.underlying tx = some .string) (hi : P.info? el = some i) (hz : i.zero = some z) (hzs : z.cells.size = i.size) (hpos : 0 < i.size)
    (h1 : cOpd x = some x') (h2 : cOpd y = some y') (hE : RelE G gl e a) (hS : RelS G w0 s w)
    (h : evW gl e s (.app hp i.size i.bytes x' y') = some (v, s')) : OpOk P G w0 w a o v s' := by
  have ea : args = #[x, y] := by rw [← Array.toArray_toList (xs := args), ha]
  have et : ts = #[t, tx] := by rw [← Array.toArray_toList (xs := ts), hts]
  subst ea; subst et
  have run : ∀ {v' : Value} {w' : World}, (Builtin.append_ #[t, tx] o.type #[a.eval x, a.eval y]).run P w = .ok v' w' → (execOp a.eval o).run P w = .ok (.value v') w' := by
    intro v' w' hr
    refine call_run heq (X := Builtin.append_ #[t, tx] o.type #[a.eval x, a.eval y]) ?_ hr
    simp [builtin]
  simp only [evW] at h
  split at h
  · rename_i news m hnews
    obtain ⟨us, hu, hs, _⟩ := newsOf_sound (P := P) (tx := tx) hnews (hE.opd h2) hS hk
    have hul : us.length = m * i.size := hs.newsLen
    have hnl : news.length = m * i.size := by rw [hu.length, hul]
    have hr := hE.opd h1
    -- a new row, behind a draw
    have grow : ∀ {base : Option Addr} {n cap : Nat} {olds : List Value}, a.eval x = .slice base n cap → olds.length = n * i.size → (Builtin.firstCells i.size n (.slice base n cap)).run P w.drew = .ok olds.toArray w.drew → cap < n + m → fits (n + m) i.bytes = true →
        ∃ (cur : Array Value) (cap' : Nat), (execOp a.eval o).run P w = .ok (.value (.slice (some ⟨w.heap.size, 0, none⟩) (n + m) cap')) (w.drew.alloc (.cells cur el)) ∧ cur.toList.take (olds ++ us).length = olds ++ us ∧ cur.size = cap' * i.size ∧ n + m ≤ cap' ∧ cap' ≤ maxLen := by
      intro base n cap olds hx hol hold hcap hf
      obtain ⟨f1, f2, f3⟩ := fits_le hf
      have hgrow := run_append_grow_src (P := P) w t tx o.type el i z ht hi hz base n cap olds hold (a.eval y) m us hs hcap (by simpa using f3) (growslice_fits hcap f1)
      have hge := grownCap_ge w (n + m) cap el
      have hcm := grownCap_le_maxLen w (n + m) cap el f2
      refine ⟨_, _, run (by rw [hx]; exact hgrow), by simp only [Array.toList_append, List.append_assoc]; rw [← List.append_assoc]; exact List.take_left, ?_, hge, hcm⟩
      simp only [Array.size_append, List.size_toArray, List.length_append, size_zeroCells, hzs, hol, hul, ← Nat.add_mul]
      congr 1
      omega
    split at h
    · -- the heap's own make
      unfold appH at h
      generalize hv : a.eval x = xv at hr
      generalize opd gl e x' = xa at h hr
      cases hr <;> (try simp only at h) <;> try (cases h; done)
      · split at h
        · cases h
        · rename_i hm
          split at h
          · rename_i hf
            cases h
            obtain ⟨cur, cap', e1, e2, e3, e4, e5⟩ := grow (olds := []) hv (by simp) (run_firstCells_none w.drew _ _ _ _) (by omega) (by simpa using hf)
            simp only [Nat.zero_add, List.nil_append] at e1 e2 e4
            have hcl : us.length ≤ cur.size := by rw [e3, hul]; exact Nat.mul_le_mul_right _ e4
            obtain ⟨G', q1, q2, q3, q4⟩ := hS.drew.newCells i.size news cur el us hu (by rw [hu.length]; exact hcl) (by rw [hu.length]; exact e2)
            exact OpOk.val q1 e1 (.hs _ _ _ _ _ _ _ q2 q3 e4 (by rw [e3]; omega) e5) q4
          · cases h
      · rename_i zz b off n g cap L hrho hlim hcn hcap hcm
        split at h
        · rename_i z0 cs hb
          split at h
          · rename_i hcond
            obtain ⟨c1, c2, c3, c4⟩ := hcond
            cases h
            subst c1; subst c2
            obtain ⟨g', cur, E, vs, fr, p1, p2, p3, pfr, p4, p5, p6, p7⟩ := hS.rehome hb (hS.resF hrho)
            rw [hrho] at p1
            cases p1
            rw [hlim] at p2
            cases p2
            have hvl : vs.length = n * i.size := by rw [← p4.length, c3]
            by_cases hroom : n + m ≤ cap
            · have hlen2 : (n + m) * i.size ≤ cap * i.size := Nat.mul_le_mul_right _ hroom
              have hfit : 0 + n * i.size + us.length ≤ cur.size := by rw [hul, Nat.zero_add, ← Nat.add_mul]; omega
              have hcs' : (cs ++ news).length = (n + m) * i.size := by rw [List.length_append, c3, hnl, Nat.add_mul]
              have htk : cur.toList.take (0 + n * i.size) = vs := by rw [Nat.zero_add, ← c3]; exact p6
              have hsz : (cur.toList.take (0 + n * i.size) ++ us ++ cur.toList.drop (0 + n * i.size + us.length)).toArray.size = cur.size := by
                simp only [List.size_toArray, List.length_append, List.length_take, List.length_drop, Array.length_toList]; omega
              obtain ⟨G', q1, q2, q3, q4⟩ := p7 (cs ++ news) (vs ++ us) (cur.toList.take (0 + n * i.size) ++ us ++ cur.toList.drop (0 + n * i.size + us.length)).toArray (p4.append hu) hsz (by rw [hcs']; omega)
                (by rw [htk, (p4.append hu).length]; exact List.take_left)
              exact OpOk.val q1 (run (by rw [hv]; exact append_room_at ht hi hs p3 pfr hfit hroom)) (.hs _ _ _ _ _ _ _ q2 q3 hroom (by omega) hcm) q4
            · have hreads : ∀ j u, vs[j]? = some u → w.drew.cell? ((⟨g, 0, none⟩ : Addr).add j) = some u := by
                intro j u hu'
                rw [addr_add, Nat.zero_add]
                rw [← p6, List.getElem?_take] at hu'
                split at hu'
                · show w.cell? ⟨g, j, none⟩ = some u
                  simp only [World.cell?, p3]; simpa using hu'
                · cases hu'
              obtain ⟨cur2, cap', e1, e2, e3, e4, e5⟩ := grow (olds := vs) hv hvl (run_firstCells_some w.drew i.size n _ n cap vs hvl hreads) (by omega) c4
              have hcl : (cs ++ news).length ≤ cur2.size := by rw [List.length_append, c3, hnl, ← Nat.add_mul, e3]; exact Nat.mul_le_mul_right _ e4
              obtain ⟨G', q1, q2, q3, q4⟩ := (hS.drew.kill hb).newCells i.size (cs ++ news) cur2 el (vs ++ us) (p4.append hu) hcl (by rw [(p4.append hu).length]; exact e2)
              exact OpOk.val q1 e1 (.hs _ _ _ _ _ _ _ q2 q3 e4 (by rw [e3]; omega) e5) q4
          · cases h
        · cases h
    · -- lists with tickets
      unfold appS at h
      generalize hv : a.eval x = xv at hr
      generalize opd gl e x' = xa at h hr
      cases hr <;> (try simp only at h) <;> try (cases h; done)
      · -- nil
        split at h
        · rename_i hm
          cases h
          subst hm
          exact OpOk.val (Gh.le_refl G) (run (by rw [hv]; exact append_nothing ht hi hs (Nat.le_refl 0))) .nils hS
        · rename_i hm
          split at h
          · rename_i hf
            cases h
            obtain ⟨cur, cap', e1, e2, e3, e4, e5⟩ := grow (olds := []) hv (by simp) (run_firstCells_none w.drew _ _ _ _) (by omega) (by simpa using hf)
            simp only [Nat.zero_add, List.nil_append] at e1 e2 e4
            obtain ⟨G', q1, q2, q3⟩ := hS.drew.newSl i.size m cap' news cur el us hu (by rw [hu.length]; exact e2) hnl e4 e5 (by rw [e3]; exact Nat.le_refl _)
            exact OpOk.val q1 e1 q2 q3
          · cases h
      · rename_i cs n tk g off cap vs hl hii hcn hcm htk
        rcases tk with _ | ⟨b, u, zz⟩
        · cases h
        · simp only at h
          split at h
          · rename_i z0 v0 hb
            split at h
            · rename_i hcond
              obtain ⟨c1, c2, c3, c4⟩ := hcond
              cases h
              subst c1; subst c2
              have hrel : RelV G (.sl cs n (some (b, u, zz))) (.slice (some ⟨g, off, none⟩) n cap) := .sl _ _ _ _ _ _ vs hl hii hcn hcm htk
              by_cases hroom : n + m ≤ cap
              · by_cases hm : m = 0
                · subst hm
                  have hn0 : news = [] := List.eq_nil_of_length_eq_zero (by rw [hnl]; simp)
                  subst hn0
                  obtain ⟨G', q1, q2, q3⟩ := hS.appNone hrel hb
                  have q2' : RelV G' (.sl (cs ++ []) (n + 0) (some (b, u + 1, i.size))) (.slice (some ⟨g, off, none⟩) n cap) := by simpa using q2
                  exact OpOk.val q1 (run (by rw [hv]; exact append_nothing ht hi hs hcn)) q2' q3
                · obtain ⟨cur, E, p1, p2, G', q1, q2, q3⟩ := hS.appRoom hrel hb c3 hu hnl (by omega) hroom
                  exact OpOk.val q1 (run (by rw [hv]; exact append_room_at ht hi hs p1 (.zero _) p2 hroom)) q2 q3
              · have hvl : vs.length = n * i.size := by rw [← hl.length, c3]
                obtain ⟨cur, cap', e1, e2, e3, e4, e5⟩ := grow (olds := vs) hv hvl (run_firstCells_some w.drew i.size n _ n cap vs hvl (by simpa using imm_reads hS.immW hii)) (by omega) c4
                obtain ⟨G', q1, q2, q3⟩ := hS.drew.appGrow (N := n + m) (cap := cap') (cs := cs ++ news) cur el (vs ++ us) (hS.resSl hrel) hb (hl.append hu) (by rw [(hl.append hu).length]; exact e2) (by rw [List.length_append, c3, hnl, Nat.add_mul]) e4 e5 (by rw [e3]; exact Nat.le_refl _)
                exact OpOk.val q1 e1 q2 q3
            · cases h
          · cases h
  · cases h
end
/-! ### Other makes -/
theorem bsl_heap {o : Oper} {t el : TypeId} {len size : Nat} {parts : Array (Nat × Operand)} {zs : List AV} {ps : List (Nat × Nat × Opd)} {hp : Bool} {v : AV} {s' : St}
    (heq : o.op = .buildSlice t len parts) (hu : P.underlying t = some (.slice el)) (hs : szOf P el = some size) (hz : zeroCells' P el = some zs) (hps : cParts (fun i => some (i * size, size)) parts.toList = some ps)
    (hlen : len * size ≤ 2 ^ 24) (hpos : 0 < size) (hzl : zs.length = size) (hE : RelE G gl e a) (hS : RelS G w0 s w)
    (h : evW gl e s (.bsl hp size len (List.replicate len zs).flatten ps) = some (v, s')) : OpOk P G w0 w a o v s' := by
  unfold zeroCells' zeroOf at hz
  obtain ⟨zv, hz1, rfl⟩ := Option.map_eq_some_iff.1 hz
  unfold szOf at hs
  obtain ⟨ie, hie, rfl⟩ := Option.map_eq_some_iff.1 hs
  split at hz1
  · rename_i z hzz
    obtain ⟨it, hit, hz2⟩ := Option.bind_eq_some_iff.1 hzz
    rw [hie] at hit
    cases hit
    have hzr : RelL G (zcells zv) z.cells.toList := toAVa_cells hz1
    have hzs : z.cells.size = ie.size := by have := hzr.length; simp at this; omega
    have hrow : ((Array.range (len * ie.size)).map (z.cells[· % z.cells.size]!)).toList = (List.replicate len z.cells.toList).flatten := by rw [← hzs]; exact rep_cells z.cells len (by omega)
    simp only [evW] at h
    split at h
    · rename_i cs hcs
      obtain ⟨V', e1, e2, e3⟩ := fill_sound hE _ parts.toList ps _ cs ((Array.range (len * ie.size)).map (z.cells[· % z.cells.size]!)) hps hcs (by rw [hrow]; exact rep_rel hzr len)
      have hsz : V'.size = len * ie.size := by rw [e3]; simp
      have hcl : cs.length = len * ie.size := by have := e2.length; simp at this; omega
      have eparts : (parts.map fun (x : Nat × Operand) => (x.1, a.eval x.2)).toList = parts.toList.map fun x => (x.1, a.eval x.2) := by simp
      have hrun : (Instr.buildSlice t len (parts.map fun (i, x) => (i, a.eval x))).run P w = .ok (.slice (some ⟨w.heap.size, 0, none⟩) len len) (w.alloc (.cells V' el)) := by
        by_cases h0 : len * ie.size = 0
        · have hf : Instr.fill (fun i => some (i * ie.size, ie.size)) #[] (parts.toList.map fun x => (x.1, a.eval x.2)) = some V' := by
            rw [← e1]; congr 1; simp [h0]
          have hf' : Instr.fill (fun i => some (i * ie.size, ie.size)) #[] (parts.map fun (x : Nat × Operand) => (x.1, a.eval x.2)).toList = some V' := by rw [eparts]; exact hf
          have hl0 : len = 0 ∨ ie.size = 0 := Nat.mul_eq_zero.1 h0
          simp [Instr.buildSlice, run_underlying hu, sizeOf, typeInfo, hie, h0, Array.range_zero', hf, newRow]
        · exact run_buildSlice w t el len _ V' ie z hu hie hz2 (by omega) h0 (by rw [eparts]; exact e1)
      have hmax : len ≤ maxLen := by
        have : len ≤ len * ie.size := Nat.le_mul_of_pos_right len hpos
        unfold maxLen; omega
      split at h
      · cases h
        obtain ⟨G', q1, q2, q3, q4⟩ := hS.newCells ie.size cs V' el _ e2 (by omega) (by rw [hcl, ← hsz]; simp [← Array.length_toList])
        exact OpOk.val q1 (by simp only [execOp, heq]; exact exec_v hrun) (.hs _ _ _ _ _ _ _ q2 q3 (Nat.le_refl _) (by omega) hmax) q4
      · cases h
        obtain ⟨G', q1, q2, q3⟩ := hS.newSl ie.size len len cs V' el _ e2 (by rw [hcl, ← hsz]; simp [← Array.length_toList]) hcl (Nat.le_refl _) hmax (by omega)
        exact OpOk.val q1 (by simp only [execOp, heq]; exact exec_v hrun) q2 q3
    · cases h
  · cases hz1
theorem bsi_heap {o : Oper} {t el : TypeId} {len size : Nat} {parts : Array (Nat × Operand)} {zs : List AV} {ps : List (Nat × Nat × Opd)} {v : AV} {s' : St}
    (heq : o.op = .buildSlice t len parts) (hu : P.underlying t = some (.slice el)) (hs : szOf P el = some size) (hz : zeroCells' P el = some zs) (hps : cParts (fun i => some (i * size, size)) parts.toList = some ps)
    (hlen : len * size ≤ 2 ^ 24) (hpos : 0 < size) (hzl : zs.length = size) (hE : RelE G gl e a) (hS : RelS G w0 s w)
    (h : evW gl e s (.bsi size len (List.replicate len zs).flatten ps) = some (v, s')) : OpOk P G w0 w a o v s' := by
  unfold zeroCells' zeroOf at hz
  obtain ⟨zv, hz1, rfl⟩ := Option.map_eq_some_iff.1 hz
  unfold szOf at hs
  obtain ⟨ie, hie, rfl⟩ := Option.map_eq_some_iff.1 hs
  split at hz1
  · rename_i z hzz
    obtain ⟨it, hit, hz2⟩ := Option.bind_eq_some_iff.1 hzz
    rw [hie] at hit
    cases hit
    have hzr : RelL G (zcells zv) z.cells.toList := toAVa_cells hz1
    have hzs : z.cells.size = ie.size := by have := hzr.length; simp at this; omega
    have hrow : ((Array.range (len * ie.size)).map (z.cells[· % z.cells.size]!)).toList = (List.replicate len z.cells.toList).flatten := by rw [← hzs]; exact rep_cells z.cells len (by omega)
    simp only [evW] at h
    split at h
    · rename_i cs hcs
      obtain ⟨V', e1, e2, e3⟩ := fill_sound hE _ parts.toList ps _ cs ((Array.range (len * ie.size)).map (z.cells[· % z.cells.size]!)) hps hcs (by rw [hrow]; exact rep_rel hzr len)
      have hsz : V'.size = len * ie.size := by rw [e3]; simp
      have hcl : cs.length = len * ie.size := by have := e2.length; simp at this; omega
      have eparts : (parts.map fun (x : Nat × Operand) => (x.1, a.eval x.2)).toList = parts.toList.map fun x => (x.1, a.eval x.2) := by simp
      have hrun : (Instr.buildSlice t len (parts.map fun (i, x) => (i, a.eval x))).run P w = .ok (.slice (some ⟨w.heap.size, 0, none⟩) len len) (w.alloc (.cells V' el)) := by
        by_cases h0 : len * ie.size = 0
        · have hf : Instr.fill (fun i => some (i * ie.size, ie.size)) #[] (parts.toList.map fun x => (x.1, a.eval x.2)) = some V' := by
            rw [← e1]; congr 1; simp [h0]
          have hf' : Instr.fill (fun i => some (i * ie.size, ie.size)) #[] (parts.map fun (x : Nat × Operand) => (x.1, a.eval x.2)).toList = some V' := by rw [eparts]; exact hf
          have hl0 : len = 0 ∨ ie.size = 0 := Nat.mul_eq_zero.1 h0
          simp [Instr.buildSlice, run_underlying hu, sizeOf, typeInfo, hie, h0, Array.range_zero', hf, newRow]
        · exact run_buildSlice w t el len _ V' ie z hu hie hz2 (by omega) h0 (by rw [eparts]; exact e1)
      have hmax : len ≤ maxLen := by
        have : len ≤ len * ie.size := Nat.le_mul_of_pos_right len hpos
        unfold maxLen; omega
      cases h
      obtain ⟨G', q1, q2, q3⟩ := hS.newImm cs V' el (0, 0) _ e2 (by rw [hcl, ← hsz]; simp [← Array.length_toList])
      exact OpOk.val q1 (by simp only [execOp, heq]; exact exec_v hrun) (.sl _ _ _ _ _ _ _ (e2.mono q1) (fun j u hu => by rw [Nat.zero_add]; exact q2 j u hu) (Nat.le_refl _) hmax trivial) q3
    · cases h
  · cases hz1
theorem mks_heap {o : Oper} {t el : TypeId} {l c : Operand} {l' c' : Opd} {i : TypeInfo} {zs : List AV} {v : AV} {s' : St}
    (heq : o.op = .makeSlice t l c) (hu : P.underlying t = some (.slice el)) (hi : P.info? el = some i) (hz : zeroCells' P el = some zs) (hpos : 0 < i.size) (hzl : zs.length = i.size)
    (h1 : cOpd l = some l') (h2 : cOpd c = some c') (hE : RelE G gl e a) (hS : RelS G w0 s w)
    (h : evW gl e s (.mks i.size i.bytes zs l' c') = some (v, s')) : OpOk P G w0 w a o v s' := by
  unfold zeroCells' zeroOf at hz
  obtain ⟨zv, hz1, rfl⟩ := Option.map_eq_some_iff.1 hz
  split at hz1
  · rename_i z hzz
    obtain ⟨it, hit, hz2⟩ := Option.bind_eq_some_iff.1 hzz
    rw [hi] at hit
    cases hit
    have hzr : RelL G (zcells zv) z.cells.toList := toAVa_cells hz1
    have hzs : z.cells.size = i.size := by have := hzr.length; simp at this; omega
    simp only [evW] at h
    have hrl := hE.opd h1
    have hrc := hE.opd h2
    generalize hvl : a.eval l = lv at hrl
    generalize hvc : a.eval c = cv at hrc
    generalize opd gl e l' = la at h hrl
    generalize opd gl e c' = ca at h hrc
    cases hrl <;> (try simp only at h) <;> try (cases h; done)
    rename_i kl nl
    cases kl <;> (try simp only at h) <;> try (cases h; done)
    cases hrc <;> (try simp only at h) <;> try (cases h; done)
    rename_i kc nc
    cases kc <;> (try simp only at h) <;> try (cases h; done)
    split at h
    · rename_i hcond
      obtain ⟨c1, c2, c3⟩ := hcond
      subst c1
      cases h
      obtain ⟨f1, f2, f3⟩ := fits_le c3
      have hb : (i.bytes : Int) * nl ≤ 281474976710656 := by
        have h4 : ((nl.toNat * i.bytes : Nat) : Int) ≤ 140737488355328 := by generalize nl.toNat * i.bytes = q at f1 ⊢; omega
        rw [Int.natCast_mul, Int.toNat_of_nonneg c2, Int.mul_comm] at h4
        omega
      have hrun := run_make (P := P) w t el i z hu hi hz2 .i64 .i64 nl nl c2 (Int.le_refl _) hb (by omega)
      have hrow : (madeCells z.cells (nl.toNat * i.size)).toList = (List.replicate nl.toNat z.cells.toList).flatten := by unfold madeCells; rw [← hzs]; exact rep_cells z.cells _ (by omega)
      have hsz : (madeCells z.cells (nl.toNat * i.size)).size = nl.toNat * i.size := size_madeCells _ _
      have hrel := rep_rel hzr nl.toNat
      have hcl : (List.replicate nl.toNat (zcells zv)).flatten.length = nl.toNat * i.size := by rw [hrel.length, ← hrow, Array.length_toList, hsz]
      obtain ⟨G', q1, q2, q3, q4⟩ := hS.newCells i.size _ (madeCells z.cells (nl.toNat * i.size)) el _ hrel (by omega) (by rw [hcl, ← hrow]; apply List.take_of_length_le; rw [Array.length_toList, hsz]; exact Nat.le_refl _)
      exact OpOk.val q1 (by simp only [execOp, heq, hvl, hvc]; exact exec_v hrun) (.hs _ _ _ _ _ _ _ q2 q3 (Nat.le_refl _) (by omega) f2) q4
    · cases h
  · cases hz1
theorem cpy_heap {o : Oper} {args : Array Operand} {ts : Array TypeId} {t tx el : TypeId} {x y : Operand} {x' y' : Opd} {size : Nat} {v : AV} {s' : St}
    (heq : o.op = .call { callee := .builtin .copy, args := args, argTypes := ts }) (ha : args.toList = [x, y]) (hts : ts.toList = [t, tx])
    (ht : P.underlying t = some (.slice el)) (hk : (∃ e', P.underlying tx = some (.slice e')) ∨ P.underlying tx = some .string) (hsz : szOf P el = some size) (hpos : 0 < size) (h1 : cOpd x = some x') (h2 : cOpd y = some y') (hE : RelE G gl e a) (hS : RelS G w0 s w)
    (h : evW gl e s (.cpy size x' y') = some (v, s')) : OpOk P G w0 w a o v s' := by
  have ea : args = #[x, y] := by rw [← Array.toArray_toList (xs := args), ha]
  have et : ts = #[t, tx] := by rw [← Array.toArray_toList (xs := ts), hts]
  subst ea; subst et
  have run : ∀ {v' : Value} {w' : World}, (Builtin.copy_ #[t, tx] o.type #[a.eval x, a.eval y]).run P w = .ok v' w' → (execOp a.eval o).run P w = .ok (.value v') w' := by
    intro v' w' hr
    refine call_run heq (X := Builtin.copy_ #[t, tx] o.type #[a.eval x, a.eval y]) ?_ hr
    simp [builtin]
  simp only [evW] at h
  have hr := hE.opd h1
  have hry := hE.opd h2
  generalize hv : a.eval x = xv at hr
  generalize opd gl e x' = xa at h hr
  cases hr <;> (try simp only at h) <;> try (cases h; done)
  rename_i zz b off n g cap L hrho hlim hcn hcap hcm
  split at h
  · rename_i news m z cs hnews hb
    split at h
    · rename_i hz
      split at h
      · rename_i cs' hst
        cases h
        subst hz
        obtain ⟨us, hu, hs, hfirst⟩ := newsOf_sound (P := P) (tx := tx) hnews hry hS hk
        obtain ⟨g1, vs, cur, E, fr, q1, _, q3, ⟨q4, qfr⟩, q5, q6, q7⟩ := hS.cells hb (hS.resF hrho)
        rw [hrho] at q1
        cases q1
        unfold storeL at hst
        split at hst
        · rename_i hfit
          cases hst
          have hun := hu.take (min m n * z)
          have hf : (Builtin.firstCells z (Nat.min m n) (a.eval y)).run P w = .ok (us.take (min m n * z)).toArray w := hfirst (min m n) (Nat.min_le_left _ _)
          generalize us.take (min m n * z) = U at hun hf
          generalize news.take (min m n * z) = N at hun hfit
          obtain ⟨g2, cur2, E2, fr2, p1, p2, p3, p4⟩ := hS.setCells hb (hS.resF hrho) (fillL_rel off q3 hun) (fillL_length cs off _)
          rw [hrho] at p1
          cases p1
          rw [q4] at p2
          cases p2
          have hul : U.length = N.length := hun.length.symm
          have hst2 := run_storeCells_fr P g off E fr U 0 cur w q4 qfr (by rw [hul]; omega) (hun.mem)
          simp only [Nat.add_zero] at hst2
          refine OpOk.val (Gh.le_refl G) (v' := .int .i64 (min m n : Nat)) ?_ (.int _ _) (p4 (cur.toList.take off ++ U ++ cur.toList.drop (off + U.length)).toArray ?_ ?_)
          · refine run ?_
            rw [hv]
            have hlen := hs.len
            simp only [Builtin.copy_, List.getElem?_toArray, List.getElem?_cons_zero, List.getElem?_cons_succ, Sem.run_bind, run_underlying ht, Result.andThen_ok, hlen, szOf_run hsz, hf]
            simp only [hst2, Result.andThen_ok, Sem.run_pure, goInt]
          · simp only [List.size_toArray, List.length_append, List.length_take, List.length_drop, Array.length_toList] at hul ⊢
            omega
          · rw [← q6]
            exact take_mid _ _ _ _ (by rw [hul]; exact hfit) (by simpa using q5)
        · cases hst
      · cases h
    · cases h
  · cases h
theorem s2b_heap {o : Oper} {src dst : TypeId} {x : Operand} {y : Opd} {v : AV} {s' : St} (heq : o.op = .convert src dst x) (h1 : cOpd x = some y) (hcv : ConvAt P src dst .s2b) (hE : RelE G gl e a) (hS : RelS G w0 s w)
    (h : evW gl e s (.conv .s2b y) = some (v, s')) : OpOk P G w0 w a o v s' := by
  simp only [evW] at h
  have hr := hE.opd h1
  generalize hv : a.eval x = xv at hr
  generalize opd gl e y = yv at h hr
  cases hr <;> (try simp only at h) <;> try (cases h; done)
  rename_i str
  split at h
  · rename_i hsmall
    cases h
    obtain ⟨c1, el, c2, c3⟩ := hcv
    have hlen : str.data.toList.length = str.size := by simp
    have hsz : str.size ≤ maxLen := by unfold maxLen; omega
    have hrun := run_bytes_of_string (P := P) w src dst el str c1 c2 c3
    have hrel : ∀ l : List UInt8, RelL G (bytesAV l) (l.map fun b => Value.int .u8 b.toNat) := by
      intro l
      induction l with
      | nil => exact .nil
      | cons b bs ih => exact .cons _ _ _ _ (.int _ _) rfl ih
    have hbl : (bytesAV str.data.toList).length = str.data.toList.length := by simp [bytesAV]
    obtain ⟨G', q1, q2, q3⟩ := hS.drew.newImm (bytesAV str.data.toList) (bytesRow str (grownCap w str.size 0 el)) el _ _ (hrel _) (by
      rw [hbl]
      simp only [bytesRow, Array.toList_append, Array.toList_map]
      rw [List.take_append_of_le_length (by simp)]
      apply List.take_of_length_le
      simp)
    rw [hlen]
    exact OpOk.val q1 (by simp only [execOp, heq, hv]; exact exec_v hrun) (.sl _ _ _ _ _ _ _ ((hrel _).mono q1) (fun j u hu => by rw [Nat.zero_add]; exact q2 j u hu) (grownCap_ge _ _ _ _) (grownCap_le_maxLen _ _ _ _ hsz) trivial) q3
  · cases h
theorem s2h_heap {o : Oper} {src dst : TypeId} {x : Operand} {y : Opd} {v : AV} {s' : St} (heq : o.op = .convert src dst x) (h1 : cOpd x = some y) (hcv : ConvAt P src dst .s2h) (hE : RelE G gl e a) (hS : RelS G w0 s w)
    (h : evW gl e s (.conv .s2h y) = some (v, s')) : OpOk P G w0 w a o v s' := by
  simp only [evW] at h
  have hr := hE.opd h1
  generalize hv : a.eval x = xv at hr
  generalize opd gl e y = yv at h hr
  cases hr <;> (try simp only at h) <;> try (cases h; done)
  rename_i str
  split at h
  · rename_i hsmall
    cases h
    obtain ⟨c1, el, c2, c3⟩ := hcv
    have hlen : str.data.toList.length = str.size := by simp
    have hsz : str.size ≤ maxLen := by unfold maxLen; omega
    have hrun := run_bytes_of_string (P := P) w src dst el str c1 c2 c3
    have hrel : ∀ l : List UInt8, RelL G (bytesAV l) (l.map fun b => Value.int .u8 b.toNat) := by
      intro l
      induction l with
      | nil => exact .nil
      | cons b bs ih => exact .cons _ _ _ _ (.int _ _) rfl ih
    have hbl : (bytesAV str.data.toList).length = str.data.toList.length := by simp [bytesAV]
    have hbs : (bytesRow str (grownCap w str.size 0 el)).size = grownCap w str.size 0 el := by
      have := grownCap_ge w str.size 0 el
      simp only [bytesRow, Array.size_append, Array.size_map, Array.size_replicate, ByteArray.size_data] at this ⊢
      omega
    have hge := grownCap_ge w str.size 0 el
    obtain ⟨G', q1, q2, q3, q4⟩ := hS.drew.newCellsF 1 (bytesAV str.data.toList) (bytesRow str (grownCap w str.size 0 el)) el (_, _) (.inr (Nat.le_refl _)) _ (hrel _) (by rw [hbl, hlen, hbs]; omega) (by
      rw [hbl]
      simp only [bytesRow, Array.toList_append, Array.toList_map]
      rw [List.take_append_of_le_length (by simp)]
      apply List.take_of_length_le
      simp)
    rw [hlen]
    exact OpOk.val q1 (by simp only [execOp, heq, hv]; exact exec_v hrun) (.hs _ _ _ _ _ _ _ q2 q3 (by omega) (by rw [hbs]; omega) (grownCap_le_maxLen _ _ _ _ hsz)) q4
  · cases h
theorem mark_heap {o : Oper} {src dst : TypeId} {x : Operand} {y : Opd} {v : AV} {s' : St} (heq : o.op = .convert src dst x) (h1 : cOpd x = some y) (hcv : ConvAt P src dst .mark) (hE : RelE G gl e a) (hS : RelS G w0 s w)
    (h : evW gl e s (.conv .mark y) = some (v, s')) : OpOk P G w0 w a o v s' := by
  simp only [evW] at h
  have hr := hE.opd h1
  generalize hv : a.eval x = xv at hr
  generalize opd gl e y = yv at h hr
  cases hr <;> (try simp only at h) <;> try (cases h; done)
  rename_i cs n tk g off cap vs hl hi hn hcm htk
  rcases tk with _ | ⟨b, u, zz⟩
  · cases h
  · simp only at h
    split at h
    · rename_i z0 v0 hb
      split at h
      · rename_i hv0
        subst hv0
        cases h
        obtain ⟨hsd, el, c2, c3⟩ := hcv
        subst hsd
        obtain ⟨k, T, t1, t2, t3, t4, t5, t6⟩ := htk
        obtain ⟨pl, hP⟩ := hS
        obtain ⟨hbase, T', cur, E, p1, p2, p3, p4, p5, p6, p7, p8⟩ := hP.at_ b _ hb ⟨by simp, hP.resT t1⟩
        rw [t1] at p1
        cases p1
        rw [← p2, t3] at p6
        have hlt : g < w.heap.size := (Array.getElem?_eq_some_iff.1 p6).1
        have hsh : w.shape? g = some (E, cur.size) := by simp [World.shape?, p6]
        have hgv : w.heap[g] = .cells cur E (0, 0) := (Array.getElem?_eq_some_iff.1 p6).2
        have hfz : (w.freeze ⟨g, cur.size, none⟩ 1).heap = w.heap.setIfInBounds g (.cells cur E (cur.size, cur.size + 1)) := by
          unfold World.freeze
          rw [if_neg (by decide)]
          apply Array.ext_getElem?
          intro j
          rw [Array.getElem?_modify, Array.getElem?_setIfInBounds]
          by_cases hj : g = j
          · subst hj
            simp [hlt, hgv]
          · simp [hj]
        have hrun : (convert src src (.slice (some ⟨g, off, none⟩) n cap)).run P w = .ok (.slice (some ⟨g, off, none⟩) n cap) (w.freeze ⟨g, cur.size, none⟩ 1) := by
          simp [convert, run_underlying c2, run_underlying c3, markStringish, hsh]
        have hos : (w.freeze ⟨g, cur.size, none⟩ 1).os = w.os := by unfold World.freeze; rw [if_neg (by decide)]
        have htp : (w.freeze ⟨g, cur.size, none⟩ 1).tape = w.tape := by unfold World.freeze; rw [if_neg (by decide)]
        have hout : (w.freeze ⟨g, cur.size, none⟩ 1).output = w.output := by unfold World.freeze; rw [if_neg (by decide)]
        exact OpOk.val (Gh.le_refl G) (by simp only [execOp, heq, hv]; exact exec_v hrun) (.sl _ _ _ _ _ _ _ hl hi hn hcm trivial)
          (RelS.markKill ⟨pl, hP⟩ hb t1 cur E (cur.size, cur.size + 1) (by rw [t3]; exact p6) _ (by rw [t3]; exact hfz) hos htp hout)
      · cases h
    · cases h
theorem rng_heap {o : Oper} {t : TypeId} {x : Operand} {y : Opd} {v : AV} {s' : St} (heq : o.op = .range t x) (hu : P.underlying t = some .string) (h1 : cOpd x = some y) (hE : RelE G gl e a) (hS : RelS G w0 s w)
    (h : evW gl e s (.rng y) = some (v, s')) : OpOk P G w0 w a o v s' := by
  simp only [evW] at h
  have hr := hE.opd h1
  generalize hv : a.eval x = xv at hr
  generalize opd gl e y = yv at h hr
  cases hr <;> (try simp only at h) <;> try (cases h; done)
  rename_i str
  cases h
  obtain ⟨G', q1, q2, q3⟩ := hS.newIter str
  refine OpOk.val q1 (v' := .pointer (some ⟨w.heap.size, 0, none⟩)) ?_ (.ptr _ _ _ q2) q3
  simp only [execOp, heq, hv]
  refine exec_v ?_
  simp [Instr.range, run_underlying hu]
theorem nxt_heap {o : Oper} {x : Operand} {y : Opd} {v : AV} {s' : St} (heq : o.op = .next x true) (h1 : cOpd x = some y) (hE : RelE G gl e a) (hS : RelS G w0 s w)
    (h : evW gl e s (.nxt y) = some (v, s')) : OpOk P G w0 w a o v s' := by
  simp only [evW] at h
  have hr := hE.opd h1
  generalize hv : a.eval x = xv at hr
  generalize opd gl e y = yv at h hr
  cases hr <;> (try simp only at h) <;> try (cases h; done)
  rename_i b off g hrho
  cases off with
  | succ k => simp only at h; cases h
  | zero =>
    simp only at h
    split at h
    · rename_i l p hb
      obtain ⟨g', str, q1, q2, q3, q4⟩ := hS.setIter hb (hS.resF hrho)
      rw [hrho] at q1
      cases q1
      subst q2
      have hlen : str.data.toList.length = str.size := by simp
      split at h
      · rename_i hp
        cases h
        have hp' : p < str.size := by rw [← hlen]; exact hp
        have hmk : (⟨str.data.toList.toArray⟩ : ByteArray) = str := by simp
        rw [hmk]
        refine OpOk.val (Gh.le_refl G) (v' := .tuple #[.bool true, .int .i64 p, .int .i32 (Utf8.decode str p).1]) ?_ ?_ (q4 (p + (Utf8.decode str p).2))
        · simp only [execOp, heq, hv]
          refine exec_v ?_
          simp [Instr.next, getObj, setObj, Sem.run, q3, hp', goInt]
        · exact .tup _ _ (.cons _ _ _ _ (.bool _) (.cons _ _ _ _ (.int _ _) (.cons _ _ _ _ (.int _ _) .nil)))
      · rename_i hp
        cases h
        have hp' : ¬ p < str.size := by rw [← hlen]; exact hp
        refine OpOk.val (Gh.le_refl G) (v' := .tuple #[.bool false]) ?_ (.tup _ _ (.cons _ _ _ _ (.bool _) .nil)) hS
        simp only [execOp, heq, hv]
        refine exec_v ?_
        simp [Instr.next, getObj, Sem.run, q3, hp']
    · cases h
end
end Go.Ab
/- The evaluator is sound: operations put together, what is handed to a call, regions. No conditions. -/
set_option linter.unusedSimpArgs false
set_option linter.unusedVariables false
namespace Go.Ab
open Go
section
variable {P : Program} {G : Gh} {w0 : World} {s : St} {w : World} {gl : Nat → AV} {e : Env} {a : Act}
theorem opR_sound {ht : List TypeId} {o : Oper} {m : MOp} {v : AV} (hc : cOp P (eqOks P) ht o = some m) (hE : RelE G gl e a) (hS : RelS G w0 s w) (h : evR gl e s m = some v) : OpOk P G w0 w a o v s := by
  unfold cOp at hc
  split at hc
  case h_8 t x heq =>
    split at hc
    · rename_i n y hn h1
      cases hc
      exact load_heap heq hn h1 hE hS h
    · cases hc
  case h_13 src dst x heq =>
    split at hc
    · rename_i d k y hs hd h1; cases hc; exact conv_heap heq h1 (c := .toInt k) hd hE hS h
    · rename_i k y hs hd h1; cases hc; exact conv_heap heq h1 (c := .itos) hd hE hS h
    · rename_i y hs hd h1; cases hc; exact conv_heap heq h1 (c := .same) ⟨hs, hd⟩ hE hS h
    · rename_i el y hs hd h1
      split at hc
      · rename_i he
        split at hc
        · cases hc; exact conv_heap heq h1 (c := .s2h) ⟨hs, el, hd, he⟩ hE hS h
        · cases hc; exact conv_heap heq h1 (c := .s2b) ⟨hs, el, hd, he⟩ hE hS h
      · cases hc
    · rename_i el y hs hd h1
      split at hc
      · rename_i he; cases hc; exact conv_heap heq h1 (c := .b2s) ⟨el, hs, hd, he⟩ hE hS h
      · rename_i he; cases hc; exact conv_heap heq h1 (c := .r2s) ⟨el, hs, hd, he⟩ hE hS h
      · cases hc
    · rename_i el e2 y hs hd h1
      split at hc
      · rename_i hsd he; cases hc; exact conv_heap heq h1 (c := .mark) ⟨by simpa using hsd, e2, hd, he⟩ hE hS h
      · cases hc
    · cases hc
  case h_33 => cases hc
  all_goals
    exfalso
    revert hc
    repeat' split
    all_goals first
      | (intro hc; cases hc; simp [evR] at h; done)
      | (intro hc; obtain ⟨_, _, rfl⟩ := Option.map_eq_some_iff.1 hc; simp [evR] at h; done)
      | (intro hc; cases hc; done)
theorem opW_sound {ht : List TypeId} {o : Oper} {m : MOp} {v : AV} {s' : St} (hc : cOp P (eqOks P) ht o = some m) (hE : RelE G gl e a) (hS : RelS G w0 s w) (h : evW gl e s m = some (v, s')) : OpOk P G w0 w a o v s' := by
  unfold cOp at hc
  split at hc
  case h_4 t heq =>
    obtain ⟨z, hz, rfl⟩ := Option.map_eq_some_iff.1 hc
    simp only [evW] at h
    cases h
    exact alloc_heap heq hz hS
  case h_5 t x heq =>
    split at hc
    · obtain ⟨y, h1, rfl⟩ := cOpd_map hc
      exact box_heap heq h1 hE hS h
    · cases hc
  case h_7 t len parts heq =>
    split at hc
    · rename_i el hu
      split at hc
      · rename_i size zs hs hz
        split at hc
        · rename_i ps hps
          split at hc
          · rename_i hcond
            split at hc
            · cases hc
              exact bsi_heap heq hu hs hz hps hcond.1 hcond.2.1 hcond.2.2 hE hS h
            · cases hc
              exact bsl_heap heq hu hs hz hps hcond.1 hcond.2.1 hcond.2.2 hE hS h
          · cases hc
        · cases hc
      · cases hc
    · cases hc
  case h_9 t x y heq =>
    split at hc
    · rename_i n x' y' hn h1 h2
      cases hc
      exact store_heap heq hn h1 h2 hE hS h
    · cases hc
  case h_13 src dst x heq =>
    split at hc
    · rename_i d k y hs hd h1; cases hc; simp [evW] at h
    · rename_i k y hs hd h1; cases hc; simp [evW] at h
    · rename_i y hs hd h1; cases hc; simp [evW] at h
    · rename_i el y hs hd h1
      split at hc
      · rename_i he
        split at hc
        · cases hc; exact s2h_heap heq h1 ⟨hs, el, hd, he⟩ hE hS h
        · cases hc; exact s2b_heap heq h1 ⟨hs, el, hd, he⟩ hE hS h
      · cases hc
    · rename_i el y hs hd h1
      split at hc
      · cases hc; simp [evW] at h
      · cases hc; simp [evW] at h
      · cases hc
    · rename_i el e2 y hs hd h1
      split at hc
      · rename_i hsd he; cases hc; exact mark_heap heq h1 ⟨by simpa using hsd, e2, hd, he⟩ hE hS h
      · cases hc
    · cases hc
  case h_25 args ts heq =>
    split at hc
    · rename_i x y t u ha hts
      have zero : ∀ {el : TypeId} {i : TypeInfo} {zs : List AV}, P.info? el = some i → zeroCells' P el = some zs → zs.length = i.size → ∃ z, i.zero = some z ∧ z.cells.size = i.size := by
        intro el i zs hi hz hl
        unfold zeroCells' zeroOf at hz
        obtain ⟨zv, hz1, rfl⟩ := Option.map_eq_some_iff.1 hz
        split at hz1
        · rename_i z hzz
          obtain ⟨it, hit, hz2⟩ := Option.bind_eq_some_iff.1 hzz
          rw [hi] at hit
          cases hit
          have hzr : RelL G (zcells zv) z.cells.toList := toAVa_cells hz1
          exact ⟨z, hz2, by have := hzr.length; simp at this; omega⟩
        · cases hz1
      split at hc
      · rename_i el e2 x' y' hu hu2 h1 h2
        split at hc
        · rename_i i zs hi hz
          split at hc
          · rename_i hcond
            cases hc
            obtain ⟨z, z1, z2⟩ := zero hi hz hcond.2
            exact app_heap heq ha hts hu (.inl ⟨e2, hu2⟩) hi z1 z2 hcond.1 h1 h2 hE hS h
          · cases hc
        · cases hc
      · rename_i el x' y' hu hu2 h1 h2
        split at hc
        · rename_i i zs hi hz
          split at hc
          · rename_i hcond
            cases hc
            obtain ⟨z, z1, z2⟩ := zero hi hz hcond.2
            exact app_heap heq ha hts hu (.inr hu2) hi z1 z2 hcond.1 h1 h2 hE hS h
          · cases hc
        · cases hc
      · cases hc
    · cases hc
  case h_26 args ts heq =>
    split at hc
    · rename_i x y t u ha hts
      split at hc
      · rename_i el e2 x' y' hu hu2 h1 h2
        split at hc
        · rename_i n hn
          cases hc
          exact cpy_heap heq ha hts hu (.inl ⟨e2, hu2⟩) hn (by omega) h1 h2 hE hS h
        · cases hc
      · rename_i el x' y' hu hu2 h1 h2
        split at hc
        · rename_i n hn
          cases hc
          exact cpy_heap heq ha hts hu (.inr hu2) hn (by omega) h1 h2 hE hS h
        · cases hc
      · cases hc
    · cases hc
  case h_28 t l c heq =>
    split at hc
    · rename_i el hu
      split at hc
      · rename_i i zs x y hi hz h1 h2
        split at hc
        · rename_i hcond
          cases hc
          exact mks_heap heq hu hi hz hcond.1 hcond.2 h1 h2 hE hS h
        · cases hc
      · cases hc
    · cases hc
  case h_29 t x heq =>
    split at hc
    · rename_i hu
      obtain ⟨y, h1, rfl⟩ := cOpd_map hc
      exact rng_heap heq hu h1 hE hS h
    · cases hc
  case h_30 x heq =>
    obtain ⟨y, h1, rfl⟩ := cOpd_map hc
    exact nxt_heap heq h1 hE hS h
  case h_33 => cases hc
  all_goals
    exfalso
    revert hc
    repeat' split
    all_goals first
      | (intro hc; cases hc; simp [evW] at h; done)
      | (intro hc; obtain ⟨_, _, rfl⟩ := Option.map_eq_some_iff.1 hc; simp [evW] at h; done)
      | (intro hc; cases hc; done)
/-! ### What is handed to a call -/
theorem freeze_sound {n : Nat} {x x' : AV} {s' : St} {v : Value} (h : freeze n s x = some (x', s')) (hx : RelV G x v) (hS : RelS G w0 s w) : ∃ G', G.le G' ∧ RelV G' x' v ∧ RelS G' w0 s' w := by
  by_cases hh : ∃ z b o k, x = .hs z b o k
  · obtain ⟨z, b, o, k, rfl⟩ := hh
    simp only [freeze] at h
    split at h
    · rename_i z0 cs hb
      split at h
      · rename_i hcond
        cases h
        cases hx with
        | hs _ _ _ _ g cap L hrho hlim hn hc hm =>
          obtain ⟨g', cur, E, vs, fr, G', q1, q2, q3, q4, q5, q6⟩ := hS.freeze hb (hS.resF hrho)
          rw [hrho] at q1
          cases q1
          refine ⟨G', q3, .sl _ _ _ _ _ _ ((vs.drop o).take (k * n)) (((q4.drop o).take _).mono q3) (fun j u hu => ?_) hn hm trivial, q6⟩
          rw [List.getElem?_take] at hu
          split at hu
          · rw [List.getElem?_drop] at hu; exact q5 _ _ hu
          · cases hu
      · cases h
    · rename_i z0 cs hb
      split at h
      · rename_i hcond
        cases h
        cases hx with
        | hs _ _ _ _ g cap L hrho hlim hn hc hm =>
          obtain ⟨g', vs, q1, q4, q5⟩ := hS.froz hb (hS.resF hrho)
          rw [hrho] at q1
          cases q1
          refine ⟨G, Gh.le_refl G, .sl _ _ _ _ _ _ ((vs.drop o).take (k * n)) ((q4.drop o).take _) (fun j u hu => ?_) hn hm trivial, hS⟩
          rw [List.getElem?_take] at hu
          split at hu
          · rw [List.getElem?_drop] at hu; exact q5 _ _ hu
          · cases hu
      · cases h
    · cases h
  · have : freeze n s x = some (x, s) := by
      cases x <;> first | rfl | exact absurd ⟨_, _, _, _, rfl⟩ hh
    rw [this] at h
    cases h
    exact ⟨G, Gh.le_refl G, hx, hS⟩
theorem freezeL_sound {args : List Operand} : ∀ {ts : List TypeId} {l : List (Nat × Opd)} {G : Gh} {s s' : St} {vs : List AV}, cArgs P args ts = some l → freezeL gl e s l = some (vs, s') → RelE G gl e a → RelS G w0 s w →
    ∃ G', G.le G' ∧ RelT G' vs (args.map a.eval) ∧ RelS G' w0 s' w := by
  induction args with
  | nil =>
    intro ts l G s s' vs hc h hE hS
    simp only [cArgs] at hc
    cases hc
    simp only [freezeL] at h
    cases h
    exact ⟨G, Gh.le_refl G, .nil, hS⟩
  | cons x xs ih =>
    intro ts l G s s' vs hc h hE hS
    simp only [cArgs] at hc
    split at hc
    · rename_i y ys h1 h2
      cases hc
      simp only [freezeL] at h
      split at h
      · rename_i v s1 hf
        split at h
        · rename_i vs' s2 hl
          cases h
          obtain ⟨G1, q1, q2, q3⟩ := freeze_sound hf (hE.opd h1) hS
          obtain ⟨G2, p1, p2, p3⟩ := ih h2 hl (hE.mono q1) q3
          exact ⟨G2, q1.trans p1, .cons _ _ _ _ (q2.mono p1) p2, p3⟩
        · cases h
      · cases h
    · cases hc
structure CallOk (P : Program) (gl : Nat → AV) (w0 : World) (call : Calls') : Prop where
  there : ∀ f args s v s', call f args s = some (v, s') → ∃ fn, P.funcs[f]? = some fn ∧ fn.body.isSome = true ∧ (fn.name == "runtime.NumGoroutine") = false
  goes : ∀ f args s v s' G w vals, call f args s = some (v, s') → RelT G args vals → RelS G w0 s w → (∀ g, RelV G (gl g) (.pointer (some ⟨g, 0, none⟩))) →
    Calls P f vals.toArray w fun e w' => ∃ G' v', G.le G' ∧ e = .returned v' ∧ RelV G' v v' ∧ RelS G' w0 s' w'
theorem op_sound {ht : List TypeId} {o : Oper} {m : MOp} {v : AV} {s' : St} {n : Nat} {call : Calls'} (hcall : CallOk P gl w0 call) (hc : cOp P (eqOks P) ht o = some m) (hE : RelE G gl e a) (hS : RelS G w0 s w)
    (h : ev1 gl call e s m = some (v, s', n)) {K : Act → World → Prop} {Q : Exit → Act → World → Prop}
    (hK : ∀ G' v' w', G.le G' → RelV G' v v' → RelS G' w0 s' w' → K (a.put o.dst v') w') : o.wp P a w K Q := by
  have ok : OpOk P G w0 w a o v s' → o.wp P a w K Q := by
    rintro ⟨G', v', w', nx, h1, h2, h3, h4, h5⟩
    unfold Oper.wp
    rw [h2]
    rcases h3 with rfl | ⟨rfl, rfl⟩
    · exact hK G' v' w' h1 h4 h5
    · exact hK G' undef w' h1 h4 h5
  unfold ev1 at h
  split at h
  · rename_i v0 hp
    cases h
    obtain ⟨v', h1, h2⟩ := opP_sound hc hE hS.immW hp
    exact ok (OpOk.val (Gh.le_refl G) h1 h2 hS)
  · split at h
    · rename_i hp v0 hr
      cases h
      exact ok (opR_sound hc hE hS hr)
    · split at h
      · split at h
        · rename_i vs s1 hf
          split at h
          · rename_i v0 s2 hcl
            cases h
            -- a call
            unfold cOp at hc
            split at hc
            case h_27 f' args' ts heq =>
              obtain ⟨l, hl, hq⟩ := Option.map_eq_some_iff.1 hc
              injection hq with hq1 hq2
              subst hq1; subst hq2
              obtain ⟨G1, q1, q2, q3⟩ := freezeL_sound hl hf hE hS
              obtain ⟨fn, f1, f2, f3⟩ := hcall.there _ _ _ _ _ hcl
              have hrun : (execOp a.eval o).run P w = .ok (.enter f' (args'.toList.map a.eval).toArray) w := by
                simp only [execOp, heq]
                have f3' : ¬ fn.name = "runtime.NumGoroutine" := by simpa using f3
                have hbn' : ¬ fn.body = none := by intro hb; rw [hb] at f2; cases f2
                simp [resolve, Deferred.ofValue, Act.eval, invoke, callFunc, f1, f3', hbn']
                apply Array.ext'
                simp
              unfold Oper.wp
              rw [hrun, Oper.upon_enter]
              refine (hcall.goes _ _ _ _ _ _ _ _ hcl q2 q3 (fun g => (hE.glob g).mono q1)).mono ?_
              rintro e' w' ⟨G', v', p1, rfl, p3, p4⟩
              exact hK G' v' w' (q1.trans p1) p3 p4
            all_goals
              exfalso
              revert hc
              repeat' split
              all_goals first
                | (intro hc; cases hc; done)
                | (intro hc; obtain ⟨_, _, hq⟩ := Option.map_eq_some_iff.1 hc; cases hq; done)
          · cases h
        · cases h
      · rename_i x args
        split at h
        · rename_i f cs hx
          split at h
          · rename_i vs s1 hf
            split at h
            · rename_i v0 s2 hcl
              cases h
              unfold cOp at hc
              split at hc
              case h_31 t' args' ts heq =>
                obtain ⟨l, hl, hq⟩ := Option.map_eq_some_iff.1 hc
                injection hq with hq1 hq2
                subst hq1; subst hq2
                obtain ⟨G1, q1, q2, q3⟩ := freezeL_sound hl hf hE hS
                obtain ⟨fn, f1, f2, f3⟩ := hcall.there _ _ _ _ _ hcl
                have hr : RelV G (opd gl e (.s t')) (a.eval (.tmp t')) := hE.opd rfl
                rw [hx] at hr
                generalize hv : a.eval (.tmp t') = xv at hr
                cases hr with
                | clo _ _ caps hcs =>
                have hrun : (execOp a.eval o).run P w = .ok (.enter f (args'.toList.map a.eval ++ caps.toList).toArray) w := by
                  simp only [execOp, heq]
                  have f3' : ¬ fn.name = "runtime.NumGoroutine" := by simpa using f3
                  have hbn' : ¬ fn.body = none := by intro hb; rw [hb] at f2; cases f2
                  simp [resolve, Deferred.ofValue, hv, invoke, callFunc, f1, f3', hbn']
                unfold Oper.wp
                rw [hrun, Oper.upon_enter]
                refine (hcall.goes _ _ _ _ _ _ _ _ hcl (q2.app (hcs.mono q1)) q3 (fun g => (hE.glob g).mono q1)).mono ?_
                rintro e' w' ⟨G', v', p1, rfl, p3, p4⟩
                exact hK G' v' w' (q1.trans p1) p3 p4
              all_goals
                exfalso
                revert hc
                repeat' split
                all_goals first
                  | (intro hc; cases hc; done)
                  | (intro hc; obtain ⟨_, _, hq⟩ := Option.map_eq_some_iff.1 hc; cases hq; done)
            · cases h
          · cases h
        · cases h
      · split at h
        · rename_i v0 s2 hw
          cases h
          exact ok (opW_sound hc hE hS hw)
        · cases h
/-! ### Regions -/
theorem cIns_parts {ht : List TypeId} {ops : Array Oper} {o : Oper} {i : MIns} (h : cIns P (eqOks P) ht ops o = some i) :
    cOp P (eqOks P) ht o = some i.op ∧ i.dst = o.dst ∧ ((o.guard = none ∧ i.guard = none) ∨ ∃ j b d, o.guard = some (j, b) ∧ (ops[j]?).bind (·.dst) = some d ∧ i.guard = some (d, b)) := by
  unfold cIns at h
  split at h
  · rename_i m hm
    split at h
    · rename_i hg
      cases h
      exact ⟨hm, rfl, .inl ⟨hg, rfl⟩⟩
    · rename_i j b hg
      split at h
      · rename_i d hd
        cases h
        exact ⟨hm, rfl, .inr ⟨j, b, d, hg, hd, rfl⟩⟩
      · cases h
  · cases h
theorem guard_sound {ops : Array Oper} {o : Oper} {i : MIns} {α : Type} {x y : Option α} {r : α} (hE : RelE G gl e a)
    (hg : (o.guard = none ∧ i.guard = none) ∨ ∃ j b d, o.guard = some (j, b) ∧ (ops[j]?).bind (·.dst) = some d ∧ i.guard = some (d, b)) (h : guardR e i.guard x y = some r) :
    (Region.wanted o (yielded ops a.tmps) = true ∧ x = some r) ∨ (Region.wanted o (yielded ops a.tmps) = false ∧ y = some r) := by
  rcases hg with ⟨h1, h2⟩ | ⟨j, b, d, h1, h2, h3⟩
  · rw [h2] at h
    exact .inl ⟨by simp [Region.wanted, h1], h⟩
  · rw [h3] at h
    simp only [guardR] at h
    split at h
    · rename_i c hc
      have hr := hE.at_ d
      rw [hc] at hr
      have hv : a.tmps.getD d undef = .bool c := by
        generalize a.tmps.getD d undef = q at hr
        cases hr; rfl
      have hv' : a.tmps[d]? = some (.bool c) := by
        rw [Array.getD_eq_getD_getElem?] at hv
        cases hq : a.tmps[d]? with
        | none => rw [hq] at hv; cases hv
        | some q => rw [hq] at hv; simp at hv; rw [hv]
      have hy : yielded ops a.tmps j = some c := by simp [yielded, h2, hv']
      split at h
      · rename_i hcb
        exact .inl ⟨by simp only [Region.wanted, h1, hy]; simpa using hcb, h⟩
      · rename_i hcb
        exact .inr ⟨by simp only [Region.wanted, h1, hy]; simpa using hcb, h⟩
    · rename_i hc
      have hr := hE.at_ d
      rw [hc] at hr
      have hv : a.tmps.getD d undef = .tuple #[] := by
        generalize a.tmps.getD d undef = q at hr
        cases hr with
        | tup _ vs h' =>
          obtain ⟨l⟩ := vs
          cases h'
          rfl
      have hv' : a.tmps[d]? = none ∨ a.tmps[d]? = some (.tuple #[]) := by
        rw [Array.getD_eq_getD_getElem?] at hv
        cases hq : a.tmps[d]? with
        | none => exact .inl rfl
        | some q => rw [hq] at hv; simp at hv; rw [hv]; exact .inr rfl
      have hy : yielded ops a.tmps j = none := by
        rcases hv' with hv' | hv' <;> simp [yielded, h2, hv']
      exact .inr ⟨by simp only [Region.wanted, h1, hy]; rfl, h⟩
    · cases h
theorem put_defers (a : Act) (d : Option Nat) (v : Value) : (a.put d v).defers = a.defers := by cases d <;> rfl
theorem evOps_sound {ht : List TypeId} {ops : Array Oper} {call : Calls'} (hcall : CallOk P gl w0 call) {e' : Env} {s' : St} {Q : Exit → Act → World → Prop} : ∀ (is : List MIns) (k : Nat) (G : Gh) (e : Env) (s : St) (a : Act) (w : World),
    cInss P (eqOks P) ht ops (ops.toList.drop k) = some is → evOps gl call is e s = some (e', s') → RelE G gl e a → RelS G w0 s w →
    (∀ G' a' w', G.le G' → RelE G' gl e' a' → RelS G' w0 s' w' → a'.defers = a.defers → Q .normal a' w') → wpOps P ops Q (List.range' k (ops.size - k)) a w := by
  intro is
  induction is with
  | nil =>
    intro k G e s a w hc h hE hS hQ
    have hk : ops.size ≤ k := by
      cases hd : ops.toList.drop k with
      | nil => simpa using List.drop_eq_nil_iff.1 hd
      | cons o os => rw [hd] at hc; simp only [cInss] at hc; split at hc <;> cases hc
    rw [show ops.size - k = 0 by omega]
    simp only [evOps] at h
    cases h
    exact hQ G a w (Gh.le_refl G) hE hS rfl
  | cons i is ih =>
    intro k G e s a w hc h hE hS hQ
    cases hd : ops.toList.drop k with
    | nil => rw [hd] at hc; simp only [cInss] at hc; cases hc
    | cons o os =>
      rw [hd] at hc
      simp only [cInss] at hc
      split at hc
      · rename_i i0 is0 hi his
        cases hc
        have hk : k < ops.size := by
          rcases Nat.lt_or_ge k ops.size with h' | h'
          · exact h'
          · rw [List.drop_eq_nil_of_le (by simpa using h')] at hd; cases hd
        have ho : ops[k]? = some o := by
          have : (ops.toList.drop k)[0]? = some o := by rw [hd]; rfl
          simpa using this
        have hos : ops.toList.drop (k + 1) = os := by
          have : (ops.toList.drop k).drop 1 = os := by rw [hd]; rfl
          simpa [List.drop_drop] using this
        rw [show ops.size - k = (ops.size - (k + 1)) + 1 by omega, List.range'_succ]
        obtain ⟨h1, h2, h3⟩ := cIns_parts hi
        simp only [evOps] at h
        simp only [wpOps, ho]
        rcases guard_sound hE h3 h with ⟨hw, hx⟩ | ⟨hw, hx⟩
        · rw [if_pos hw]
          left
          unfold opR at hx
          split at hx
          · rename_i v s1 n hev
            refine op_sound hcall h1 hE hS hev (fun G' v' w' hG hv hs => ?_)
            refine ih (k + 1) G' _ _ _ _ (by rw [hos]; exact his) hx ?_ hs (fun G2 a2 w2 g1 g2 g3 g4 => hQ G2 a2 w2 (hG.trans g1) g2 g3 (by rw [g4, put_defers]))
            rw [h2]
            exact (hE.mono hG).put o.dst hv
          · cases hx
        · rw [if_neg (by rw [hw]; simp)]
          refine ih (k + 1) G _ _ _ _ (by rw [hos]; exact his) hx ?_ hS (fun G2 a2 w2 g1 g2 g3 g4 => hQ G2 a2 w2 g1 g2 g3 (by rw [g4, put_defers]))
          rw [h2]
          exact hE.put o.dst (.tup [] #[] .nil)
      · cases hc
end
end Go.Ab
/- The evaluator is sound: regions whose operations may come in more orders than one. No conditions. -/
set_option linter.unusedSimpArgs false
set_option linter.unusedVariables false
namespace Go.Ab
open Go
/-! ### What an operation looks at -/
section
variable {gl : Nat → AV} {e1 e2 : Env}
def Same (e1 e2 : Env) (b : Nat) : Prop := ∀ t, b.testBit t = true → e1.at t = e2.at t
theorem Same.opd {x : Opd} (h : Same e1 e2 (opdB x)) : opd gl e1 x = opd gl e2 x := by
  cases x with
  | s i => exact h i Nat.testBit_two_pow_self
  | c v => rfl
  | g i => rfl
theorem opdBs_acc (l : List Opd) : ∀ (b : Nat) (t : Nat), (l.foldl (fun b x => b ||| opdB x) b).testBit t = (b.testBit t || l.any fun x => (opdB x).testBit t) := by
  induction l with
  | nil => intro b t; simp
  | cons x xs ih => intro b t; simp only [List.foldl_cons, ih, Nat.testBit_or, List.any_cons, Bool.or_assoc]
theorem Same.opds {l : List Opd} (h : Same e1 e2 (opdBs l)) : ∀ x ∈ l, Ab.opd gl e1 x = Ab.opd gl e2 x := by
  intro x hx
  refine Same.opd (fun t ht => h t ?_)
  rw [opdBs, opdBs_acc]
  simp only [Nat.zero_testBit, Bool.false_or, List.any_eq_true]
  exact ⟨x, hx, ht⟩
theorem map_same {l : List Opd} (h : ∀ x ∈ l, opd gl e1 x = opd gl e2 x) : l.map (opd gl e1) = l.map (opd gl e2) := List.map_congr_left h
theorem fill_same {cells : List AV} {ps : List (Nat × Nat × Opd)} (h : ∀ x ∈ ps.map (·.2.2), opd gl e1 x = opd gl e2 x) : fill gl e1 cells ps = fill gl e2 cells ps := by
  induction ps generalizing cells with
  | nil => rfl
  | cons p ps ih =>
    obtain ⟨off, size, x⟩ := p
    have hx := h x (by simp)
    have ih' : ∀ c, fill gl e1 c ps = fill gl e2 c ps := fun c => ih (fun y hy => h y (by simp at hy ⊢; exact .inr hy))
    simp only [fill, hx, ih']
theorem freezeL_same {s : St} {l : List (Nat × Opd)} (h : ∀ x ∈ l.map (·.2), opd gl e1 x = opd gl e2 x) : freezeL gl e1 s l = freezeL gl e2 s l := by
  induction l generalizing s with
  | nil => rfl
  | cons p ps ih =>
    obtain ⟨n, x⟩ := p
    have hx := h x (by simp)
    have ih' : ∀ s, freezeL gl e1 s ps = freezeL gl e2 s ps := fun s => ih (fun y hy => h y (by simp at hy ⊢; exact .inr hy))
    simp only [freezeL, hx, ih']
theorem ev1_same {call : Calls'} {s : St} {m : MOp} (h : Same e1 e2 (reads m)) : ev1 gl call e1 s m = ev1 gl call e2 s m := by
  cases m with
  | pick c a b => have q := Same.opds (gl := gl) h; simp only [ev1, evP, evR, evW, q c (by simp), q a (by simp), q b (by simp)]
  | bin op x y => have q := Same.opds (gl := gl) h; simp only [ev1, evP, evR, evW, q x (by simp), q y (by simp)]
  | eqv n k x y => have q := Same.opds (gl := gl) h; simp only [ev1, evP, evR, evW, q x (by simp), q y (by simp)]
  | ixa n x y => have q := Same.opds (gl := gl) h; simp only [ev1, evP, evR, evW, q x (by simp), q y (by simp)]
  | ixs x y => have q := Same.opds (gl := gl) h; simp only [ev1, evP, evR, evW, q x (by simp), q y (by simp)]
  | ixp l n x y => have q := Same.opds (gl := gl) h; simp only [ev1, evP, evR, evW, q x (by simp), q y (by simp)]
  | ix l n b x y => have q := Same.opds (gl := gl) h; simp only [ev1, evP, evR, evW, q x (by simp), q y (by simp)]
  | store n x y => have q := Same.opds (gl := gl) h; simp only [ev1, evP, evR, evW, q x (by simp), q y (by simp)]
  | cpy n x y => have q := Same.opds (gl := gl) h; simp only [ev1, evP, evR, evW, q x (by simp), q y (by simp)]
  | app hp n b x y => have q := Same.opds (gl := gl) h; simp only [ev1, evP, evR, evW, q x (by simp), q y (by simp)]
  | mks n b z x y => have q := Same.opds (gl := gl) h; simp only [ev1, evP, evR, evW, q x (by simp), q y (by simp)]
  | slc n x l hh =>
    have q := Same.opds (gl := gl) h
    have ql : l.map (opd gl e1) = l.map (opd gl e2) := by cases l <;> simp_all
    have qh : hh.map (opd gl e1) = hh.map (opd gl e2) := by cases hh <;> simp_all
    simp only [ev1, evP, evR, evW, q x (by simp), ql, qh]
  | sls x l hh =>
    have q := Same.opds (gl := gl) h
    have ql : l.map (opd gl e1) = l.map (opd gl e2) := by cases l <;> simp_all
    have qh : hh.map (opd gl e1) = hh.map (opd gl e2) := by cases hh <;> simp_all
    simp only [ev1, evP, evR, evW, q x (by simp), ql, qh]
  | mn l => have q := map_same (Same.opds (gl := gl) h); simp only [ev1, evP, evR, evW, q]
  | mx l => have q := map_same (Same.opds (gl := gl) h); simp only [ev1, evP, evR, evW, q]
  | call f args => have q := freezeL_same (s := s) (Same.opds (gl := gl) h); simp only [ev1, evP, evR, q]
  | callv x args =>
    have q := Same.opds (gl := gl) h
    have q' := freezeL_same (gl := gl) (s := s) (l := args) (fun y hy => q y (by simp at hy ⊢; exact .inr hy))
    simp only [ev1, evP, evR, q x (by simp), q']
  | mkc f l => have q := map_same (Same.opds (gl := gl) h); simp only [ev1, evP, evR, evW, q]
  | build z ps => have q := fill_same (cells := z) (Same.opds (gl := gl) h); simp only [ev1, evP, evR, evW, q]
  | bsl hp n len z ps => have q := fill_same (cells := z) (Same.opds (gl := gl) h); simp only [ev1, evP, evR, evW, q]
  | bsi n len z ps => have q := fill_same (cells := z) (Same.opds (gl := gl) h); simp only [ev1, evP, evR, evW, q]
  | alloc z => rfl
  | conv c x => have q := Same.opd (gl := gl) (x := x) h; cases c <;> simp only [ev1, evP, evR, evW, q]
  | mv x => have q := Same.opd (gl := gl) (x := x) h; simp only [ev1, evP, evR, evW, q]
  | un op x => have q := Same.opd (gl := gl) (x := x) h; simp only [ev1, evP, evR, evW, q]
  | mki t x => have q := Same.opd (gl := gl) (x := x) h; simp only [ev1, evP, evR, evW, q]
  | lens x => have q := Same.opd (gl := gl) (x := x) h; simp only [ev1, evP, evR, evW, q]
  | fa o x => have q := Same.opd (gl := gl) (x := x) h; simp only [ev1, evP, evR, evW, q]
  | fld o n x => have q := Same.opd (gl := gl) (x := x) h; simp only [ev1, evP, evR, evW, q]
  | load n x => have q := Same.opd (gl := gl) (x := x) h; simp only [ev1, evP, evR, evW, q]
  | nchk x => have q := Same.opd (gl := gl) (x := x) h; simp only [ev1, evP, evR, evW, q]
  | tas t z b x => have q := Same.opd (gl := gl) (x := x) h; simp only [ev1, evP, evR, evW, q]
  | ext i x => have q := Same.opd (gl := gl) (x := x) h; simp only [ev1, evP, evR, evW, q]
  | len x => have q := Same.opd (gl := gl) (x := x) h; simp only [ev1, evP, evR, evW, q]
  | box x => have q := Same.opd (gl := gl) (x := x) h; simp only [ev1, evP, evR, evW, q]
  | rng x => have q := Same.opd (gl := gl) (x := x) h; simp only [ev1, evP, evR, evW, q]
  | nxt x => have q := Same.opd (gl := gl) (x := x) h; simp only [ev1, evP, evR, evW, q]
end
theorem ev1_loud {gl : Nat → AV} {call : Calls'} {e : Env} {s s' : St} {m : MOp} {v : AV} {n : Nat} (h : ev1 gl call e s m = some (v, s', n)) :
    n ≤ 2 ∧ (n ≠ 2 → s' = s) ∧ (n = 0 → ∀ s2, ev1 gl call e s2 m = some (v, s2, 0)) := by
  unfold ev1 at h
  split at h
  · rename_i v0 hp
    cases h
    exact ⟨by omega, fun _ => rfl, fun _ s2 => by unfold ev1; rw [hp]⟩
  · split at h
    · cases h; exact ⟨by omega, fun _ => rfl, fun h => by omega⟩
    · split at h
      · split at h
        · split at h
          · cases h; exact ⟨by omega, fun h => by omega, fun h => by omega⟩
          · cases h
        · cases h
      · split at h
        · split at h
          · split at h
            · cases h; exact ⟨by omega, fun h => by omega, fun h => by omega⟩
            · cases h
          · cases h
        · cases h
      · split at h
        · rename_i v1 s1 hw
          cases h
          cases m with
          | bsi n len z ps =>
            simp only [evW] at hw
            split at hw
            · rename_i cs hcs
              cases hw
              refine ⟨by simp [loudOf], fun _ => rfl, fun _ s2 => ?_⟩
              simp only [ev1, evP, evR, evW, hcs, loudOf]
            · cases hw
          | _ => exact ⟨Nat.le_refl 2, fun h => absurd rfl h, fun h => absurd (show (2 : Nat) = 0 from h) (by decide)⟩
        · cases h
theorem ev1_look {gl : Nat → AV} {call : Calls'} {e : Env} {s s' : St} {m : MOp} {v : AV} (h : ev1 gl call e s m = some (v, s', 1)) :
    ∀ s2, s2.get (blockOf gl e m) = s.get (blockOf gl e m) → ev1 gl call e s2 m = some (v, s2, 1) := by
  intro s2 hs2
  unfold ev1 at h ⊢
  split at h
  · cases h
  · rename_i hp
    split at h
    · rename_i v0 hr
      cases h
      have : evR gl e s2 m = some v := by
        cases m <;> simp only [evR] at hr ⊢ <;> try (cases hr; done)
        · rename_i c x
          cases hx : opd gl e x <;> simp only [hx] at hr ⊢ <;> try (cases hr; done)
          simp only [blockOf, hx] at hs2
          rw [hs2]; exact hr
        · rename_i n x
          cases hx : opd gl e x <;> simp only [hx] at hr ⊢ <;> try (cases hr; done)
          simp only [blockOf, hx] at hs2
          rw [hs2]; exact hr
      simp only [this]
    · split at h
      · split at h
        · split at h
          · cases h
          · cases h
        · cases h
      · split at h
        · split at h
          · split at h
            · cases h
            · cases h
          · cases h
        · cases h
      · split at h
        · exfalso
          have hl : ∀ m, loudOf m ≠ 1 := fun m => by cases m <;> simp [loudOf]
          have h1 := congrArg (fun r : Option (AV × St × Nat) => r.map fun p => p.2.2) h
          exact hl m (Option.some.inj h1)
        · cases h
/-! Two values that are one. -/
mutual
theorem same_eq : ∀ (a b : AV), same a b = true → a = b
  | .undef, b, h => by cases b <;> first | rfl | (simp [same] at h; done)
  | .bool a, b, h => by cases b <;> first | (simp [same] at h; done) | (simp [same] at h; rw [h])
  | .int k a, b, h => by cases b <;> first | (simp [same] at h; done) | (simp [same] at h; rw [h.1, h.2])
  | .str a, b, h => by cases b <;> first | (simp [same] at h; done) | (simp [same] at h; rw [h])
  | .nilp, b, h => by cases b <;> first | rfl | (simp [same] at h; done)
  | .ptr a c, b, h => by cases b <;> first | (simp [same] at h; done) | (simp [same] at h; rw [h.1, h.2])
  | .rp a, b, h => by cases b <;> first | (simp [same] at h; done) | (simp only [same] at h; rw [sameL_eq _ _ h])
  | .nils, b, h => by cases b <;> first | rfl | (simp [same] at h; done)
  | .sl a n t, b, h => by
    cases b <;> first | (simp [same] at h; done) | (simp only [same, Bool.and_eq_true, beq_iff_eq] at h; obtain ⟨⟨h1, h2⟩, h3⟩ := h; rw [sameL_eq _ _ h1, h2, h3])
  | .hs a c d f, b, h => by cases b <;> first | (simp [same] at h; done) | (simp [same] at h; obtain ⟨⟨⟨h1, h2⟩, h3⟩, h4⟩ := h; rw [h1, h2, h3, h4])
  | .nili, b, h => by cases b <;> first | rfl | (simp [same] at h; done)
  | .iface t v, b, h => by cases b <;> first | (simp [same] at h; done) | (simp only [same, Bool.and_eq_true, beq_iff_eq] at h; rw [h.1, same_eq _ _ h.2])
  | .agg a, b, h => by cases b <;> first | (simp [same] at h; done) | (simp only [same] at h; rw [sameL_eq _ _ h])
  | .tup a, b, h => by cases b <;> first | (simp [same] at h; done) | (simp only [same] at h; rw [sameL_eq _ _ h])
  | .clo f a, b, h => by cases b <;> first | (simp [same] at h; done) | (simp only [same, Bool.and_eq_true, beq_iff_eq] at h; rw [h.1, sameL_eq _ _ h.2])
theorem sameL_eq : ∀ (a b : List AV), sameL a b = true → a = b
  | [], b, h => by cases b <;> first | rfl | (simp [sameL] at h; done)
  | x :: xs, b, h => by cases b <;> first | (simp [sameL] at h; done) | (simp only [sameL, Bool.and_eq_true] at h; rw [same_eq _ _ h.1, sameL_eq _ _ h.2])
end
theorem sameO_eq {a b : Option Obj} (h : sameO a b = true) : a = b := by
  cases a with
  | none => cases b with
    | none => rfl
    | some y => simp [sameO] at h
  | some x => cases b with
    | none => cases x <;> simp [sameO] at h
    | some y =>
      cases x <;> cases y <;> simp only [sameO, Bool.and_eq_true, beq_iff_eq] at h <;> try (cases h; done)
      · rw [h.1, sameL_eq _ _ h.2]
      · rw [h.1, h.2]
      · rw [h.1, h.2]
      · rfl
      · rw [h.1, sameL_eq _ _ h.2]
/-! ### Blocks made ahead of all -/
section
variable {G : Gh} {w0 : World} {s : St} {w : World}
def Gh.hold (G : Gh) (b : Nat) (x : Bool) : Gh := { G with res := fun c => if c = b then x else G.res c }
theorem Gh.hold_le (G : Gh) (b : Nat) (x : Bool) : G.le0 (G.hold b x) := ⟨rfl, fun _ _ _ h => h, fun _ _ h => h, fun _ _ h => h, fun _ _ _ h => h, fun _ _ _ => rfl⟩
theorem RelS.reserve1 (h : RelS G w0 s w) (z : Nat) (zs : List AV) : RelS (G.hold s.next true) w0 (s.new (.cells z zs)) w := by
  obtain ⟨pl, h⟩ := h
  have hle := G.hold_le s.next true
  have old : ∀ {c : Nat} {q : Obj}, (G.hold s.next true).Live c q → c ≠ s.next ∧ G.Live c q := by
    intro c q hq
    have hne : c ≠ s.next := fun e => by have := hq.2; simp [Gh.hold, e] at this
    refine ⟨hne, hq.1, ?_⟩
    have := hq.2
    simpa [Gh.hold, hne] using this
  refine ⟨pl, h.below, h.base, h.imm, fun b hb => ?_, fun b o hb hd => ?_, fun b c o q hb hc ho hq hp => ?_, fun b v T hT sz u hb => ?_, fun b hb => ?_⟩
  · have hb' : s.next + 1 ≤ b := hb
    obtain ⟨g1, g2, g3, g4⟩ := h.fresh b (by omega)
    exact ⟨by rw [St.get_new_ne _ _ (by omega)]; exact g1, g2, g3, g4⟩
  · obtain ⟨hne, hl⟩ := old hd
    rw [St.get_new_ne _ _ hne] at hb
    obtain ⟨h1, h2⟩ := h.at_ b o hb hl
    exact ⟨h1, h2.keep0 hle rfl (fun _ => rfl)⟩
  · obtain ⟨hne, hl⟩ := old ho
    obtain ⟨hne', hl'⟩ := old hq
    rw [St.get_new_ne _ _ hne] at hb
    rw [St.get_new_ne _ _ hne'] at hc
    exact h.apart b c o q hb hc hl hl' hp
  · by_cases e : b = s.next
    · subst e; rw [St.get_new_same] at hb; cases hb
    · rw [St.get_new_ne _ _ e] at hb
      exact h.tkV b v T hT sz u hb
  · by_cases e : b = s.next
    · subst e
      obtain ⟨g1, g2, g3, g4⟩ := h.fresh s.next (Nat.le_refl _)
      exact ⟨Nat.lt_succ_self _, g2, g3, g4⟩
    · have hb' : G.res b = true := by simpa [Gh.hold, e] using hb
      obtain ⟨g1, g2, g3, g4⟩ := h.resV b hb'
      exact ⟨Nat.lt_succ_of_lt g1, g2, g3, g4⟩
theorem RelS.place (h : RelS G w0 s w) {b sz : Nat} {cs : List AV} (hr : G.res b = true) (hb : s.get b = some (.cells sz cs)) (cur : Array Value) (E : TypeId) (vs : List Value)
    (hc : RelL G cs vs) (hl : cs.length ≤ cur.size) (ht : cur.toList.take cs.length = vs) :
    ∃ G', G.le0 G' ∧ (∀ c, G'.res c = if c = b then false else G.res c) ∧ G'.rho b = some w.heap.size ∧ G'.lim b = some (sz, cur.size) ∧ RelS G' w0 s (w.alloc (.cells cur E)) := by
  obtain ⟨pl, h⟩ := h
  obtain ⟨f0, f2, f3, f4⟩ := h.resV b hr
  have hle1 := Gh.cellsAt_le G b w.heap.size sz cur.size f2 f3
  have hle := hle1.tole0.trans ((G.cellsAt b w.heap.size sz cur.size).hold_le b false)
  have old : ∀ {c : Nat} {q : Obj}, c ≠ b → ((G.cellsAt b w.heap.size sz cur.size).hold b false).Live c q → G.Live c q := by
    intro c q hne hq
    refine ⟨hq.1, ?_⟩
    have := hq.2
    simpa [Gh.hold, Gh.cellsAt, hne] using this
  refine ⟨(G.cellsAt b w.heap.size sz cur.size).hold b false, hle, fun c => rfl, by simp [Gh.hold, Gh.cellsAt], by simp [Gh.hold, Gh.cellsAt], fun c => if c = b then w.heap.size else pl c, ?_⟩
  refine ⟨h.below.alloc h.base _, Nat.le_trans h.base (by simp), fun g o v hi => ?_, fun c hb' => ?_, fun c o hc' hd => ?_, fun c d o q hc' hd' ho hq hp => ?_, fun c v T hT sz' u hc' => ?_, fun c hc' => ?_⟩
  · have hi' : G.imm g o = some v := hi
    obtain ⟨h1, h2⟩ := h.imm g o v hi'
    exact ⟨by rw [cell_of_heap (heap_alloc_lt w _ (h.imm_lt hi'))]; exact h1, h2⟩
  · obtain ⟨g1, g2, g3, g4⟩ := h.fresh c hb'
    have hne : c ≠ b := by omega
    exact ⟨g1, by simp [Gh.hold, Gh.cellsAt, hne, g2], by simp [Gh.hold, Gh.cellsAt, hne, g3], g4⟩
  · by_cases e : c = b
    · subst e
      rw [hb] at hc'
      cases hc'
      simp only [if_true]
      exact ⟨h.base, by simp [Gh.hold, Gh.cellsAt], cur, E, vs, (0, 0), heap_alloc_new w _, by simp [Gh.hold, Gh.cellsAt], hc.mono0 hle, hl, ht, fun o => h.imm_new o, .zero _⟩
    · simp only [e, if_false]
      obtain ⟨h1, h2⟩ := h.at_ c o hc' (old e hd)
      exact ⟨h1, h2.keep0 hle (heap_alloc_lt w _ (h2.lt hd.1)) (fun _ => rfl)⟩
  · by_cases e : c = b <;> by_cases e' : d = b
    · rw [e, e']
    · simp only [e, if_true, e', if_false] at hp
      exact absurd (h.pl_lt hd' (old e' hq)) (by omega)
    · simp only [e', if_true, e, if_false] at hp
      exact absurd (h.pl_lt hc' (old e ho)) (by omega)
    · simp only [e, e', if_false] at hp
      exact h.apart c d o q hc' hd' (old e ho) (old e' hq) hp
  · exact h.tkV c v T hT sz' u hc'
  · have hne : c ≠ b := fun e => by subst e; simp [Gh.hold] at hc'
    have hc2 : G.res c = true := by simpa [Gh.hold, hne, Gh.cellsAt] using hc'
    obtain ⟨g1, g2, g3, g4⟩ := h.resV c hc2
    exact ⟨g1, by simp [Gh.hold, Gh.cellsAt, hne, g2], by simp [Gh.hold, Gh.cellsAt, hne, g3], g4⟩
def idAt (az : AZ) : List MIns → Nat → Nat → Option Nat
  | [], _, _ => none
  | i :: is, n, j => match az i, j with
    | some _, 0 => some n
    | none, 0 => none
    | some _, j + 1 => idAt az is (n + 1) j
    | none, j + 1 => idAt az is n j
theorem idAt_ge (az : AZ) : ∀ (is : List MIns) (n j b : Nat), idAt az is n j = some b → n ≤ b := by
  intro is
  induction is with
  | nil => intro n j b h; cases h
  | cons i is ih =>
    intro n j b h
    simp only [idAt] at h
    split at h
    · cases h; exact Nat.le_refl _
    · cases h
    · exact Nat.le_of_succ_le (ih _ _ _ h)
    · exact ih _ _ _ h
theorem idAt_inj (az : AZ) : ∀ (is : List MIns) (n j k b : Nat), idAt az is n j = some b → idAt az is n k = some b → j = k := by
  intro is
  induction is with
  | nil => intro n j k b h; cases h
  | cons i is ih =>
    intro n j k b h h'
    cases hz : az i with
    | none =>
      cases j with
      | zero => simp [idAt, hz] at h
      | succ j => cases k with
        | zero => simp [idAt, hz] at h'
        | succ k => simp only [idAt, hz] at h h'; rw [ih _ _ _ _ h h']
    | some zs =>
      cases j with
      | zero => cases k with
        | zero => rfl
        | succ k =>
          simp only [idAt, hz] at h h'
          cases h
          have := idAt_ge _ _ _ _ _ h'
          omega
      | succ j => cases k with
        | zero =>
          simp only [idAt, hz] at h h'
          cases h'
          have := idAt_ge _ _ _ _ _ h
          omega
        | succ k => simp only [idAt, hz] at h h'; rw [ih _ _ _ _ h h']
theorem RelS.reserveL (az : AZ) : ∀ (is : List MIns) {G : Gh} {s : St}, RelS G w0 s w → ∃ G', G.le0 G' ∧ (∀ b, G'.res b = true ↔ G.res b = true ∨ ∃ j, idAt az is s.next j = some b) ∧ RelS G' w0 (reserve az is s) w := by
  intro is
  induction is with
  | nil => intro G s h; exact ⟨G, G.le0_refl, fun b => by simp [idAt], h⟩
  | cons i is ih =>
    intro G s h
    cases hz : az i with
    | none =>
      obtain ⟨G', q1, q2, q3⟩ := ih h
      refine ⟨G', q1, fun b => ?_, by simpa only [reserve, hz] using q3⟩
      rw [q2 b]
      constructor
      · rintro (q | ⟨j, q⟩)
        · exact .inl q
        · exact .inr ⟨j + 1, by simpa only [idAt, hz] using q⟩
      · rintro (q | ⟨j, q⟩)
        · exact .inl q
        · cases j with
          | zero => simp [idAt, hz] at q
          | succ j => exact .inr ⟨j, by simpa only [idAt, hz] using q⟩
    | some zs =>
      obtain ⟨G', q1, q2, q3⟩ := ih (h.reserve1 zs.1 zs.2)
      refine ⟨G', (G.hold_le s.next true).trans q1, fun b => ?_, by simpa only [reserve, hz] using q3⟩
      rw [q2 b]
      constructor
      · rintro (q | ⟨j, q⟩)
        · by_cases e : b = s.next
          · exact .inr ⟨0, by simp only [idAt, hz, e]⟩
          · exact .inl (by simpa [Gh.hold, e] using q)
        · exact .inr ⟨j + 1, by simp only [idAt, hz]; exact q⟩
      · rintro (q | ⟨j, q⟩)
        · exact .inl (by simp only [Gh.hold]; split <;> simp [q])
        · cases j with
          | zero => simp only [idAt, hz] at q; cases q; exact .inl (by simp [Gh.hold])
          | succ j => exact .inr ⟨j, by simp only [idAt, hz] at q; exact q⟩
end
theorem cOp_alloc {P : Program} {oks : List (Nat × EqF)} {ht : List TypeId} {o : Oper} {zs : List AV} (hc : cOp P oks ht o = some (.alloc zs)) : ∃ t, o.op = .alloc t ∧ zeroCells' P t = some zs := by
  unfold cOp at hc
  split at hc
  case h_4 t heq =>
    obtain ⟨z, hz, hq⟩ := Option.map_eq_some_iff.1 hc
    injection hq with hq
    subst hq
    exact ⟨t, heq, hz⟩
  all_goals
    exfalso
    revert hc
    repeat' split
    all_goals first
      | (intro hc; cases hc; done)
      | (intro hc; obtain ⟨_, _, hq⟩ := Option.map_eq_some_iff.1 hc; cases hq; done)
theorem alloc_place {P : Program} {G : Gh} {w0 w : World} {s : St} {a : Act} {o : Oper} {t : TypeId} {zs : List AV} {b : Nat} (heq : o.op = .alloc t) (hz : zeroCells' P t = some zs) (hS : RelS G w0 s w)
    (hr : G.res b = true) (hb : s.get b = some (.cells 0 zs)) :
    ∃ G' v' w', G.le0 G' ∧ (∀ c, G'.res c = if c = b then false else G.res c) ∧ (execOp a.eval o).run P w = .ok (.value v') w' ∧ RelV G' (.ptr b 0) v' ∧ RelS G' w0 s w' := by
  unfold zeroCells' zeroOf at hz
  obtain ⟨zv, hz1, rfl⟩ := Option.map_eq_some_iff.1 hz
  split at hz1
  · rename_i z hzz
    obtain ⟨it, hit, hz2⟩ := Option.bind_eq_some_iff.1 hzz
    have hrel : RelL G (zcells zv) z.cells.toList := toAVa_cells hz1
    have hl : (zcells zv).length = z.cells.size := by have := hrel.length; simpa using this
    obtain ⟨G', q1, q2, q3, _, q4⟩ := hS.place hr hb z.cells t z.cells.toList hrel (by omega) (by rw [hl]; simp [← Array.length_toList])
    refine ⟨G', .pointer (some ⟨w.heap.size, 0, none⟩), _, q1, q2, ?_, .ptr _ _ _ q3, q4⟩
    simp only [execOp, heq]
    refine exec_v ?_
    simp [Instr.alloc, zeroValue, typeInfo, hit, hz2, newVar, newRow]
  · cases hz1
theorem cOp_mks {P : Program} {oks : List (Nat × EqF)} {ht : List TypeId} {o : Oper} {size bytes : Nat} {zs : List AV} {l' c' : Opd} (hc : cOp P oks ht o = some (.mks size bytes zs l' c')) :
    ∃ t el l c i, o.op = .makeSlice t l c ∧ P.underlying t = some (.slice el) ∧ P.info? el = some i ∧ zeroCells' P el = some zs ∧ size = i.size ∧ bytes = i.bytes ∧ 0 < i.size ∧ zs.length = i.size ∧ cOpd l = some l' ∧ cOpd c = some c' := by
  unfold cOp at hc
  split at hc
  case h_28 t l c heq =>
    split at hc
    · rename_i el hu
      split at hc
      · rename_i i zs' x y hi hz h1 h2
        split at hc
        · rename_i hcond
          injection hc with hc
          injection hc with e1 e2 e3 e4 e5
          subst e1; subst e2; subst e3; subst e4; subst e5
          exact ⟨t, el, l, c, i, heq, hu, hi, hz, rfl, rfl, hcond.1, hcond.2, h1, h2⟩
        · cases hc
      · cases hc
    · cases hc
  all_goals
    exfalso
    revert hc
    repeat' split
    all_goals first
      | (intro hc; cases hc; done)
      | (intro hc; obtain ⟨_, _, hq⟩ := Option.map_eq_some_iff.1 hc; cases hq; done)
theorem mks_place {P : Program} {gl : Nat → AV} {G : Gh} {e : Env} {w0 w : World} {s : St} {a : Act} {o : Oper} {t el : TypeId} {l c : Operand} {l' c' : Opd} {i : TypeInfo} {zs : List AV} {b : Nat} {v : AV} {zc : Nat × List AV}
    (heq : o.op = .makeSlice t l c) (hu : P.underlying t = some (.slice el)) (hi : P.info? el = some i) (hz : zeroCells' P el = some zs) (hpos : 0 < i.size) (hzl : zs.length = i.size)
    (h1 : cOpd l = some l') (h2 : cOpd c = some c') (hE : RelE G gl e a) (hS : RelS G w0 s w)
    (h : madeV i.size i.bytes zs b (opd gl e l') (opd gl e c') = some (v, zc)) (hr : G.res b = true) (hb : s.get b = some (.cells zc.1 zc.2)) :
    ∃ G' v' w', G.le0 G' ∧ (∀ c, G'.res c = if c = b then false else G.res c) ∧ (execOp a.eval o).run P w = .ok (.value v') w' ∧ RelV G' v v' ∧ RelS G' w0 s w' := by
  unfold zeroCells' zeroOf at hz
  obtain ⟨zv, hz1, rfl⟩ := Option.map_eq_some_iff.1 hz
  split at hz1
  · rename_i z hzz
    obtain ⟨it, hit, hz2⟩ := Option.bind_eq_some_iff.1 hzz
    rw [hi] at hit
    cases hit
    have hzr : RelL G (zcells zv) z.cells.toList := toAVa_cells hz1
    have hzs : z.cells.size = i.size := by have := hzr.length; simp at this; omega
    have hrl := hE.opd h1
    have hrc := hE.opd h2
    generalize hvl : a.eval l = lv at hrl
    generalize hvc : a.eval c = cv at hrc
    generalize opd gl e l' = la at h hrl
    generalize opd gl e c' = ca at h hrc
    cases hrl <;> (try simp only [madeV] at h) <;> try (cases h; done)
    rename_i kl nl
    cases kl <;> (try simp only [madeV] at h) <;> try (cases h; done)
    cases hrc <;> (try simp only [madeV] at h) <;> try (cases h; done)
    rename_i kc nc
    cases kc <;> (try simp only [madeV] at h) <;> try (cases h; done)
    split at h
    · rename_i hcond
      obtain ⟨c1, c2, c3⟩ := hcond
      subst c1
      cases h
      obtain ⟨f1, f2, f3⟩ := fits_le c3
      have hb2 : (i.bytes : Int) * nl ≤ 281474976710656 := by
        have h4 : ((nl.toNat * i.bytes : Nat) : Int) ≤ 140737488355328 := by generalize nl.toNat * i.bytes = q at f1 ⊢; omega
        rw [Int.natCast_mul, Int.toNat_of_nonneg c2, Int.mul_comm] at h4
        omega
      have hrun := run_make (P := P) w t el i z hu hi hz2 .i64 .i64 nl nl c2 (Int.le_refl _) hb2 (by omega)
      have hrow : (madeCells z.cells (nl.toNat * i.size)).toList = (List.replicate nl.toNat z.cells.toList).flatten := by unfold madeCells; rw [← hzs]; exact rep_cells z.cells _ (by omega)
      have hsz : (madeCells z.cells (nl.toNat * i.size)).size = nl.toNat * i.size := size_madeCells _ _
      have hrel := rep_rel hzr nl.toNat
      have hcl : (List.replicate nl.toNat (zcells zv)).flatten.length = nl.toNat * i.size := by rw [hrel.length, ← hrow, Array.length_toList, hsz]
      obtain ⟨G', q1, q2, q3, q4, q5⟩ := hS.place hr hb (madeCells z.cells (nl.toNat * i.size)) el _ hrel (by simp only; omega) (by simp only; rw [hcl, ← hrow]; apply List.take_of_length_le; rw [Array.length_toList, hsz]; exact Nat.le_refl _)
      refine ⟨G', _, _, q1, q2, by simp only [execOp, heq, hvl, hvc]; exact exec_v hrun, .hs _ _ _ _ _ _ _ q3 q4 (Nat.le_refl _) (by omega) f2, q5⟩
    · cases h
  · cases hz1
/-! ### The order of the text -/
def wantedE (e : Env) (g : Option (Nat × Bool)) : Prop := g = none ∨ ∃ d b, g = some (d, b) ∧ e.at d = .bool b
def unwantedE (e : Env) (g : Option (Nat × Bool)) : Prop := ∃ d b, g = some (d, b) ∧ ((∃ c, e.at d = .bool c ∧ (c == b) = false) ∨ e.at d = .tup [])
structure StepAt (gl : Nat → AV) (call : Calls') (Es : Nat → Env) (Ss : Nat → St) (Vs : Nat → AV) (Ls : Nat → Nat) (j : Nat) (i : MIns) : Prop where
  env : Es (j + 1) = (Es j).put i.dst (Vs j)
  way : (unwantedE (Es j) i.guard ∧ Vs j = .tup [] ∧ Ss (j + 1) = Ss j ∧ Ls j = 0) ∨ (wantedE (Es j) i.guard ∧ ev1 gl call (Es j) (Ss j) i.op = some (Vs j, Ss (j + 1), Ls j)) ∨ (Ss (j + 1) = Ss j ∧ Ls j = 1)
def More (gl : Nat → AV) (az : AZ) (Es : Nat → Env) (Ss : Nat → St) (Vs : Nat → AV) (Ls Bs : Nat → Nat) (id : Option Nat) (j : Nat) (i : MIns) : Prop :=
  (id = none ∧ (Ls j = 1 → Bs j = blockOf gl (Es j) i.op) ∧ ¬ (∃ zs, az i = some zs)) ∨
  (∃ b zs, id = some b ∧ (∃ z, az i = some z) ∧ placeV gl (Es j) i.op b = some (Vs j, zs) ∧ (Ss j).get b = some (.cells zs.1 zs.2) ∧ Ss (j + 1) = Ss j ∧ Ls j = 1 ∧ Bs j = b)
theorem allocZ_guard {gl : Nat → AV} {e : Env} {is : List MIns} {i : MIns} {zs : Nat × List AV} (h : allocZ gl e is i = some zs) : i.guard = none := by
  unfold allocZ at h
  split at h
  · rename_i h1 h2; exact h2
  · rename_i h1 h2; exact h2
  · cases h
theorem trace_loud {gl : Nat → AV} {call : Calls'} {az : AZ} {e' : Env} {s' : St} {l : List Rec} : ∀ (is : List MIns) (n : Nat) (e : Env) (s : St) (acc : List Rec), evLoud gl call az is n e s acc = some (e', s', l) →
    ∃ (Es : Nat → Env) (Ss : Nat → St) (Vs : Nat → AV) (Ls Bs : Nat → Nat), Es 0 = e ∧ Ss 0 = s ∧ Es is.length = e' ∧ Ss is.length = s' ∧ l = acc.reverse ++ (List.range is.length).map (fun j => ⟨Ls j, Bs j, Ss j, Ss (j + 1)⟩) ∧
      ∀ j i, is[j]? = some i → (StepAt gl call Es Ss Vs Ls j i ∧ ((∃ zs, az i = some zs) ∨ (unwantedE (Es j) i.guard ∧ Vs j = .tup [] ∧ Ss (j + 1) = Ss j ∧ Ls j = 0) ∨ (wantedE (Es j) i.guard ∧ ev1 gl call (Es j) (Ss j) i.op = some (Vs j, Ss (j + 1), Ls j)))) ∧ More gl az Es Ss Vs Ls Bs (idAt az is n j) j i := by
  intro is
  induction is with
  | nil =>
    intro n e s acc h
    simp only [evLoud] at h
    cases h
    exact ⟨fun _ => e', fun _ => s', fun _ => .undef, fun _ => 0, fun _ => 0, rfl, rfl, rfl, rfl, by simp, fun j i hj => by simp at hj⟩
  | cons i is ih =>
    intro n e s acc h
    simp only [evLoud] at h
    have fin : ∀ (n' : Nat) (v : AV) (s1 : St) (k b : Nat), evLoud gl call az is n' (e.put i.dst v) s1 (⟨k, b, s, s1⟩ :: acc) = some (e', s', l) → (∀ j, idAt az (i :: is) n (j + 1) = idAt az is n' j) →
        (((∃ zs, az i = some zs) ∧ s1 = s ∧ k = 1) ∨ (unwantedE e i.guard ∧ v = .tup [] ∧ s1 = s ∧ k = 0) ∨ (wantedE e i.guard ∧ ev1 gl call e s i.op = some (v, s1, k))) →
        ((idAt az (i :: is) n 0 = none ∧ (k = 1 → b = blockOf gl e i.op) ∧ ¬ (∃ zs, az i = some zs)) ∨ (∃ b' zs, idAt az (i :: is) n 0 = some b' ∧ (∃ z, az i = some z) ∧ placeV gl e i.op b' = some (v, zs) ∧ s.get b' = some (.cells zs.1 zs.2) ∧ s1 = s ∧ k = 1 ∧ b = b')) →
        ∃ (Es : Nat → Env) (Ss : Nat → St) (Vs : Nat → AV) (Ls Bs : Nat → Nat), Es 0 = e ∧ Ss 0 = s ∧ Es (i :: is).length = e' ∧ Ss (i :: is).length = s' ∧ l = acc.reverse ++ (List.range (i :: is).length).map (fun j => ⟨Ls j, Bs j, Ss j, Ss (j + 1)⟩) ∧
          ∀ j i', (i :: is)[j]? = some i' → (StepAt gl call Es Ss Vs Ls j i' ∧ ((∃ zs, az i' = some zs) ∨ (unwantedE (Es j) i'.guard ∧ Vs j = .tup [] ∧ Ss (j + 1) = Ss j ∧ Ls j = 0) ∨ (wantedE (Es j) i'.guard ∧ ev1 gl call (Es j) (Ss j) i'.op = some (Vs j, Ss (j + 1), Ls j)))) ∧ More gl az Es Ss Vs Ls Bs (idAt az (i :: is) n j) j i' := by
      intro n' v s1 k b hev hid hway hmore
      obtain ⟨Es, Ss, Vs, Ls, Bs, h1, h2, h3, h4, h5, h6⟩ := ih _ _ _ _ hev
      refine ⟨fun | 0 => e | k + 1 => Es k, fun | 0 => s | k + 1 => Ss k, fun | 0 => v | k + 1 => Vs k, fun | 0 => k | k + 1 => Ls k, fun | 0 => b | k + 1 => Bs k, rfl, rfl, h3, h4, ?_, fun j i' hj => ?_⟩
      · rw [h5, List.length_cons, List.range_succ_eq_map]
        simp [h2, Function.comp_def]
      · cases j with
        | zero =>
          simp at hj
          subst hj
          have h2' : Ss 0 = s1 := h2
          refine ⟨⟨⟨h1, ?_⟩, ?_⟩, ?_⟩
          · rcases hway with ⟨_, c, d⟩ | ⟨a, b, c, d⟩ | ⟨a, b⟩
            · exact .inr (.inr ⟨h2'.trans c, d⟩)
            · exact .inl ⟨a, b, h2'.trans c, d⟩
            · exact .inr (.inl ⟨a, by show ev1 gl call e s i.op = some (v, Ss 0, k); rw [h2']; exact b⟩)
          · rcases hway with ⟨c, _, d⟩ | ⟨a, b, c, d⟩ | ⟨a, b⟩
            · exact .inl c
            · exact .inr (.inl ⟨a, b, h2'.trans c, d⟩)
            · exact .inr (.inr ⟨a, by show ev1 gl call e s i.op = some (v, Ss 0, k); rw [h2']; exact b⟩)
          · rcases hmore with h | ⟨b', zs, m1, m2, m3, m4, m5, m6, m7⟩
            · exact .inl h
            · exact .inr ⟨b', zs, m1, m2, m3, m4, h2'.trans m5, m6, m7⟩
        | succ j =>
          obtain ⟨⟨k1, k2⟩, k3⟩ := h6 j i' (by simpa using hj)
          exact ⟨⟨⟨k1.env, k1.way⟩, k2⟩, by rw [hid j]; exact k3⟩
    split at h
    · rename_i zs hz
      split at h
      · rename_i v zv hpl
        unfold placeR at h
        split at h
        · rename_i hsm
          have hget := sameO_eq hsm
          exact fin (n + 1) v s 1 n h (fun j => by simp only [idAt, hz]) (.inl ⟨⟨zs, hz⟩, rfl, rfl⟩) (.inr ⟨n, zv, by simp only [idAt, hz], ⟨zs, hz⟩, hpl, hget, rfl, rfl, rfl⟩)
        · cases h
      · cases h
    · rename_i hz
      have hno : ¬ (∃ zs, az i = some zs) := by rintro ⟨zs, q⟩; rw [hz] at q; cases q
      have hid : ∀ j, idAt az (i :: is) n (j + 1) = idAt az is n j := fun j => by simp only [idAt, hz]
      have hid0 : idAt az (i :: is) n 0 = none := by simp only [idAt, hz]
      unfold guardR at h
      split at h
      · rename_i hg
        unfold opR at h
        split at h
        · rename_i v s1 k hev
          exact fin n v s1 k _ h hid (.inr (.inr ⟨.inl hg, hev⟩)) (.inl ⟨hid0, fun _ => rfl, hno⟩)
        · cases h
      · rename_i d b hg
        split at h
        · rename_i c hc
          split at h
          · rename_i hcb
            unfold opR at h
            split at h
            · rename_i v s1 k hev
              have : c = b := by simpa using hcb
              subst this
              exact fin n v s1 k _ h hid (.inr (.inr ⟨.inr ⟨d, c, hg, hc⟩, hev⟩)) (.inl ⟨hid0, fun _ => rfl, hno⟩)
            · cases h
          · rename_i hcb
            exact fin n (.tup []) s 0 0 h hid (.inr (.inl ⟨⟨d, b, hg, .inl ⟨c, hc, by simpa using hcb⟩⟩, rfl, rfl, rfl⟩)) (.inl ⟨hid0, fun hn => (by cases hn), hno⟩)
        · rename_i hc
          exact fin n (.tup []) s 0 0 h hid (.inr (.inl ⟨⟨d, b, hg, .inr hc⟩, rfl, rfl, rfl⟩)) (.inl ⟨hid0, fun hn => (by cases hn), hno⟩)
        · cases h
/-! ### Any order -/
section
variable {gl : Nat → AV} {call : Calls'} (is : List MIns) (Es : Nat → Env) (Ss : Nat → St) (Vs : Nat → AV) (Ls : Nat → Nat) (e0 : Env)
def envL (L : Nat → Bool) : Nat → Env
  | 0 => e0
  | k + 1 => match is[k]? with
    | some i => if L k then (envL L k).put i.dst (Vs k) else envL L k
    | none => envL L k
def kOf (L : Nat → Bool) : Nat → Nat
  | 0 => 0
  | k + 1 => if L k && Ls k == 2 then k + 1 else kOf L k
end
theorem put_len (e : Env) (d : Option Nat) (v : AV) : List.length (e.put d v) = List.length e := by cases d <;> simp [Env.put]
theorem put_at_ne (e : Env) (d : Option Nat) (v : AV) (t : Nat) (h : d ≠ some t) : (e.put d v).at t = e.at t := by
  cases d with
  | none => rfl
  | some d =>
    have : d ≠ t := fun q => h (by rw [q])
    simp [Env.put, Env.at, List.getElem?_set, this]
theorem put_at_same (e f : Env) (d : Option Nat) (v : AV) (t : Nat) (hl : List.length e = List.length f) (h : d = some t) : (e.put d v).at t = (f.put d v).at t := by
  subst h
  simp [Env.put, Env.at, List.getElem?_set, hl]
section
variable {gl : Nat → AV} {call : Calls'} {is : List MIns} {Es : Nat → Env} {Ss : Nat → St} {Vs : Nat → AV} {Ls : Nat → Nat}
theorem envL_len (e0 : Env) (L : Nat → Bool) : ∀ k, List.length (envL is Vs e0 L k) = List.length e0 := by
  intro k
  induction k with
  | zero => rfl
  | succ k ih =>
    simp only [envL]
    split
    · split
      · rw [put_len, ih]
      · exact ih
    · exact ih
theorem Es_len (hst : ∀ j i, is[j]? = some i → StepAt gl call Es Ss Vs Ls j i) : ∀ k, k ≤ is.length → List.length (Es k) = List.length (Es 0) := by
  intro k
  induction k with
  | zero => intro _; rfl
  | succ k ih =>
    intro hk
    have hi : is[k]? = some is[k] := List.getElem?_eq_getElem (by omega)
    rw [(hst k _ hi).env, put_len, ih (by omega)]
theorem envL_at (hst : ∀ j i, is[j]? = some i → StepAt gl call Es Ss Vs Ls j i) (L : Nat → Bool) (j t : Nat) (hj : j ≤ is.length)
    (hL : ∀ i x, is[i]? = some x → x.dst = some t → L i = decide (i < j)) : ∀ k, k ≤ is.length → (envL is Vs (Es 0) L k).at t = (Es (min k j)).at t := by
  intro k
  induction k with
  | zero => intro _; simp [envL]
  | succ k ih =>
    intro hk
    have hi : is[k]? = some is[k] := List.getElem?_eq_getElem (by omega)
    have hs := (hst k _ hi).env
    have ih' := ih (by omega)
    simp only [envL, hi]
    by_cases hd : is[k].dst = some t
    · have hLk := hL k _ hi hd
      by_cases hkj : k < j
      · rw [hLk, decide_eq_true hkj, if_pos rfl, Nat.min_eq_left (by omega), hs]
        refine put_at_same _ _ _ _ _ ?_ hd
        rw [envL_len, Es_len hst k (by omega)]
      · rw [hLk, decide_eq_false hkj]
        simp only [Bool.false_eq_true, if_false]
        rw [ih', Nat.min_eq_right (by omega), Nat.min_eq_right (by omega)]
    · have h1 : (if L k = true then (envL is Vs (Es 0) L k).put is[k].dst (Vs k) else envL is Vs (Es 0) L k).at t = (envL is Vs (Es 0) L k).at t := by
        split
        · exact put_at_ne _ _ _ _ hd
        · rfl
      rw [h1, ih']
      by_cases hkj : k < j
      · rw [Nat.min_eq_left (by omega), Nat.min_eq_left (by omega), hs, put_at_ne _ _ _ _ hd]
      · rw [Nat.min_eq_right (by omega), Nat.min_eq_right (by omega)]
theorem kOf_at (hst : ∀ j i, is[j]? = some i → StepAt gl call Es Ss Vs Ls j i) (L : Nat → Bool) (j : Nat) (hj : j ≤ is.length)
    (hL : ∀ i, i < is.length → Ls i = 2 → L i = decide (i < j)) : ∀ k, k ≤ is.length → Ss (kOf Ls L k) = Ss (min k j) := by
  intro k
  induction k with
  | zero => intro _; simp [kOf]
  | succ k ih =>
    intro hk
    have hi : is[k]? = some is[k] := List.getElem?_eq_getElem (by omega)
    have ih' := ih (by omega)
    simp only [kOf]
    by_cases h2 : Ls k = 2
    · have hLk := hL k (by omega) h2
      by_cases hkj : k < j
      · rw [hLk, decide_eq_true hkj, h2]
        simp only [Bool.true_and, beq_self_eq_true, if_true]
        rw [Nat.min_eq_left (by omega)]
      · rw [hLk, decide_eq_false hkj]
        simp only [Bool.false_and, Bool.false_eq_true, if_false]
        rw [ih', Nat.min_eq_right (by omega), Nat.min_eq_right (by omega)]
    · have : (L k && Ls k == 2) = false := by simp [h2]
      rw [this]
      simp only [Bool.false_eq_true, if_false]
      rw [ih']
      by_cases hkj : k < j
      · rw [Nat.min_eq_left (by omega), Nat.min_eq_left (by omega)]
        have hway := (hst k _ hi).way
        rcases hway with ⟨_, _, h, _⟩ | ⟨_, h⟩ | ⟨h, _⟩
        · exact h.symm
        · exact ((ev1_loud h).2.1 h2).symm
        · exact h.symm
      · rw [Nat.min_eq_right (by omega), Nat.min_eq_right (by omega)]
end
section
variable {gl : Nat → AV} {call : Calls'} {is : List MIns} {Es : Nat → Env} {Ss : Nat → St} {Vs : Nat → AV} {Ls : Nat → Nat}
theorem Ss_quiet (hst : ∀ j i, is[j]? = some i → StepAt gl call Es Ss Vs Ls j i) {k : Nat} (hk : k < is.length) (h2 : Ls k ≠ 2) : Ss (k + 1) = Ss k := by
  have hi : is[k]? = some is[k] := List.getElem?_eq_getElem hk
  rcases (hst k _ hi).way with ⟨_, _, h, _⟩ | ⟨_, h⟩ | ⟨h, _⟩
  · exact h
  · exact (ev1_loud h).2.1 h2
  · exact h
theorem kOf_all (hst : ∀ j i, is[j]? = some i → StepAt gl call Es Ss Vs Ls j i) (L : Nat → Bool) : ∀ k, k ≤ is.length → (∀ i, i < k → Ls i = 2 → L i = true) → Ss (kOf Ls L k) = Ss k := by
  intro k
  induction k with
  | zero => intro _ _; rfl
  | succ k ih =>
    intro hk hL
    have ih' := ih (by omega) (fun i hi => hL i (by omega))
    simp only [kOf]
    by_cases h2 : Ls k = 2
    · rw [hL k (by omega) h2, h2]; rfl
    · have : (L k && Ls k == 2) = false := by simp [h2]
      rw [this]
      simp only [Bool.false_eq_true, if_false]
      rw [ih', Ss_quiet hst (by omega) h2]
theorem get_at (hst : ∀ j i, is[j]? = some i → StepAt gl call Es Ss Vs Ls j i) (L : Nat → Bool) (j b : Nat)
    (hb : ∀ i, i < is.length → Ls i = 2 → L i = decide (i < j) ∨ (Ss i).get b = (Ss (i + 1)).get b)
    (hpre : ∀ i m, i < m → m < is.length → Ls i = 2 → Ls m = 2 → L m = true → L i = true) : ∀ k, k ≤ is.length → (Ss (kOf Ls L k)).get b = (Ss (min k j)).get b := by
  intro k
  induction k with
  | zero => intro _; simp [kOf]
  | succ k ih =>
    intro hk
    have ih' := ih (by omega)
    simp only [kOf]
    by_cases hLk : (L k && Ls k == 2) = true
    · rw [hLk]
      simp only [if_true]
      rw [Bool.and_eq_true, beq_iff_eq] at hLk
      by_cases hkj : k < j
      · rw [Nat.min_eq_left (by omega)]
      · rw [Nat.min_eq_right (by omega)]
        rw [Nat.min_eq_right (by omega)] at ih'
        rcases hb k (by omega) hLk.2 with q | q
        · rw [hLk.1, decide_eq_false hkj] at q; cases q
        · rw [← q, ← kOf_all hst L k (by omega) (fun i hi h2 => hpre i k hi (by omega) h2 hLk.2 hLk.1)]
          exact ih'
    · rw [if_neg hLk, ih']
      by_cases hkj : k < j
      · rw [Nat.min_eq_left (by omega), Nat.min_eq_left (by omega)]
        by_cases h2 : Ls k = 2
        · rcases hb k (by omega) h2 with q | q
          · rw [decide_eq_true hkj] at q
            exact absurd (by rw [q, h2]; rfl) hLk
          · exact q
        · rw [Ss_quiet hst (by omega) h2]
      · rw [Nat.min_eq_right (by omega), Nat.min_eq_right (by omega)]
end
/-! ### A region drawn from -/
theorem cInss_get {P : Program} {oks : List (Nat × EqF)} {ht : List TypeId} {ops : Array Oper} : ∀ (l : List Oper) (is : List MIns), cInss P oks ht ops l = some is →
    is.length = l.length ∧ ∀ (j : Nat) (o : Oper), l[j]? = some o → ∃ i, is[j]? = some i ∧ cIns P oks ht ops o = some i := by
  intro l
  induction l with
  | nil => intro is h; simp only [cInss] at h; cases h; exact ⟨rfl, fun j o hj => by simp at hj⟩
  | cons o os ih =>
    intro is h
    simp only [cInss] at h
    split at h
    · rename_i i is' hi his
      cases h
      obtain ⟨h1, h2⟩ := ih _ his
      refine ⟨by simp [h1], fun j o' hj => ?_⟩
      cases j with
      | zero => simp at hj; subst hj; exact ⟨i, by simp, hi⟩
      | succ j => simpa using h2 j o' (by simpa using hj)
    · cases h
theorem bfMask_bit {bf : List Nat} {k : Nat} : ∀ (es : List Edge), (bfMask bf es).testBit k = true → ∃ e ∈ es, Region.binds .any e = true ∧ (k = e.on ∨ (bf.getD e.on 0).testBit k = true) := by
  intro es
  induction es with
  | nil => intro h; simp [bfMask] at h
  | cons e es ih =>
    intro h
    simp only [bfMask] at h
    split at h
    · rename_i hb
      rw [Nat.testBit_or, Nat.testBit_or, Bool.or_eq_true, Bool.or_eq_true] at h
      rcases h with (h | h) | h
      · obtain ⟨e', h1, h2⟩ := ih h; exact ⟨e', List.mem_cons_of_mem _ h1, h2⟩
      · rw [Nat.testBit_two_pow] at h
        exact ⟨e, List.mem_cons_self, hb, .inl (of_decide_eq_true h).symm⟩
      · exact ⟨e, List.mem_cons_self, hb, .inr h⟩
    · obtain ⟨e', h1, h2⟩ := ih h; exact ⟨e', List.mem_cons_of_mem _ h1, h2⟩
theorem or_eq_bit {a b k : Nat} (h : (a ||| b) = b) (ha : a.testBit k = true) : b.testBit k = true := by
  rw [← h, Nat.testBit_or, ha]; rfl
theorem and_zero_bit {a b k : Nat} (h : a &&& b = 0) (ha : a.testBit k = true) (hb : b.testBit k = true) : False := by
  have : (a &&& b).testBit k = true := by rw [Nat.testBit_and, ha, hb]; rfl
  rw [h] at this
  simp at this
theorem countP_lt {α : Type} {l : List α} {p q : α → Bool} (hle : ∀ x, q x = true → p x = true) {j : α} (hj : j ∈ l) (hp : p j = true) (hq : q j = false) : l.countP q < l.countP p := by
  induction l with
  | nil => cases hj
  | cons x xs ih =>
    rw [List.countP_cons, List.countP_cons]
    have hm : xs.countP q ≤ xs.countP p := List.countP_mono_left (fun y _ hy => hle y hy)
    rcases List.mem_cons.1 hj with rfl | hj
    · rw [hp, hq]; simp; omega
    · have := ih hj
      cases hx : q x with
      | true => rw [hle x hx]; simp; omega
      | false => cases p x <;> simp <;> omega
theorem dst_bit {i : MIns} {t : Nat} (h : i.dst = some t) : (dstB i).testBit t = true := by
  unfold dstB; rw [h]; exact Nat.testBit_two_pow_self
theorem envL_congr {is : List MIns} {Vs : Nat → AV} {e0 : Env} {L L' : Nat → Bool} {j t : Nat} (hL : ∀ i, i ≠ j → L' i = L i) (hd : ∀ i, is[j]? = some i → i.dst ≠ some t) : ∀ k, (envL is Vs e0 L' k).at t = (envL is Vs e0 L k).at t := by
  intro k
  induction k with
  | zero => rfl
  | succ k ih =>
    simp only [envL]
    cases hi : is[k]? with
    | none => exact ih
    | some i =>
      by_cases hk : k = j
      · subst hk
        have hd' := hd i hi
        have h1 : ∀ L : Nat → Bool, (if L k = true then (envL is Vs e0 L k).put i.dst (Vs k) else envL is Vs e0 L k).at t = (envL is Vs e0 L k).at t := by
          intro L
          split
          · exact put_at_ne _ _ _ _ hd'
          · rfl
        show (if L' k = true then _ else _ : Env).at t = (if L k = true then _ else _ : Env).at t
        rw [h1, h1, ih]
      · show (if L' k = true then _ else _ : Env).at t = (if L k = true then _ else _ : Env).at t
        rw [hL k hk]
        split
        · by_cases hd' : i.dst = some t
          · exact put_at_same _ _ _ _ _ (by rw [envL_len, envL_len]) hd'
          · rw [put_at_ne _ _ _ _ hd', put_at_ne _ _ _ _ hd', ih]
        · exact ih
theorem kOf_congr {Ls : Nat → Nat} {L L' : Nat → Bool} {j : Nat} (hL : ∀ i, i ≠ j → L' i = L i) (hj : Ls j ≠ 2) : ∀ k, kOf Ls L' k = kOf Ls L k := by
  intro k
  induction k with
  | zero => rfl
  | succ k ih =>
    simp only [kOf, ih]
    by_cases hk : k = j
    · subst hk
      have : (Ls k == 2) = false := by simpa using hj
      simp [this]
    · rw [hL k hk]
theorem RelE.congr {G : Gh} {gl : Nat → AV} {e f : Env} {a : Act} (h : RelE G gl e a) (hl : List.length f = List.length e) (hat : ∀ t, f.at t = e.at t) : RelE G gl f a :=
  ⟨fun i => by rw [hat]; exact h.at_ i, by rw [hl]; exact h.size, h.glob⟩
section
variable {P : Program} {w0 : World} {gl : Nat → AV}
theorem draw_sound {ht : List TypeId} {ops : Array Oper} {call : Calls'} (hcall : CallOk P gl w0 call) (hm : P.follows .mixedOrders = true) {is : List MIns}
    (hc : cInss P (eqOks P) ht ops ops.toList = some is) {bf : List Nat} (hb : bfOk ops.toList bf = true) (hs : slotsOk is bf = true)
    {e e' : Env} {s s' : St} {l : List Rec} (h : evLoud gl call (allocZ gl e is) is s.next e (reserve (allocZ gl e is) is s) [] = some (e', s', l)) (hcalm : calm bf l = true)
    {G : Gh} {a : Act} {w : World} (hE : RelE G gl e a) (hS : RelS G w0 s w) {Q : Exit → Act → World → Prop} {id : Nat}
    (hQ : ∀ G' a' w', G.le G' → RelE G' gl e' a' → RelS G' w0 s' w' → a'.defers = a.defers → Q .normal a' w') : (Code.region id ops true).wp P Q a w := by
  generalize haz : allocZ gl e is = az at h
  have hguard : ∀ i zs, az i = some zs → i.guard = none := fun i zs hi => by rw [← haz] at hi; exact allocZ_guard hi
  obtain ⟨Es, Ss, Vs, Ls, Bs, h1, h2, h3, h4, h5, h60⟩ := trace_loud is _ e _ [] h
  have h6 : ∀ j i, is[j]? = some i → StepAt gl call Es Ss Vs Ls j i := fun j i hj => (h60 j i hj).1.1
  obtain ⟨Gr, r1, r2, r3⟩ := RelS.reserveL az is hS
  have hres0 : ∀ b, G.res b = true → b < s.next := fun b hb => by obtain ⟨pl, hP⟩ := hS; exact (hP.resV b hb).1
  obtain ⟨hlen, hget⟩ := cInss_get _ _ hc
  have hlen : is.length = ops.size := by simpa using hlen
  have hget : ∀ j o, ops[j]? = some o → ∃ i, is[j]? = some i ∧ cIns P (eqOks P) ht ops o = some i := fun j o hj => hget j o (by simpa using hj)
  have hl : l = (List.range ops.size).map (fun j => (⟨Ls j, Bs j, Ss j, Ss (j + 1)⟩ : Rec)) := by rw [h5, hlen]; rfl
  have hcp : ∀ i j, i < j → j < ops.size → (bf.getD j 0).testBit i = true ∨ calmTwo ⟨Ls i, Bs i, Ss i, Ss (i + 1)⟩ ⟨Ls j, Bs j, Ss j, Ss (j + 1)⟩ = true := by
    intro i j hij hj
    unfold calm at hcalm
    rw [List.all_eq_true] at hcalm
    have q1 := hcalm j (List.mem_range.2 (by rw [hl]; simpa using hj))
    rw [List.all_eq_true] at q1
    have q2 := q1 i (List.mem_range.2 hij)
    have gi : l.getD i default = ⟨Ls i, Bs i, Ss i, Ss (i + 1)⟩ := by rw [hl]; simp [List.getElem?_map, List.getElem?_range (show i < ops.size by omega)]
    have gj : l.getD j default = ⟨Ls j, Bs j, Ss j, Ss (j + 1)⟩ := by rw [hl]; simp [List.getElem?_map, List.getElem?_range hj]
    unfold calmPair at q2
    rw [gi, gj] at q2
    rw [Bool.or_eq_true] at q2
    exact q2
  have hww : ∀ i j, i < j → j < ops.size → Ls i = 2 → Ls j = 2 → (bf.getD j 0).testBit i = true := by
    intro i j hij hj hi2 hj2
    rcases hcp i j hij hj with q | q
    · exact q
    · rw [hi2, hj2] at q; cases q
  have hrw : ∀ i j, i < j → j < ops.size → Ls i = 1 → Ls j = 2 → (bf.getD j 0).testBit i = true ∨ (Ss j).get (Bs i) = (Ss (j + 1)).get (Bs i) := by
    intro i j hij hj hi2 hj2
    rcases hcp i j hij hj with q | q
    · exact .inl q
    · rw [hi2, hj2] at q; exact .inr (sameO_eq q)
  have hwr' : ∀ i j, i < j → j < ops.size → Ls i = 2 → Ls j = 1 → (bf.getD j 0).testBit i = true ∨ (Ss i).get (Bs j) = (Ss (i + 1)).get (Bs j) := by
    intro i j hij hj hi2 hj2
    rcases hcp i j hij hj with q | q
    · exact .inl q
    · rw [hi2, hj2] at q; exact .inr (sameO_eq q)
  have hsl : ∀ i j x y, i < j → is[i]? = some x → is[j]? = some y → (bf.getD j 0).testBit i = true ∨ (dstB x &&& slotsI y = 0 ∧ dstB y &&& slotsI x = 0) := by
    intro i j x y hij hx hy
    have hj : j < is.length := (List.getElem?_eq_some_iff.1 hy).1
    unfold slotsOk at hs
    rw [List.all_eq_true] at hs
    have q1 := hs j (List.mem_range.2 hj)
    rw [List.all_eq_true] at q1
    have q2 := q1 i (List.mem_range.2 hij)
    rw [hx, hy] at q2
    simp only [Bool.or_eq_true, Bool.and_eq_true, beq_iff_eq] at q2
    exact q2
  have hbf : ∀ j o, ops[j]? = some o → (∀ k, (bf.getD j 0).testBit k = true → ∃ e ∈ o.after.toList, Region.binds .any e = true ∧ (k = e.on ∨ (bf.getD e.on 0).testBit k = true)) ∧ ∀ e ∈ o.after.toList, Region.binds .any e = true → e.on < j := by
    intro j o hj
    have hjl : j < ops.size := (Array.getElem?_eq_some_iff.1 hj).1
    unfold bfOk at hb
    rw [List.all_eq_true] at hb
    have q := hb j (List.mem_range.2 (by simpa using hjl))
    rw [show ops.toList[j]? = some o by simpa using hj] at q
    simp only [Bool.and_eq_true, beq_iff_eq, List.all_eq_true, Bool.or_eq_true, Bool.not_eq_true', decide_eq_true_eq] at q
    refine ⟨fun k hk => bfMask_bit _ (or_eq_bit q.1 hk), fun e he hbd => ?_⟩
    rcases q.2 e he with hn | hn
    · rw [hbd] at hn; cases hn
    · exact hn
  have idAt_lt : ∀ {k b : Nat}, idAt az is s.next k = some b → k < ops.size := by
    intro k b hk
    rcases Nat.lt_or_ge k ops.size with h' | h'
    · exact h'
    · exfalso
      have : ∀ (is : List MIns) (n k : Nat), is.length ≤ k → idAt az is n k = none := by
        intro is
        induction is with
        | nil => intro n k _; rfl
        | cons i is ih =>
          intro n k hk
          cases k with
          | zero => simp at hk
          | succ k => cases hz : az i <;> simp only [idAt, hz] <;> exact ih _ _ (by simpa using hk)
      rw [this is _ k (by omega)] at hk
      cases hk
  have key : ∀ (fuel : Nat) (listed : Array Bool) (G1 : Gh) (a1 : Act) (w1 : World), listed.size = ops.size →
      (∀ j k, listed.getD j false = true → (bf.getD j 0).testBit k = true → listed.getD k false = true) →
      (List.range ops.size).countP (fun i => !listed.getD i false) ≤ fuel → G.le0 G1 → (∀ b, G1.res b = true ↔ G.res b = true ∨ ∃ k, listed.getD k false = false ∧ idAt az is s.next k = some b) →
      RelE G1 gl (envL is Vs (Es 0) (fun i => listed.getD i false) ops.size) a1 → RelS G1 w0 (Ss (kOf Ls (fun i => listed.getD i false) ops.size)) w1 → a1.defers = a.defers →
      wpAny P .any ops Q fuel listed a1 w1 := by
    intro fuel
    induction fuel with
    | zero =>
      intro listed G1 a1 w1 hsz hcl hcnt hG hR hE1 hS1 hd
      have hall : ∀ i, i < ops.size → listed.getD i false = true := by
        intro i hi
        have q := List.countP_eq_zero.1 (Nat.le_zero.1 hcnt) i (List.mem_range.2 hi)
        simpa using q
      refine ⟨?_, ?_⟩
      · unfold Region.ready
        rw [List.filter_eq_nil_iff]
        intro i hi
        have hi := List.mem_range.1 hi
        have q := hall i hi
        have : listed.getD i true = true := by
          rw [Array.getD_eq_getD_getElem?] at q ⊢
          rw [Array.getElem?_eq_getElem (by omega)] at q ⊢
          exact q
        simp [this]
      · refine hQ G1 a1 w1 (⟨hG, funext fun b => by
          rw [Bool.eq_iff_iff, hR b]
          constructor
          · rintro (q | ⟨k, q1, q2⟩)
            · exact q
            · exact absurd (hall k (idAt_lt q2)) (by rw [q1]; simp)
          · exact .inl⟩) (hE1.congr ?_ fun t => ?_) ?_ hd
        · rw [envL_len, ← h3, Es_len h6 _ (Nat.le_refl _)]
        · have q := envL_at h6 (fun i => listed.getD i false) is.length t (Nat.le_refl _) (fun i x hx hdx => by
            have hil : i < is.length := (List.getElem?_eq_some_iff.1 hx).1
            simp only [hall i (by omega), decide_eq_true hil]) ops.size (by omega)
          rw [q, ← hlen, Nat.min_self, h3]
        · have q := kOf_at h6 (fun i => listed.getD i false) is.length (Nat.le_refl _) (fun i hi _ => by
            simp only [hall i (by omega), decide_eq_true hi]) ops.size (by omega)
          rw [← h4, hlen, show Ss ops.size = Ss (min ops.size is.length) by rw [hlen, Nat.min_self], ← q]
          exact hS1
    | succ fuel ih =>
      intro listed G1 a1 w1 hsz hcl hcnt hG hR hE1 hS1 hd
      have hdef : ∀ i, i < ops.size → listed.getD i true = listed.getD i false := by
        intro i hi
        rw [Array.getD_eq_getD_getElem?, Array.getD_eq_getD_getElem?, Array.getElem?_eq_getElem (by omega)]
        rfl
      refine ⟨fun hnil => ?_, fun j hj => ?_⟩
      · -- none is ready: all are listed
        have hall : ∀ i, i < ops.size → listed.getD i false = true := by
          intro i
          induction i using Nat.strongRecOn with
          | _ i ihi =>
            intro hi
            cases hli : listed.getD i false with
            | true => rfl
            | false =>
              exfalso
              have ho : ops[i]? = some ops[i] := Array.getElem?_eq_getElem hi
              have : i ∈ Region.ready .any ops listed := mem_ready.2 ⟨by rw [hdef i hi, hli], ops[i], ho, fun e he hbd => ihi e.on ((hbf i _ ho).2 e (by simpa using he) hbd) (by
                have := (hbf i _ ho).2 e (by simpa using he) hbd
                omega)⟩
              rw [hnil] at this
              cases this
        refine hQ G1 a1 w1 (⟨hG, funext fun b => by
          rw [Bool.eq_iff_iff, hR b]
          constructor
          · rintro (q | ⟨k, q1, q2⟩)
            · exact q
            · exact absurd (hall k (idAt_lt q2)) (by rw [q1]; simp)
          · exact .inl⟩) (hE1.congr ?_ fun t => ?_) ?_ hd
        · rw [envL_len, ← h3, Es_len h6 _ (Nat.le_refl _)]
        · have q := envL_at h6 (fun i => listed.getD i false) is.length t (Nat.le_refl _) (fun i x hx hdx => by
            have hil : i < is.length := (List.getElem?_eq_some_iff.1 hx).1
            simp only [hall i (by omega), decide_eq_true hil]) ops.size (by omega)
          rw [q, ← hlen, Nat.min_self, h3]
        · have q := kOf_at h6 (fun i => listed.getD i false) is.length (Nat.le_refl _) (fun i hi _ => by
            simp only [hall i (by omega), decide_eq_true hi]) ops.size (by omega)
          rw [← h4, hlen, show Ss ops.size = Ss (min ops.size is.length) by rw [hlen, Nat.min_self], ← q]
          exact hS1
      · -- the next one
        obtain ⟨hj0, o, ho, hbind⟩ := mem_ready.1 hj
        have hjl : j < ops.size := (Array.getElem?_eq_some_iff.1 ho).1
        have hj0 : listed.getD j false = false := by rw [← hdef j hjl]; exact hj0
        obtain ⟨i, hi, hci⟩ := hget j o ho
        obtain ⟨p1, p2, p3⟩ := cIns_parts hci
        have hbefore : ∀ k, (bf.getD j 0).testBit k = true → listed.getD k false = true := by
          intro k hk
          obtain ⟨ed, he1, he2, he3⟩ := (hbf j o ho).1 k hk
          have hl1 := hbind ed (by simpa using he1) he2
          rcases he3 with rfl | he3
          · exact hl1
          · exact hcl _ _ hl1 he3
        -- whose slots touch those of j
        have hwr : ∀ t, (slotsI i).testBit t = true → ∀ k x, is[k]? = some x → x.dst = some t → k ≠ j → listed.getD k false = decide (k < j) := by
          intro t ht k x hx hdx hkj
          rcases Nat.lt_or_gt_of_ne hkj with hlt | hgt
          · rw [decide_eq_true hlt]
            rcases hsl k j x i hlt hx hi with q | q
            · exact hbefore k q
            · exact (and_zero_bit q.1 (dst_bit hdx) ht).elim
          · rw [decide_eq_false (by omega)]
            rcases hsl j k i x hgt hi hx with q | q
            · cases hlk : listed.getD k false with
              | false => rfl
              | true => rw [hcl k j hlk q] at hj0; cases hj0
            · exact (and_zero_bit q.2 (dst_bit hdx) ht).elim
        have hat : ∀ t, (slotsI i).testBit t = true → (envL is Vs (Es 0) (fun i => listed.getD i false) ops.size).at t = (Es j).at t := by
          intro t ht
          have q := envL_at h6 (fun i => listed.getD i false) j t (by omega) (fun k x hx hdx => by
            by_cases hkj : k = j
            · subst hkj; simp only [hj0]; simp
            · exact hwr t ht k x hx hdx hkj) ops.size (by omega)
          rw [q, Nat.min_eq_right (by omega)]
        have hstep := h6 j i hi
        -- what comes behind
        have hnext : ∀ (G' : Gh) (v' : Value) (w' : World), G1.le0 G' → (∀ b, G'.res b = true ↔ G.res b = true ∨ ∃ k, (listed.setIfInBounds j true).getD k false = false ∧ idAt az is s.next k = some b) → RelV G' (Vs j) v' →
            RelS G' w0 (Ss (kOf Ls (fun i => (listed.setIfInBounds j true).getD i false) ops.size)) w' →
            wpAny P .any ops Q fuel (listed.setIfInBounds j true) (a1.put o.dst v') w' := by
          intro G' v' w' hG' hR' hv hs'
          have hne : ∀ k, k ≠ j → (listed.setIfInBounds j true).getD k false = listed.getD k false := fun k hk => getD_set_ne false (Ne.symm hk)
          have hjt : (listed.setIfInBounds j true).getD j false = true := by
            simp [show j < listed.size by omega]
          refine ih _ G' _ _ (by simpa using hsz) (fun j2 k hj2 hk => ?_) ?_ (hG.trans hG') hR' ?_ hs' (by rw [put_defers]; exact hd)
          · apply getD_set_true
            by_cases e2 : j2 = j
            · subst e2; exact hbefore k hk
            · rw [hne j2 e2] at hj2; exact hcl j2 k hj2 hk
          · have := countP_lt (l := List.range ops.size) (p := fun i => !listed.getD i false) (q := fun i => !(listed.setIfInBounds j true).getD i false) (fun x hx => by
              by_cases e2 : x = j
              · subst e2; simp only [hj0]; rfl
              · simp only [hne x e2] at hx; exact hx) (j := j) (List.mem_range.2 hjl) (by simp only [hj0]; rfl) (by simp only [hjt]; rfl)
            omega
          · refine ((hE1.mono0 hG').put o.dst hv).congr ?_ fun t => ?_
            · rw [put_len, envL_len, envL_len]
            · by_cases hdt : i.dst = some t
              · have ht : (slotsI i).testBit t = true := by
                  unfold slotsI
                  rw [Nat.testBit_or, Nat.testBit_or, dst_bit hdt]; simp
                have q := envL_at h6 (fun i => (listed.setIfInBounds j true).getD i false) (j + 1) t (by omega) (fun k x hx hdx => by
                  by_cases hkj : k = j
                  · subst hkj; simp only [hjt]; simp
                  · have q := hwr t ht k x hx hdx hkj
                    simp only [hne k hkj, q]
                    congr 1
                    simp; omega) ops.size (by omega)
                rw [q, Nat.min_eq_right (by omega), hstep.env, ← p2]
                refine put_at_same _ _ _ _ _ ?_ hdt
                rw [envL_len, Es_len h6 _ (by omega)]
              · rw [← p2, put_at_ne _ _ _ _ hdt]
                exact envL_congr (fun k hk => hne k hk) (fun i' hi' => by rw [hi] at hi'; cases hi'; exact hdt) ops.size
        -- the state
        have hk2 : Ls j ≠ 2 → kOf Ls (fun i => (listed.setIfInBounds j true).getD i false) ops.size = kOf Ls (fun i => listed.getD i false) ops.size :=
          fun hne2 => kOf_congr (fun k hk => getD_set_ne false (Ne.symm hk)) hne2 _
        have hgE : ∀ r : Bool, guardR (Es j) i.guard (some true) (some false) = some r → guardR (envL is Vs (Es 0) (fun i => listed.getD i false) ops.size) i.guard (some true) (some false) = some r := by
          intro r hr
          unfold guardR at hr ⊢
          cases hg : i.guard with
          | none => rw [hg] at hr; exact hr
          | some gb =>
            obtain ⟨d, b⟩ := gb
            rw [hg] at hr
            have : (slotsI i).testBit d = true := by
              unfold slotsI
              rw [Nat.testBit_or, hg]
              simp [Nat.testBit_two_pow_self]
            simp only [hat d this]
            exact hr
        have hquiet : ∀ {G' : Gh}, G1.le G' → idAt az is s.next j = none → ∀ b, G'.res b = true ↔ G.res b = true ∨ ∃ k, (listed.setIfInBounds j true).getD k false = false ∧ idAt az is s.next k = some b := by
          intro G' hle hnone b
          rw [hle.res, hR b]
          constructor
          · rintro (q | ⟨k, q1, q2⟩)
            · exact .inl q
            · have : k ≠ j := fun e => by subst e; rw [hnone] at q2; cases q2
              exact .inr ⟨k, by rw [getD_set_ne false (Ne.symm this)]; exact q1, q2⟩
          · rintro (q | ⟨k, q1, q2⟩)
            · exact .inl q
            · have : k ≠ j := fun e => by subst e; rw [hnone] at q2; cases q2
              exact .inr ⟨k, by rw [getD_set_ne false (Ne.symm this)] at q1; exact q1, q2⟩
        have hlook : Ls j = 1 → ∀ bb, Bs j = bb → (Ss (kOf Ls (fun i => listed.getD i false) ops.size)).get bb = (Ss j).get bb := by
          intro h1j bb hB
          have q := get_at h6 (fun i => listed.getD i false) j bb (fun k hk h2 => by
            rw [← hB]
            rcases Nat.lt_trichotomy k j with hlt | heq | hgt
            · rcases hwr' k j hlt hjl h2 h1j with q | q
              · exact .inl (by simp only [hbefore k q, decide_eq_true hlt])
              · exact .inr q
            · subst heq; omega
            · rcases hrw j k hgt (by omega) h1j h2 with q | q
              · refine .inl ?_
                rw [decide_eq_false (by omega)]
                cases hlk : listed.getD k false with
                | false => rfl
                | true => rw [hcl k j hlk q] at hj0; cases hj0
              · exact .inr q) (fun k m hkm hm' hk2' hm2' hLm => hcl m k hLm (hww k m hkm (by omega) hk2' hm2')) ops.size (by omega)
          rw [q, Nat.min_eq_right (by omega)]
        unfold wpOp
        simp only [ho]
        rcases (h60 j i hi).2 with ⟨hidn, hblk, hnoz⟩ | ⟨bb, zs, m1, m2, m3, m4, m5, m6, m7⟩
        case inr =>
          obtain ⟨z, hz⟩ := m2
          have zb := hguard i z hz
          have hgn : o.guard = none := by
            rcases p3 with ⟨q, _⟩ | ⟨_, _, _, _, _, q⟩
            · exact q
            · rw [zb] at q; cases q
          have hw : Region.wanted o (yielded ops a1.tmps) = true := by simp [Region.wanted, hgn]
          rw [if_pos hw]
          left
          have hresb : G1.res bb = true := (hR bb).2 (.inr ⟨j, hj0, m1⟩)
          have hgb : (Ss (kOf Ls (fun i => listed.getD i false) ops.size)).get bb = some (.cells zs.1 zs.2) := by rw [hlook m6 bb m7]; exact m4
          have hpl : ∃ G' v' w', G1.le0 G' ∧ (∀ c, G'.res c = if c = bb then false else G1.res c) ∧ (execOp a1.eval o).run P w1 = .ok (.value v') w' ∧ RelV G' (Vs j) v' ∧ RelS G' w0 (Ss (kOf Ls (fun i => listed.getD i false) ops.size)) w' := by
            unfold placeV at m3
            split at m3
            · rename_i zs' hop
              rw [hop] at p1
              obtain ⟨t, t1, t2⟩ := cOp_alloc p1
              have e1 := Option.some.inj m3
              have e2 : Vs j = .ptr bb 0 := (congrArg Prod.fst e1).symm
              have e3 : zs = (0, zs') := (congrArg Prod.snd e1).symm
              rw [e3] at hgb
              rw [e2]
              exact alloc_place (a := a1) t1 t2 hS1 hresb hgb
            · rename_i size bytes zs' l' c' hop
              rw [hop] at p1
              obtain ⟨t, el, l0, c0, ti, g1, g2, g3, g4, g5, g6, g7, g8, g9, g10⟩ := cOp_mks p1
              subst g5; subst g6
              have hsame : Same (envL is Vs (Es 0) (fun i => listed.getD i false) ops.size) (Es j) (reads i.op) := fun t ht => hat t (by
                unfold slotsI
                rw [Nat.testBit_or, Nat.testBit_or, ht]; simp)
              rw [hop] at hsame
              have hq := Same.opds (gl := gl) hsame
              rw [← hq l' (by simp), ← hq c' (by simp)] at m3
              exact mks_place g1 g2 g3 g4 g7 g8 g9 g10 hE1 hS1 m3 hresb hgb
            · cases m3
          obtain ⟨G', v', w', y1, y2, y3, y4, y5⟩ := hpl
          unfold Oper.wp
          rw [y3]
          show wpAny P .any ops Q fuel (listed.setIfInBounds j true) (a1.put o.dst v') w'
          refine hnext G' v' w' y1 (fun b => ?_) y4 (by rw [hk2 (by omega)]; exact y5)
          rw [y2 b]
          by_cases e : b = bb
          · subst e
            rw [if_pos rfl]
            constructor
            · intro q; cases q
            · rintro (q | ⟨k, q1, q2⟩)
              · have := hres0 b q
                have := idAt_ge _ _ _ _ _ m1
                omega
              · have := idAt_inj _ _ _ _ _ _ q2 m1
                subst this
                simp [show k < listed.size by omega] at q1
          · rw [if_neg e, hR b]
            have hkj : ∀ k, idAt az is s.next k = some b → k ≠ j := fun k q2 e2 => by subst e2; rw [m1] at q2; cases q2; exact e rfl
            constructor
            · rintro (q | ⟨k, q1, q2⟩)
              · exact .inl q
              · exact .inr ⟨k, by rw [getD_set_ne false (Ne.symm (hkj k q2))]; exact q1, q2⟩
            · rintro (q | ⟨k, q1, q2⟩)
              · exact .inl q
              · exact .inr ⟨k, by rw [getD_set_ne false (Ne.symm (hkj k q2))] at q1; exact q1, q2⟩
        rcases (h60 j i hi).1.2 with hz | ⟨u1, u2, u3, u4⟩ | ⟨u1, u2⟩
        · exact absurd hz hnoz
        · have hg : guardR (Es j) i.guard (some true) (some false) = some false := by
            obtain ⟨d, b, g1, g2⟩ := u1
            rcases g2 with ⟨c, g2, g3⟩ | g2
            · rw [g1]; simp only [guardR, g2, g3]; rfl
            · rw [g1]; simp only [guardR, g2]
          rcases guard_sound hE1 p3 (hgE _ hg) with ⟨_, q⟩ | ⟨q, _⟩
          · cases q
          · rw [if_neg (by rw [q]; simp)]
            exact hnext G1 undef w1 (Gh.le0_refl G1) (hquiet (Gh.le_refl G1) hidn) (by rw [u2]; exact .tup [] #[] .nil) (by rw [hk2 (by omega)]; exact hS1)
        · have hg : guardR (Es j) i.guard (some true) (some false) = some true := by
            rcases u1 with g1 | ⟨d, b, g1, g2⟩
            · rw [g1]; rfl
            · rw [g1]; simp only [guardR, g2]; simp
          rcases guard_sound hE1 p3 (hgE _ hg) with ⟨q, _⟩ | ⟨_, q⟩
          · rw [if_pos q]
            left
            have hsame : Same (envL is Vs (Es 0) (fun i => listed.getD i false) ops.size) (Es j) (reads i.op) := fun t ht => hat t (by
              unfold slotsI
              rw [Nat.testBit_or, Nat.testBit_or, ht]; simp)
            obtain ⟨v1, v2, v3⟩ := ev1_loud u2
            by_cases hz : Ls j = 0
            · have hev := v3 hz (Ss (kOf Ls (fun i => listed.getD i false) ops.size))
              rw [← ev1_same hsame] at hev
              exact op_sound hcall p1 hE1 hS1 hev (fun G' v' w' q1 q2 q3 => hnext G' v' w' q1.tole0 (hquiet q1 hidn) q2 (by rw [hk2 (by omega)]; exact q3))
            · by_cases h1j : Ls j = 1
              · have hst : (Ss (kOf Ls (fun i => listed.getD i false) ops.size)).get (blockOf gl (Es j) i.op) = (Ss j).get (blockOf gl (Es j) i.op) := hlook h1j _ (hblk h1j)
                have hev := ev1_look (by rw [h1j] at u2; exact u2) _ hst
                rw [← ev1_same hsame] at hev
                exact op_sound hcall p1 hE1 hS1 hev (fun G' v' w' q1 q2 q3 => hnext G' v' w' q1.tole0 (hquiet q1 hidn) q2 (by rw [hk2 (by omega)]; exact q3))
              · have h2 : Ls j = 2 := by omega
                have hst : Ss (kOf Ls (fun i => listed.getD i false) ops.size) = Ss j := by
                  have q := kOf_at h6 (fun i => listed.getD i false) j (by omega) (fun k hk h2' => by
                    rcases Nat.lt_trichotomy k j with hlt | heq | hgt
                    · simp only [hbefore k (hww k j hlt hjl h2' h2), decide_eq_true hlt]
                    · subst heq; simp only [hj0]; simp
                    · rw [decide_eq_false (by omega)]
                      cases hlk : listed.getD k false with
                      | false => rfl
                      | true => rw [hcl k j hlk (hww j k hgt (by omega) h2 h2')] at hj0; cases hj0) ops.size (by omega)
                  rw [q, Nat.min_eq_right (by omega)]
                rw [hst] at hS1
                have hev := u2
                rw [← ev1_same hsame] at hev
                refine op_sound hcall p1 hE1 hS1 hev (fun G' v' w' q1 q2 q3 => hnext G' v' w' q1.tole0 (hquiet q1 hidn) q2 ?_)
                have q := kOf_at h6 (fun i => (listed.setIfInBounds j true).getD i false) (j + 1) (by omega) (fun k hk h2' => by
                  rcases Nat.lt_trichotomy k j with hlt | heq | hgt
                  · simp only [getD_set_ne false (show j ≠ k by omega), hbefore k (hww k j hlt hjl h2' h2)]
                    simp; omega
                  · subst heq; simp [show k < listed.size by omega]
                  · simp only [getD_set_ne false (show j ≠ k by omega)]
                    rw [decide_eq_false (by omega)]
                    cases hlk : listed.getD k false with
                    | false => rfl
                    | true => rw [hcl k j hlk (hww j k hgt (by omega) h2 h2')] at hj0; cases hj0) ops.size (by omega)
                rw [q, Nat.min_eq_right (by omega)]
                exact q3
          · cases q
  refine wp_region_any hm ?_
  have hL0 : ∀ i, (Array.replicate ops.size false).getD i false = false := by
    intro i
    rw [Array.getD_eq_getD_getElem?, Array.getElem?_replicate]
    split <;> rfl
  have he0 : ∀ k, envL is Vs (Es 0) (fun i => (Array.replicate ops.size false).getD i false) k = Es 0 := by
    intro k
    induction k with
    | zero => rfl
    | succ k ih =>
      simp only [envL, hL0, Bool.false_eq_true, if_false] at ih ⊢
      cases is[k]? <;> exact ih
  have hk0 : ∀ k, kOf Ls (fun i => (Array.replicate ops.size false).getD i false) k = 0 := by
    intro k
    induction k with
    | zero => rfl
    | succ k ih => simp only [kOf, hL0, Bool.false_and, Bool.false_eq_true, if_false] at ih ⊢; exact ih
  refine key ops.size _ Gr a _ (by simp) (fun j k hj _ => by rw [hL0] at hj; cases hj) ?_ r1 (fun b => ?_) (by rw [he0, h1]; exact hE.mono0 r1) (by rw [hk0, h2]; exact r3.drew) rfl
  case refine_2 => rw [r2 b]; simp only [hL0, true_and]
  exact Nat.le_trans List.countP_le_length (by simp)
end
end Go.Ab
/- The evaluator is sound: code, loops, whole functions. No conditions. -/
set_option linter.unusedSimpArgs false
set_option linter.unusedVariables false
namespace Go.Ab
open Go
inductive Fits (P : Program) (ht : List TypeId) : MC → Code → Prop
  | noway (c : Code) : Fits P ht noWay c
  | skip : Fits P ht .skip .skip
  | reg (id : Nat) (ops : Array Oper) (is : List MIns) (h : cInss P (eqOks P) ht ops ops.toList = some is) : Fits P ht (.reg is) (.region id ops false)
  | draw (id : Nat) (ops : Array Oper) (is : List MIns) (bf : List Nat) (h : cInss P (eqOks P) ht ops ops.toList = some is) (hb : bfOk ops.toList bf = true) (hs : slotsOk is bf = true) : Fits P ht (.draw is bf) (.region id ops true)
  | seq (m n : MC) (c d : Code) (h : Fits P ht m c) (k : Fits P ht n d) : Fits P ht (.seq m n) (.seq c d)
  | cond (x : Opd) (o : Operand) (m n : MC) (c d : Code) (hx : cOpd o = some x) (h : Fits P ht m c) (k : Fits P ht n d) : Fits P ht (.cond x m n) (.cond o c d)
  | block (id : Nat) (m : MC) (c : Code) (h : Fits P ht m c) : Fits P ht (.block id m) (.block id c)
  | loop (l : List Bool) (m : MC) (c : Code) (h : Fits P ht m c) : Fits P ht (.loop l m) (.loop c)
  | exit (id : Nat) : Fits P ht (.exit id) (.exit id)
  | ret : Fits P ht .ret .ret
theorem mark_fits (P : Program) (ht : List TypeId) (n r : Nat) (c : Code) : ∀ out ex, Fits P ht (mark n r (cCode P (eqOks P) ht c) out ex) c := by
  induction c with
  | skip => intro out ex; exact .skip
  | region id ops draw =>
    intro out ex
    simp only [cCode]
    split
    · rename_i is his
      cases draw with
      | true =>
        simp only [if_true]
        split
        · rename_i ho
          rw [Bool.and_eq_true] at ho
          exact .draw id ops is _ his ho.1 ho.2
        · exact .noway _
      | false => exact .reg id ops is his
    · exact .noway _
  | seq a b iha ihb => intro out ex; exact .seq _ _ _ _ (iha _ _) (ihb _ _)
  | cond c a b iha ihb =>
    intro out ex
    simp only [cCode]
    split
    · rename_i x hx; exact .cond _ _ _ _ _ _ hx (iha _ _) (ihb _ _)
    · exact .noway _
  | block id a ih => intro out ex; exact .block _ _ _ (ih _ _)
  | loop a ih => intro out ex; exact .loop _ _ _ (ih _ _)
  | exit id => intro out ex; exact .exit id
  | ret => intro out ex; exact .ret
  | rangeFunc => intro out ex; exact .noway _
  | scope => intro out ex; exact .noway _
  | label => intro out ex; exact .noway _
  | goto => intro out ex; exact .noway _
  | refuse => intro out ex; exact .noway _
def exOf : Ex → Exit
  | .nrm => .normal
  | .exit i => .exit i
  | .ret => .ret
theorem wp_loop_iter {P : Program} {c : Code} {Q : Exit → Act → World → Prop} {a : Act} {w : World} {k : Nat} (I : Nat → Act → World → Prop) (h0 : I k a w)
    (round : ∀ j a w, I (j + 1) a w → c.wp P (Exit.then (I j) Q) a w) (hz : ∀ a w, ¬ I 0 a w) : (Code.loop c).wp P Q a w := by
  intro b kk cs
  have key : ∀ n a w, I n a w → ∃ e a' w', Q e a' w' ∧ Arrives P (lone (b.at a (.code c :: .inLoop c :: kk)) cs w) b kk cs e a' w' := by
    intro n
    induction n with
    | zero => intro a w hI; exact absurd hI (hz a w)
    | succ n ih =>
      intro a w hI
      obtain ⟨e, a₁, w₁, hq, harr⟩ := round n a w hI b (.inLoop c :: kk) cs
      cases e with
      | normal =>
        obtain ⟨e₂, a₂, w₂, hq₂, harr₂⟩ := ih a₁ w₁ hq
        exact ⟨e₂, a₂, w₂, hq₂, .of_steps (Steps.trans harr (.one step_inLoop)) harr₂⟩
      | exit id => exact ⟨_, a₁, w₁, hq, .pass (x := .inLoop c) rfl (fun _ _ => .inl (by simp)) harr⟩
      | goto l => exact ⟨_, a₁, w₁, hq, .pass (x := .inLoop c) rfl (fun _ _ => .inl (by simp)) harr⟩
      | ret => exact ⟨_, a₁, w₁, hq, .pass (x := .inLoop c) rfl (fun _ _ => .inl (by simp)) harr⟩
      | panic ch => exact ⟨_, a₁, w₁, hq, .pass (x := .inLoop c) rfl (fun _ _ => .inl (by simp)) harr⟩
      | outgrown => exact ⟨_, a₁, w₁, hq, .pass (x := .inLoop c) rfl (fun _ _ => .inl (by simp)) harr⟩
  obtain ⟨e, a', w', hq, harr⟩ := key _ a w h0
  exact ⟨e, a', w', hq, .of_steps (.one step_loop) harr⟩
section
variable {P : Program} {w0 : World} {gl : Nat → AV}
theorem evC_sound {ht : List TypeId} {call : Calls'} (hcall : CallOk P gl w0 call) (hm : P.follows .mixedOrders = true) {k : Nat} {m : MC} {c : Code} (hf : Fits P ht m c) :
    ∀ {G : Gh} {e e' : Env} {s s' : St} {a : Act} {w : World} {x : Ex} {Q : Exit → Act → World → Prop}, evC gl call k m e s = some (x, e', s') → RelE G gl e a → RelS G w0 s w →
    (∀ G' a' w', G.le G' → RelE G' gl e' a' → RelS G' w0 s' w' → a'.defers = a.defers → Q (exOf x) a' w') → c.wp P Q a w := by
  induction hf with
  | noway c =>
    intro G e e' s s' a w x Q h hE hS hQ
    simp [noWay, evC, opd, condR] at h
  | skip =>
    intro G e e' s s' a w x Q h hE hS hQ
    simp only [evC] at h
    cases h
    exact wp_skip (hQ G a w (Gh.le_refl G) hE hS rfl)
  | reg id ops is his =>
    intro G e e' s s' a w x Q h hE hS hQ
    simp only [evC] at h
    unfold regR at h
    split at h
    · rename_i e1 s1 hev
      cases h
      refine wp_region ?_
      rw [List.range_eq_range']
      have := evOps_sound (P := P) (ht := ht) (ops := ops) hcall (Q := Q) is 0 G e s a w (by simpa using his) hev hE hS hQ
      simpa using this
    · cases h
  | draw id ops is bf his hb hs =>
    intro G e e' s s' a w x Q h hE hS hQ
    simp only [evC] at h
    unfold drawR at h
    split at h
    · rename_i e1 s1 l hev
      split at h
      · rename_i hcalm
        cases h
        exact draw_sound hcall hm his hb hs hev hcalm hE hS hQ
      · cases h
    · cases h
  | seq m n c d h k' ih1 ih2 =>
    intro G e e' s s' a w x Q h hE hS hQ
    simp only [evC] at h
    refine wp_seq ?_
    unfold seqR at h
    split at h
    · rename_i e1 s1 hev
      refine ih1 hev hE hS (fun G1 a1 w1 g1 g2 g3 g4 => ?_)
      exact ih2 h g2 g3 (fun G2 a2 w2 k1 k2 k3 k4 => hQ G2 a2 w2 (g1.trans k1) k2 k3 (k4.trans g4))
    · rename_i i e1 s1 hev
      cases h
      exact ih1 hev hE hS (fun G1 a1 w1 g1 g2 g3 g4 => hQ G1 a1 w1 g1 g2 g3 g4)
    · rename_i e1 s1 hev
      cases h
      exact ih1 hev hE hS (fun G1 a1 w1 g1 g2 g3 g4 => hQ G1 a1 w1 g1 g2 g3 g4)
    · cases h
  | cond x o m n c d hx h k' ih1 ih2 =>
    intro G e e' s s' a w x' Q h hE hS hQ
    simp only [evC] at h
    unfold condR at h
    have hr := hE.opd hx
    split at h
    · rename_i hv
      rw [hv] at hr
      have hb : a.eval o = .bool true := by generalize a.eval o = q at hr; cases hr; rfl
      exact wp_cond_true hb (ih1 h hE hS hQ)
    · rename_i hv
      rw [hv] at hr
      have hb : a.eval o = .bool false := by generalize a.eval o = q at hr; cases hr; rfl
      exact wp_cond_false hb (ih2 h hE hS hQ)
    · cases h
  | block id m c h ih =>
    intro G e e' s s' a w x Q h hE hS hQ
    simp only [evC] at h
    refine wp_block ?_
    unfold blockR at h
    split at h
    · rename_i i e1 s1 hev
      refine ih hev hE hS (fun G1 a1 w1 g1 g2 g3 g4 => ?_)
      simp only [exOf, Exit.inBlock]
      split at h
      · rename_i hi
        cases h
        rw [if_pos hi]
        exact hQ G1 a1 w1 g1 g2 g3 g4
      · rename_i hi
        cases h
        rw [if_neg hi]
        exact hQ G1 a1 w1 g1 g2 g3 g4
    · rename_i hne
      refine ih h hE hS (fun G1 a1 w1 g1 g2 g3 g4 => ?_)
      cases x with
      | nrm => exact hQ G1 a1 w1 g1 g2 g3 g4
      | exit i => exact absurd h (hne i e' s')
      | ret => exact hQ G1 a1 w1 g1 g2 g3 g4
  | loop l m c h ih =>
    intro G e e' s s' a w x Q h hE hS hQ
    simp only [evC] at h
    have hx : ∀ {j : Nat} {e1 : Env} {s1 : St}, iter (evC gl call k m) l j e1 s1 = some (x, e', s') → x ≠ .nrm := by
      intro j
      induction j with
      | zero => intro e1 s1 hj; cases hj
      | succ j ihj =>
        intro e1 s1 hj
        simp only [iter] at hj
        unfold seqR at hj
        split at hj
        · exact ihj hj
        · cases hj; simp
        · cases hj; simp
        · cases hj
    refine wp_loop_iter (k := k) (fun j a1 w1 => ∃ G1 e1 s1, G.le G1 ∧ RelE G1 gl e1 a1 ∧ RelS G1 w0 s1 w1 ∧ a1.defers = a.defers ∧ iter (evC gl call k m) l j e1 s1 = some (x, e', s')) ⟨G, e, s, Gh.le_refl G, hE, hS, rfl, h⟩ ?_ ?_
    · rintro j a1 w1 ⟨G1, e1, s1, q1, q2, q3, q4, q5⟩
      simp only [iter] at q5
      unfold seqR at q5
      split at q5
      · rename_i e2 s2 hev
        refine ih hev (q2.mask l) q3 (fun G2 a2 w2 g1 g2 g3 g4 => ?_)
        exact ⟨G2, e2, s2, q1.trans g1, g2, g3, g4.trans q4, q5⟩
      · rename_i i e2 s2 hev
        cases q5
        exact ih hev (q2.mask l) q3 (fun G2 a2 w2 g1 g2 g3 g4 => hQ G2 a2 w2 (q1.trans g1) g2 g3 (g4.trans q4))
      · rename_i e2 s2 hev
        cases q5
        exact ih hev (q2.mask l) q3 (fun G2 a2 w2 g1 g2 g3 g4 => hQ G2 a2 w2 (q1.trans g1) g2 g3 (g4.trans q4))
      · cases q5
    · rintro a1 w1 ⟨G1, e1, s1, _, _, _, _, q5⟩
      cases q5
  | exit id =>
    intro G e e' s s' a w x Q h hE hS hQ
    simp only [evC] at h
    cases h
    exact wp_exit (hQ G a w (Gh.le_refl G) hE hS rfl)
  | ret =>
    intro G e e' s s' a w x Q h hE hS hQ
    simp only [evC] at h
    cases h
    exact wp_ret (hQ G a w (Gh.le_refl G) hE hS rfl)
/-! ### Results -/
theorem resVs_sound {e : Env} {a : Act} {w : World} (rs : List ResultVar) : ∀ {rt : List TypeId} {ms : List MRes} {G : Gh} {s s' : St} {vs : List AV}, cRes P rt rs = some ms → resVs e s ms = some (vs, s') → RelE G gl e a → RelS G w0 s w →
    ∃ G' us, G.le G' ∧ (rs.mapM (fun r => (match r with
      | .tmp t => pure (a.tmps.getD t undef)
      | .cell x t => do loadVar t (← asAddr (a.tmps.getD x undef)) : Sem Value))).run P w = .ok us w ∧ RelT G' vs us ∧ RelS G' w0 s' w := by
  induction rs with
  | nil =>
    intro rt ms G s s' vs hc h hE hS
    simp only [cRes] at hc
    cases hc
    simp only [resVs] at h
    cases h
    exact ⟨G, [], Gh.le_refl G, by simp, .nil, hS⟩
  | cons r rs ih =>
    intro rt ms G s s' vs hc h hE hS
    cases r with
    | tmp t =>
      simp only [cRes] at hc
      split at hc
      · rename_i l hl
        cases hc
        simp only [resVs, resV] at h
        split at h
        · rename_i v s1 hf
          split at h
          · rename_i vs' s2 hr
            cases h
            obtain ⟨G1, q1, q2, q3⟩ := freeze_sound hf (hE.at_ t) hS
            obtain ⟨G2, us, p1, p2, p3, p4⟩ := ih hl hr (hE.mono q1) q3
            exact ⟨G2, a.tmps.getD t undef :: us, q1.trans p1, by simp only [List.mapM_cons, Sem.run_bind, Sem.run_pure, Result.andThen_ok, p2], .cons _ _ _ _ (q2.mono p1) p3, p4⟩
          · cases h
        · cases h
      · cases hc
    | cell x t =>
      simp only [cRes] at hc
      split at hc
      · rename_i n l hn hl
        cases hc
        simp only [resVs, resV] at h
        split at h
        · rename_i v s1 hf
          split at h
          · rename_i vs' s2 hr
            cases h
            split at hf
            · rename_i b o hb
              split at hf
              · rename_i z cs hcs
                split at hf
                · rename_i v0 hcut
                  cases hf
                  have hra := hE.at_ x
                  rw [hb] at hra
                  generalize hq : a.tmps.getD x undef = q at hra
                  cases hra with
                  | ptr _ _ g hrho =>
                    obtain ⟨g', us', cur, E, fr, q1, _, q3, _, _, _, q7⟩ := hS.cells hcs (hS.resF hrho)
                    rw [hrho] at q1
                    cases q1
                    obtain ⟨v', e1, e2⟩ := loadVar_sound (P := P) (w := w) (g := g) (o0 := 0) hn hcut q3 (fun j u hu => by rw [Nat.zero_add]; exact q7 j u hu)
                    rw [Nat.zero_add] at e1
                    obtain ⟨G2, us, p1, p2, p3, p4⟩ := ih hl hr hE hS
                    refine ⟨G2, v' :: us, p1, ?_, .cons _ _ _ _ (e2.mono p1) p3, p4⟩
                    have hc1 : (asAddr (a.tmps.getD x undef)).run P w = .ok ⟨g, o, none⟩ w := by rw [hq]; rfl
                    rw [List.mapM_cons]
                    simp only [Sem.run_bind, hc1, Result.andThen_ok, e1]
                    rw [p2]
                    rfl
                · cases hf
              · cases hf
            · cases hf
          · cases h
        · cases h
      · cases hc
/-! ### Functions -/
def TableOk (P : Program) (F : Nat → Option MFun) : Prop :=
  ∀ f m, F f = some m → ∃ fn, P.funcs[f]? = some fn ∧ cFun P fn = some m ∧ (fn.name == "runtime.NumGoroutine") = false
structure ExtOk (P : Program) (gl : Nat → AV) (w0 : World) (ext : Nat → Option (List AV → St → Option (AV × St))) : Prop where
  there : ∀ f x, ext f = some x → ∃ fn, P.funcs[f]? = some fn ∧ fn.body.isSome = true ∧ (fn.name == "runtime.NumGoroutine") = false
  goes : ∀ f x args s v s' G w vals, ext f = some x → x args s = some (v, s') → RelT G args vals → RelS G w0 s w → (∀ g, RelV G (gl g) (.pointer (some ⟨g, 0, none⟩))) →
    Calls P f vals.toArray w fun e w' => ∃ G' v', G.le G' ∧ e = .returned v' ∧ RelV G' v v' ∧ RelS G' w0 s' w'
theorem env0_rel {G : Gh} {n : Nat} {args : List AV} {vals : List Value} (h : RelT G args vals) (hgl : ∀ g, RelV G (gl g) (.pointer (some ⟨g, 0, none⟩))) :
    RelE G gl (env0 n args) { tmps := vals.toArray ++ Array.replicate (n - vals.toArray.size) undef, defers := [] } := by
  have hl := h.length
  refine ⟨fun i => ?_, ?_, hgl⟩
  · simp only [Env.at, env0, List.getD_eq_getElem?_getD, Array.getD_eq_getD_getElem?]
    by_cases hi : i < args.length
    · have h1 : (args ++ List.replicate (n - args.length) AV.undef)[i]? = some args[i] := by rw [List.getElem?_append_left hi]; exact List.getElem?_eq_getElem hi
      obtain ⟨v, h2, h3⟩ := h.get (i := i) (a := args[i]) (List.getElem?_eq_getElem hi)
      have h4 : (vals.toArray ++ Array.replicate (n - vals.toArray.size) undef)[i]? = some v := by
        rw [Array.getElem?_append_left (by simpa [← hl] using hi)]; simpa using h2
      rw [h1, h4]; exact h3
    · have h1 : ((args ++ List.replicate (n - args.length) AV.undef)[i]?).getD .undef = .undef := by
        rw [List.getElem?_append_right (by omega), List.getElem?_replicate]
        split <;> rfl
      rw [h1]; exact .undef _
  · simp [env0, hl]
theorem evF_sound {F : Nat → Option MFun} {ext : Nat → Option (List AV → St → Option (AV × St))} (hF : TableOk P F) (hx : ExtOk P gl w0 ext) (hm : P.follows .mixedOrders = true) : ∀ k, CallOk P gl w0 (evF gl F ext k) := by
  intro k
  induction k with
  | zero => exact ⟨fun f args s v s' h => by simp [evF] at h, fun f args s v s' G w vals h => by simp [evF] at h⟩
  | succ k ih =>
    refine ⟨fun f args s v s' h => ?_, fun f args s v s' G w vals h hr hS hgl => ?_⟩
    · simp only [evF] at h
      split at h
      · rename_i x hxf
        exact hx.there f x hxf
      · split at h
        · cases h
        · rename_i m hm'
          obtain ⟨fn, h1, h2, h3⟩ := hF f m hm'
          refine ⟨fn, h1, ?_, h3⟩
          unfold cFun at h2
          split at h2
          · rename_i hb _; rw [hb]; rfl
          · cases h2
    · simp only [evF] at h
      split at h
      · rename_i x hxf
        exact hx.goes f x args s v s' G w vals hxf h hr hS hgl
      · split at h
        · cases h
        · rename_i m hm'
          obtain ⟨fn, h1, h2, h3⟩ := hF f m hm'
          unfold cFun at h2
          split at h2
          · rename_i c rs hb hrs
            cases h2
            refine calls_of_wp h1 hb ?_
            unfold outR at h
            have fin : ∀ {x : Ex} {e1 : Env} {s1 : St} {G' : Gh} {a' : Act} {w' : World}, (∀ i, x ≠ .exit i) → (match resVs e1 s1 rs with
                | some (vs, s') => some (oneOr vs, s')
                | none => none) = some (v, s') → G.le G' → RelE G' gl e1 a' → RelS G' w0 s1 w' → a'.defers = [] →
                bodyPost P fn (fun e w' => ∃ G' v', G.le G' ∧ e = .returned v' ∧ RelV G' v v' ∧ RelS G' w0 s' w') (exOf x) a' w' := by
              intro x e1 s1 G' a' w' hxx hres hG hE1 hS1 hd
              split at hres
              · rename_i vs s2 hrv
                cases hres
                obtain ⟨G2, us, p1, p2, p3, p4⟩ := resVs_sound fn.results.toList hrs hrv hE1 hS1
                have hone : ∃ v', (results fn a'.tmps).run P w' = .ok v' w' ∧ RelV G2 (oneOr vs) v' := by
                  have hmm : (fn.results.mapM (fun r => (match r with
                      | .tmp t => pure (a'.tmps.getD t undef)
                      | .cell x t => do loadVar t (← asAddr (a'.tmps.getD x undef)) : Sem Value))).run P w' = .ok us.toArray w' := by
                    rw [Array.mapM_eq_mapM_toList, Sem.run_map]
                    rw [p2]
                    rfl
                  have hfull : (results fn a'.tmps).run P w' = .ok (if h : us.toArray.size = 1 then us.toArray[0] else .tuple us.toArray) w' := by
                    unfold results
                    rw [Sem.run_bind]
                    refine (congrArg (fun r => Result.andThen r _) hmm).trans ?_
                    rfl
                  rw [hfull]
                  cases p3 with
                  | nil => exact ⟨_, rfl, .tup _ _ .nil⟩
                  | cons a1 v1 as1 us1 r1 t1 =>
                    cases t1 with
                    | nil => exact ⟨_, rfl, r1⟩
                    | cons a2 v2 as2 us2 r2 t2 =>
                      refine ⟨_, rfl, ?_⟩
                      rw [dif_neg (by simp)]
                      exact .tup _ _ (.cons _ _ _ _ r1 (.cons _ _ _ _ r2 t2))
                obtain ⟨v', e1', e2'⟩ := hone
                cases x with
                | nrm => exact ⟨hd, v', e1', G2, v', hG.trans p1, rfl, e2', p4⟩
                | ret => exact ⟨hd, v', e1', G2, v', hG.trans p1, rfl, e2', p4⟩
                | exit i => exact absurd rfl (hxx i)
              · cases hres
            split at h
            · cases h
            · rename_i x e1 s1 hne hev
              exact evC_sound ih hm (mark_fits P _ _ _ c _ _) hev (env0_rel hr hgl) hS (fun G' a' w' g1 g2 g3 g4 => fin (fun i hi => hne i hi) h g1 g2 g3 g4)
            · cases h
          · cases h2
end
end Go.Ab
/- The evaluator, at a law's beginning: the memory as it is handed over. No conditions. -/
set_option linter.unusedSimpArgs false
set_option linter.unusedVariables false
namespace Go.Ab
open Go
def Gh.start (w : World) : Gh :=
  ⟨w.heap.size, fun g o => (w.cell? ⟨g, o, none⟩).bind fun v => if v.oneCell' then some v else none, fun _ => none, fun _ => none, fun _ _ => none, fun _ => false⟩
def St.nil : St := ⟨[], 0⟩
theorem RelS.start (w : World) : RelS (Gh.start w) w St.nil w := by
  refine ⟨fun _ => 0, Go.RowKit.Below.refl _ _, Nat.le_refl _, fun g o v h => ?_, fun b hb => ⟨rfl, rfl, rfl, fun _ => rfl⟩, fun b o h => ?_, fun b c o q h => ?_, fun b v T h => ?_, fun b h => ?_⟩
  · obtain ⟨u, h1, h2⟩ := Option.bind_eq_some_iff.1 h
    split at h2
    · rename_i h3; cases h2; exact ⟨h1, h3⟩
    · cases h2
  · cases h
  · cases h
  · cases h
  · cases h
theorem start_imm {w : World} {g o : Nat} {v : Value} (h : w.cell? ⟨g, o, none⟩ = some v) (h1 : v.oneCell' = true) : (Gh.start w).imm g o = some v := by
  simp [Gh.start, h, h1]
theorem RelS.belowOf {G : Gh} {w0 w : World} {s : St} (h : RelS G w0 s w) : Go.RowKit.Below G.base w0 w := by obtain ⟨pl, h⟩ := h; exact h.below
def saysTrue : Option (AV × St) → Bool
  | some (.bool true, _) => true
  | _ => false
theorem saysTrue_spec {r : Option (AV × St)} (h : saysTrue r = true) : ∃ s', r = some (.bool true, s') := by
  unfold saysTrue at h
  split at h
  · exact ⟨_, rfl⟩
  · cases h
theorem calls_trueG {P : Program} {w : World} {gl : Nat → AV} {call : Calls'} (hgl : ∀ g, RelV (Gh.start w) (gl g) (.pointer (some ⟨g, 0, none⟩))) (hc : CallOk P gl w call) {f : Nat} {args : List AV} {vals : List Value}
    (hv : saysTrue (call f args St.nil) = true) (hr : RelT (Gh.start w) args vals) :
    Calls P f vals.toArray w fun e w' => e = .returned (.bool true) ∧ Go.RowKit.Below w.heap.size w w' := by
  obtain ⟨s', hv⟩ := saysTrue_spec hv
  refine (hc.goes f args St.nil _ s' _ w vals hv hr (RelS.start w) hgl).mono fun e w' => ?_
  rintro ⟨G', v', h1, rfl, h3, h4⟩
  cases h3
  refine ⟨rfl, ?_⟩
  have := h4.belowOf
  rw [h1.base] at this
  exact this
theorem rp_of_cells {w : World} {g : Nat} {k : IntKind} : ∀ (l : List Int) (o : Nat), (∀ j n, l[j]? = some n → w.cell? ⟨g, o + j, none⟩ = some (.int k n)) →
    RelL (Gh.start w) (l.map (.int k ·)) (l.map (Value.int k ·)) ∧ ∀ j v, (l.map (Value.int k ·))[j]? = some v → (Gh.start w).imm g (o + j) = some v := by
  intro l o h
  refine ⟨?_, fun j v hv => ?_⟩
  · clear h
    induction l with
    | nil => exact .nil
    | cons n l ih => exact .cons _ _ _ _ (.int _ _) rfl ih
  · rw [List.getElem?_map] at hv
    obtain ⟨n, hn, rfl⟩ := Option.map_eq_some_iff.1 hv
    exact start_imm (h j n hn) rfl
def tableOf (P : Program) (i : Nat) : Option MFun :=
  match P.funcs[i]? with
  | some fn => if (fn.name == "runtime.NumGoroutine") = true then none else cFun P fn
  | none => none
theorem tableOf_ok (P : Program) : TableOk P (tableOf P) := by
  intro f m h
  unfold tableOf at h
  split at h
  · rename_i fn hfn
    split at h
    · cases h
    · rename_i hn
      exact ⟨fn, hfn, h, by simpa using hn⟩
  · cases h
/-! ### slices.Grow of nothing, at a type of one cell -/
def growX : List AV → St → Option (AV × St)
  | [.nils, .int .i64 n], s => if n = 0 then some (.nils, s) else if 0 < n ∧ n ≤ 1000000 then some (.sl [] 0 (some (s.next, 0, 1)), s.new (.tick 1 0)) else none
  | _, _ => none
end Go.Ab
