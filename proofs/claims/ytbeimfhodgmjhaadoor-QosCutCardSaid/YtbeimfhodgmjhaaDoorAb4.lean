/- How the relation follows the machine's memory: new slices, appends, stores, what is frozen. No conditions. -/
import Derived.Test.YtbeimfhodgmjhaaDoorAb3
namespace Go.Ab
open Go

theorem size_setRow (w : World) (g : Nat) (cs : Array Value) : (w.setRow g cs).heap.size = w.heap.size := by simp [World.setRow]
theorem below_setRow {B : Nat} {a w : World} (h : Go.RowKit.Below B a w) {g : Nat} (hg : B ≤ g) (cs : Array Value) : Go.RowKit.Below B a (w.setRow g cs) :=
  h.trans ⟨rfl, rfl, rfl, by rw [size_setRow]; exact Nat.le_refl _, fun k hk => setRow_other w g k cs (by omega)⟩
theorem take_get {α : Type} (l : List α) (n i : Nat) (h : i < n) : (l.take n)[i]? = l[i]? := by rw [List.getElem?_take]; simp [h]

/-- Cells beside those that are known never to turn. -/
def Gh.more (G : Gh) (g a : Nat) (us : List Value) : Gh :=
  { G with imm := fun g' o => if g' = g ∧ a ≤ o ∧ o < a + us.length then us[o - a]? else G.imm g' o }
theorem Gh.more_le (G : Gh) (g a : Nat) (us : List Value) (h : ∀ o, a ≤ o → G.imm g o = none) (hb : G.base ≤ g) : G.le (G.more g a us) := by
  refine ⟨⟨rfl, fun g' o v hv => ?_, fun _ _ h => h, fun _ _ h => h, fun _ _ _ h => h, fun g' o hg' => ?_⟩, rfl⟩
  rotate_left
  · have : ¬ (g' = g ∧ a ≤ o ∧ o < a + us.length) := fun ⟨e, _⟩ => by omega
    simp [Gh.more, this]
  have : ¬ (g' = g ∧ a ≤ o ∧ o < a + us.length) := fun ⟨e, ho, _⟩ => by subst e; rw [h o ho] at hv; cases hv
  simp [Gh.more, this, hv]
theorem Gh.more_at (G : Gh) (g a : Nat) (us : List Value) (j : Nat) (v : Value) (h : us[j]? = some v) : (G.more g a us).imm g (a + j) = some v := by
  have hj : j < us.length := (List.getElem?_eq_some_iff.1 h).1
  have hc : g = g ∧ a ≤ a + j ∧ a + j < a + us.length := ⟨rfl, by omega, by omega⟩
  simp only [Gh.more, hc, and_self, if_true]
  rw [Nat.add_sub_cancel_left]; exact h
theorem Gh.more_other (G : Gh) (g a : Nat) (us : List Value) {g' : Nat} (h : g' ≠ g) (o : Nat) : (G.more g a us).imm g' o = G.imm g' o := by simp [Gh.more, h]
theorem Gh.more_beyond (G : Gh) (g a : Nat) (us : List Value) {o : Nat} (h : a + us.length ≤ o) : (G.more g a us).imm g o = G.imm g o := by
  have : ¬ (a ≤ o ∧ o < a + us.length) := fun ⟨_, h'⟩ => by omega
  simp [Gh.more, this]
/-- One ticket more. -/
def Gh.ticket (G : Gh) (t v : Nat) (T : Tk) : Gh := { G with tk := fun t' v' => if t' = t ∧ v' = v then some T else G.tk t' v' }
theorem Gh.ticket_le (G : Gh) (t v : Nat) (T : Tk) (h : G.tk t v = none) : G.le (G.ticket t v T) := by
  refine ⟨⟨rfl, fun _ _ _ h => h, fun _ _ h => h, fun _ _ h => h, fun t' v' x hx => ?_, fun _ _ _ => rfl⟩, rfl⟩
  have : ¬ (t' = t ∧ v' = v) := fun ⟨e, e'⟩ => by subst e; subst e'; rw [h] at hx; cases hx
  simp [Gh.ticket, this, hx]

section
variable {G : Gh} {w0 : World} {s : St} {w : World}

/-- A new slice in a block of its own. -/
theorem RelS.newSl (h : RelS G w0 s w) (sz n cap : Nat) (cs : List AV) (cur : Array Value) (E : TypeId) (vs : List Value)
    (hc : RelL G cs vs) (ht : cur.toList.take cs.length = vs) (hl : cs.length = n * sz) (hn : n ≤ cap) (hm : cap ≤ maxLen) (hs : cap * sz ≤ cur.size) :
    ∃ G', G.le G' ∧ RelV G' (.sl cs n (some (s.next, 0, sz))) (.slice (some ⟨w.heap.size, 0, none⟩) n cap) ∧ RelS G' w0 (s.new (.tick sz 0)) (w.alloc (.cells cur E)) := by
  obtain ⟨pl, h⟩ := h
  obtain ⟨f1, f2, f3, f4⟩ := h.fresh s.next (Nat.le_refl _)
  have hlen : vs.length = n * sz := by rw [← hc.length, hl]
  have hle1 := Gh.more_le G w.heap.size 0 vs (fun o _ => h.imm_new o) h.base
  have hle2 := Gh.ticket_le (G.more w.heap.size 0 vs) s.next 0 ⟨w.heap.size, 0, sz, n, cap⟩ (f4 0)
  have hle := hle1.trans hle2
  refine ⟨_, hle, ?_, fun b => if b = s.next then w.heap.size else pl b, ?_⟩
  · refine .sl _ _ _ _ _ _ vs (hc.mono hle) (fun j v hv => ?_) hn hm ⟨0, ⟨w.heap.size, 0, sz, n, cap⟩, by simp [Gh.ticket], rfl, rfl, rfl, rfl, .inl (by simp)⟩
    have := Gh.more_at G w.heap.size 0 vs j v hv
    exact this
  refine ⟨h.below.alloc h.base _, Nat.le_trans h.base (by simp), fun g o v hi => ?_, fun b hb => ?_, fun b o hb hd => ?_, fun b c o q hb hc' ho hq hp => ?_, fun b v T hT sz' u hb => ?_, fun c hc0 => ?_⟩
  · by_cases hg : g = w.heap.size
    · subst hg
      by_cases ho : o < vs.length
      · have hv : vs[o]? = some v := by
          have hx : (G.more w.heap.size 0 vs).imm w.heap.size o = some v := hi
          simpa [Gh.more, ho] using hx
        refine ⟨?_, hc.mem v (List.mem_of_getElem? hv)⟩
        rw [← ht] at hv
        rw [List.getElem?_take] at hv
        split at hv
        · rw [World.cell?_alloc_new]; simpa using hv
        · cases hv
      · have hx : (G.more w.heap.size 0 vs).imm w.heap.size o = some v := hi
        rw [Gh.more_beyond _ _ _ _ (by omega), h.imm_new] at hx
        cases hx
    · have hx : (G.more w.heap.size 0 vs).imm g o = some v := hi
      rw [Gh.more_other _ _ _ _ hg] at hx
      obtain ⟨h1, h2⟩ := h.imm g o v hx
      exact ⟨by rw [cell_of_heap (heap_alloc_lt w _ (h.imm_lt hx))]; exact h1, h2⟩
  · have hb' : s.next + 1 ≤ b := hb
    obtain ⟨g1, g2, g3, g4⟩ := h.fresh b (by omega)
    have hne : b ≠ s.next := by omega
    exact ⟨by rw [St.get_new_ne _ _ hne]; exact g1, g2, g3, fun v => by simp [Gh.ticket, hne]; exact g4 v⟩
  · by_cases e : b = s.next
    · subst e
      rw [St.get_new_same] at hb
      cases hb
      simp only [if_true]
      refine ⟨h.base, ⟨w.heap.size, 0, sz, n, cap⟩, cur, E, by simp [Gh.ticket], rfl, rfl, hn, hm, heap_alloc_new w _, by simpa using hs, fun o ho => ?_⟩
      show (G.more w.heap.size 0 vs).imm w.heap.size o = none
      rw [Gh.more_beyond _ _ _ _ (by rw [hlen]; simpa using ho)]
      exact h.imm_new o
    · rw [St.get_new_ne _ _ e] at hb
      simp only [e, if_false]
      obtain ⟨h1, h2⟩ := h.at_ b o hb hd
      have := h2.lt hd.1
      exact ⟨h1, h2.keep hle (heap_alloc_lt w _ this) (fun o => Gh.more_other _ _ _ _ (by omega) o)⟩
  · by_cases e : b = s.next <;> by_cases e' : c = s.next
    · rw [e, e']
    · subst e
      rw [St.get_new_ne _ _ e'] at hc'
      simp only [if_true, e', if_false] at hp
      exact absurd (h.pl_lt hc' hq) (by omega)
    · subst e'
      rw [St.get_new_ne _ _ e] at hb
      simp only [if_true, e, if_false] at hp
      exact absurd (h.pl_lt hb ho) (by omega)
    · rw [St.get_new_ne _ _ e] at hb
      rw [St.get_new_ne _ _ e'] at hc'
      simp only [e, e', if_false] at hp
      exact h.apart b c o q hb hc' ho hq hp
  · by_cases e : b = s.next
    · subst e
      rw [St.get_new_same] at hb
      cases hb
      by_cases hv : v = 0
      · omega
      · have hx : G.tk s.next v = some T := by simpa [Gh.ticket, Gh.more, hv] using hT
        rw [f4 v] at hx; cases hx
    · rw [St.get_new_ne _ _ e] at hb
      have hx : G.tk b v = some T := by simpa [Gh.ticket, Gh.more, e] using hT
      exact h.tkV b v T hx sz' u hb
  · obtain ⟨g1, g2, g3, g4⟩ := h.resV c hc0
    have hne : c ≠ s.next := by omega
    exact ⟨Nat.lt_succ_of_lt g1, g2, g3, fun v => by simp [Gh.ticket, hne]; exact g4 v⟩

/-- What a ticket in force says of its slice. -/
theorem RelP.ticket {pl : Nat → Nat} (h : RelP G w0 s w pl) {sz n cap b v z g o : Nat} {cs : List AV}
    (hv : RelV G (.sl cs n (some (b, v, z))) (.slice (some ⟨g, o, none⟩) n cap)) (hb : s.get b = some (.tick sz v)) (hp : 0 < cap) :
    ∃ k T cur E, G.tk b v = some T ∧ T.g = g ∧ pl b = g ∧ T.sz = sz ∧ n + k = T.n ∧ cap + k = T.cap ∧ o = T.o + k * sz ∧ w.heap[g]? = some (.cells cur E (0, 0)) ∧ T.o + T.cap * sz ≤ cur.size ∧
      T.cap ≤ maxLen ∧ (∀ j, T.o + T.n * sz ≤ j → G.imm g j = none) ∧ G.base ≤ g := by
  cases hv with
  | sl _ _ _ _ _ _ vs hc hi hn hm ht =>
    obtain ⟨k, T, h1, _, h2, h3, h4, h5⟩ := ht
    have hres := h.resT h1
    obtain ⟨hbase, T', cur, E, e1, e2, e3, e4, e5, e6, e7, e8⟩ := h.at_ b _ hb ⟨by simp, hres⟩
    rw [h1] at e1
    cases e1
    rcases h5 with h5 | h5
    · exact ⟨k, T, cur, E, h1, h2, by rw [← e2, h2], e3, h3, h4, by rw [h5, e3], by rw [← h2, e2]; exact e6, e7, e5, by rw [← h2, e2]; exact e8, by rw [← h2, e2]; exact hbase⟩
    · omega

theorem RelP.tk_next {pl : Nat → Nat} (h : RelP G w0 s w pl) {b sz v : Nat} (hb : s.get b = some (.tick sz v)) : G.tk b (v + 1) = none := by
  cases hx : G.tk b (v + 1) with
  | none => rfl
  | some T => have := h.tkV b (v + 1) T hx sz v hb; omega

/-- An append of nothing. -/
theorem RelS.appNone (h : RelS G w0 s w) {sz n cap b v z g o : Nat} {cs : List AV}
    (hv : RelV G (.sl cs n (some (b, v, z))) (.slice (some ⟨g, o, none⟩) n cap)) (hb : s.get b = some (.tick sz v)) :
    ∃ G', G.le G' ∧ RelV G' (.sl cs n (some (b, v + 1, sz))) (.slice (some ⟨g, o, none⟩) n cap) ∧ RelS G' w0 (s.upd b (.tick sz (v + 1))) w := by
  have hres := h.resSl hv
  obtain ⟨pl, h⟩ := h
  obtain ⟨hbase, T', cur, E, e1, e2, e3, e4, e5, e6, e7, e8⟩ := h.at_ b _ hb ⟨by simp, hres⟩
  have hle := Gh.ticket_le G b (v + 1) T' (h.tk_next hb)
  refine ⟨_, hle, ?_, pl, ?_⟩
  · cases hv with
    | sl _ _ _ _ _ _ vs hc hi hn hm ht =>
      obtain ⟨k, T, h1, _, h2, h3, h4, h5⟩ := ht
      rw [e1] at h1
      cases h1
      exact .sl _ _ _ _ _ _ vs (hc.mono hle) (fun j v hv => hi j v hv) hn hm ⟨k, T', by simp [Gh.ticket], e3, h2, h3, h4, h5⟩
  refine ⟨h.below, h.base, h.imm, fun c hc => ?_, fun c q hc hd => ?_, fun c d q r hc hd hq hr hp => ?_, fun c v' T hT sz' u hc => ?_, fun c hc0 => ?_⟩
  · obtain ⟨g1, g2, g3, g4⟩ := h.fresh c hc
    have hne : c ≠ b := fun e => by subst e; rw [hb] at g1; cases g1
    exact ⟨by rw [St.get_upd_ne _ _ hne]; exact g1, g2, g3, fun v => by simp [Gh.ticket, hne]; exact g4 v⟩
  · by_cases e : c = b
    · subst e
      rw [St.get_upd_same _ _ hb] at hc
      cases hc
      exact ⟨hbase, T', cur, E, by simp [Gh.ticket], e2, e3, e4, e5, e6, e7, e8⟩
    · rw [St.get_upd_ne _ _ e] at hc
      obtain ⟨h1, h2⟩ := h.at_ c q hc hd
      exact ⟨h1, h2.keep hle rfl (fun _ => rfl)⟩
  · have hc' : ∃ q, s.get c = some q ∧ G.Live c q := by
      by_cases e : c = b
      · exact ⟨_, e ▸ hb, ⟨by simp, by rw [e]; exact hres⟩⟩
      · rw [St.get_upd_ne _ _ e] at hc; exact ⟨_, hc, hq⟩
    have hd' : ∃ q, s.get d = some q ∧ G.Live d q := by
      by_cases e : d = b
      · exact ⟨_, e ▸ hb, ⟨by simp, by rw [e]; exact hres⟩⟩
      · rw [St.get_upd_ne _ _ e] at hd; exact ⟨_, hd, hr⟩
    obtain ⟨q1, a1, a2⟩ := hc'
    obtain ⟨q2, b1, b2⟩ := hd'
    exact h.apart c d q1 q2 a1 b1 a2 b2 hp
  · by_cases e : c = b
    · subst e
      rw [St.get_upd_same _ _ hb] at hc
      cases hc
      by_cases hv' : v' = v + 1
      · omega
      · have hx : G.tk c v' = some T := by simpa [Gh.ticket, hv'] using hT
        have := h.tkV c v' T hx sz v hb
        omega
    · rw [St.get_upd_ne _ _ e] at hc
      have hx : G.tk c v' = some T := by simpa [Gh.ticket, e] using hT
      exact h.tkV c v' T hx sz' u hc
  · obtain ⟨g1, g2, g3, g4⟩ := h.resV c hc0
    have hne : c ≠ b := fun e => by subst e; have : G.res c = true := hc0; rw [hres] at this; cases this
    exact ⟨g1, g2, g3, fun v => by simp [Gh.ticket, hne]; exact g4 v⟩

/-- An append to a slice with a ticket, in its own block. -/
theorem RelS.appRoom (h : RelS G w0 s w) {sz n m cap b v z g o : Nat} {cs news : List AV} {us : List Value}
    (hv : RelV G (.sl cs n (some (b, v, z))) (.slice (some ⟨g, o, none⟩) n cap)) (hb : s.get b = some (.tick sz v)) (hl : cs.length = n * sz)
    (hu : RelL G news us) (hlu : news.length = m * sz) (hm : 0 < m) (hroom : n + m ≤ cap) :
    ∃ cur E, w.heap[g]? = some (.cells cur E (0, 0)) ∧ o + n * sz + us.length ≤ cur.size ∧ ∃ G', G.le G' ∧ RelV G' (.sl (cs ++ news) (n + m) (some (b, v + 1, sz))) (.slice (some ⟨g, o, none⟩) (n + m) cap) ∧
      RelS G' w0 (s.upd b (.tick sz (v + 1))) (w.setRow g (cur.toList.take (o + n * sz) ++ us ++ cur.toList.drop (o + n * sz + us.length)).toArray) := by
  have hres := h.resSl hv
  obtain ⟨pl, h⟩ := h
  obtain ⟨k, T, cur, E, e1, e2, epl, e3, e4, e5, e6, e7, e8, e9, e10, e11⟩ := h.ticket hv hb (by omega)
  have hul : us.length = m * sz := by rw [← hu.length, hlu]
  have hend : o + n * sz = T.o + T.n * sz := by rw [e6, ← e4, Nat.add_mul]; omega
  have hfit : o + n * sz + us.length ≤ cur.size := by
    rw [hend, hul, Nat.add_assoc, ← Nat.add_mul]
    exact Nat.le_trans (Nat.add_le_add_left (Nat.mul_le_mul_right _ (by omega)) _) e8
  refine ⟨cur, E, e7, hfit, ?_⟩
  have hnone : ∀ j, o + n * sz ≤ j → G.imm g j = none := fun j hj => e10 j (by omega)
  have hle1 := Gh.more_le G g (o + n * sz) us hnone (by have := (h.at_ b _ hb ⟨by simp, hres⟩).1; omega)
  have hle2 := Gh.ticket_le (G.more g (o + n * sz) us) b (v + 1) ⟨g, T.o, sz, T.n + m, T.cap⟩ (h.tk_next hb)
  have hle := hle1.trans hle2
  have hgs : (w.setRow g (cur.toList.take (o + n * sz) ++ us ++ cur.toList.drop (o + n * sz + us.length)).toArray).heap[g]? =
      some (.cells (cur.toList.take (o + n * sz) ++ us ++ cur.toList.drop (o + n * sz + us.length)).toArray E (0, 0)) := setRow_heap w g cur _ E _ e7
  have hsz : (cur.toList.take (o + n * sz) ++ us ++ cur.toList.drop (o + n * sz + us.length)).toArray.size = cur.size := by
    simp only [List.size_toArray, List.length_append, List.length_take, List.length_drop, Array.length_toList]; omega
  have htl : (cur.toList.take (o + n * sz)).length = o + n * sz := by rw [List.length_take, Array.length_toList]; omega
  refine ⟨_, hle, ?_, pl, ?_⟩
  · cases hv with
    | sl _ _ _ _ _ _ vs hc hi hn hmx ht =>
      have hvl : vs.length = n * sz := by rw [← hc.length, hl]
      refine .sl _ _ _ _ _ _ (vs ++ us) ((hc.append hu).mono hle) (fun j x hx => ?_) hroom hmx ⟨k, ⟨g, T.o, sz, T.n + m, T.cap⟩, by simp [Gh.ticket], rfl, rfl, by show n + m + k = T.n + m; omega, e5, .inl e6⟩
      show (G.more g (o + n * sz) us).imm g (o + j) = some x
      by_cases hj : j < vs.length
      · rw [List.getElem?_append_left hj] at hx
        exact hle1.imm _ _ _ (hi j x hx)
      · rw [List.getElem?_append_right (by omega)] at hx
        have := Gh.more_at G g (o + n * sz) us (j - vs.length) x hx
        rw [show o + j = o + n * sz + (j - vs.length) by omega]
        exact this
  refine ⟨below_setRow h.below e11 _, by rw [size_setRow]; exact h.base, fun g' o' x hi => ?_, fun c hc => ?_, fun c q hc hd => ?_, fun c d q r hc hd hq hr hp => ?_, fun c v' T' hT sz' u hc => ?_, fun c hc0 => ?_⟩
  · have hi' : (G.more g (o + n * sz) us).imm g' o' = some x := hi
    by_cases hg : g' = g
    · subst hg
      by_cases hin : o + n * sz ≤ o' ∧ o' < o + n * sz + us.length
      · have hx : us[o' - (o + n * sz)]? = some x := by simpa [Gh.more, hin] using hi'
        refine ⟨?_, hu.mem x (List.mem_of_getElem? hx)⟩
        rw [cell_setRow_same w g' o' cur _ E _ e7]
        simp only [List.getElem?_toArray]
        rw [List.getElem?_append_left (by rw [List.length_append, htl]; omega), List.getElem?_append_right (by rw [htl]; omega), htl]
        exact hx
      · have hx : G.imm g' o' = some x := by simpa [Gh.more, hin] using hi'
        obtain ⟨h1, h2⟩ := h.imm g' o' x hx
        have hlt : o' < o + n * sz := by
          rcases Nat.lt_or_ge o' (o + n * sz) with h' | h'
          · exact h'
          · rw [hnone o' h'] at hx; cases hx
        refine ⟨?_, h2⟩
        rw [cell_setRow_same w g' o' cur _ E _ e7]
        simp only [List.getElem?_toArray]
        rw [List.append_assoc, List.getElem?_append_left (by rw [htl]; exact hlt), take_get _ _ _ hlt]
        have h1' : w.cell? ⟨g', o', none⟩ = cur[o']? := by simp [World.cell?, e7]
        rw [h1'] at h1
        simpa using h1
    · rw [Gh.more_other _ _ _ _ hg] at hi'
      obtain ⟨h1, h2⟩ := h.imm g' o' x hi'
      exact ⟨by rw [cell_setRow_other w g _ _ hg]; exact h1, h2⟩
  · obtain ⟨g1, g2, g3, g4⟩ := h.fresh c hc
    have hne : c ≠ b := fun e => by subst e; rw [hb] at g1; cases g1
    exact ⟨by rw [St.get_upd_ne _ _ hne]; exact g1, g2, g3, fun v => by simp [Gh.ticket, hne]; exact g4 v⟩
  · by_cases e : c = b
    · subst e
      rw [St.get_upd_same _ _ hb] at hc
      cases hc
      refine ⟨by rw [epl]; exact e11, ⟨g, T.o, sz, T.n + m, T.cap⟩, _, E, by simp [Gh.ticket], epl.symm, rfl, by show T.n + m ≤ T.cap; omega, e9, by rw [epl]; exact hgs, by rw [hsz]; exact e8, fun j hj => ?_⟩
      show (G.more g (o + n * sz) us).imm (pl c) j = none
      have hj' : T.o + (T.n + m) * sz ≤ j := hj
      rw [Nat.add_mul] at hj'
      rw [epl, Gh.more_beyond _ _ _ _ (by rw [hul]; omega)]
      exact hnone j (by omega)
    · rw [St.get_upd_ne _ _ e] at hc
      obtain ⟨h1, h2⟩ := h.at_ c q hc hd
      have hne : pl c ≠ g := fun hx => e (h.apart c b q _ hc hb hd ⟨by simp, hres⟩ (by rw [hx, epl]))
      exact ⟨h1, h2.keep hle (setRow_other w g _ _ hne) (fun o => Gh.more_other _ _ _ _ hne o)⟩
  · have hc' : ∃ q, s.get c = some q ∧ G.Live c q := by
      by_cases e : c = b
      · exact ⟨_, e ▸ hb, ⟨by simp, by rw [e]; exact hres⟩⟩
      · rw [St.get_upd_ne _ _ e] at hc; exact ⟨_, hc, hq⟩
    have hd' : ∃ q, s.get d = some q ∧ G.Live d q := by
      by_cases e : d = b
      · exact ⟨_, e ▸ hb, ⟨by simp, by rw [e]; exact hres⟩⟩
      · rw [St.get_upd_ne _ _ e] at hd; exact ⟨_, hd, hr⟩
    obtain ⟨q1, a1, a2⟩ := hc'
    obtain ⟨q2, b1, b2⟩ := hd'
    exact h.apart c d q1 q2 a1 b1 a2 b2 hp
  · by_cases e : c = b
    · subst e
      rw [St.get_upd_same _ _ hb] at hc
      cases hc
      by_cases hv' : v' = v + 1
      · omega
      · have hx : G.tk c v' = some T' := by simpa [Gh.ticket, Gh.more, hv'] using hT
        have := h.tkV c v' T' hx sz v hb
        omega
    · rw [St.get_upd_ne _ _ e] at hc
      have hx : G.tk c v' = some T' := by simpa [Gh.ticket, Gh.more, e] using hT
      exact h.tkV c v' T' hx sz' u hc
  · obtain ⟨g1, g2, g3, g4⟩ := h.resV c hc0
    have hne : c ≠ b := fun e => by subst e; have : G.res c = true := hc0; rw [hres] at this; cases this
    exact ⟨g1, g2, g3, fun v => by simp [Gh.ticket, hne]; exact g4 v⟩

/-- An append to a slice with a ticket, into a new block. -/
theorem RelS.appGrow (h : RelS G w0 s w) {sz N cap b v : Nat} {cs : List AV} (cur : Array Value) (E : TypeId) (vs : List Value)
    (hres : G.res b = false) (hb : s.get b = some (.tick sz v)) (hc : RelL G cs vs) (ht : cur.toList.take cs.length = vs) (hl : cs.length = N * sz) (hn : N ≤ cap) (hm : cap ≤ maxLen) (hs : cap * sz ≤ cur.size) :
    ∃ G', G.le G' ∧ RelV G' (.sl cs N (some (b, v + 1, sz))) (.slice (some ⟨w.heap.size, 0, none⟩) N cap) ∧ RelS G' w0 (s.upd b (.tick sz (v + 1))) (w.alloc (.cells cur E)) := by
  obtain ⟨pl, h⟩ := h
  have hlen : vs.length = N * sz := by rw [← hc.length, hl]
  have hle1 := Gh.more_le G w.heap.size 0 vs (fun o _ => h.imm_new o) h.base
  have hle2 := Gh.ticket_le (G.more w.heap.size 0 vs) b (v + 1) ⟨w.heap.size, 0, sz, N, cap⟩ (h.tk_next hb)
  have hle := hle1.trans hle2
  refine ⟨_, hle, ?_, fun c => if c = b then w.heap.size else pl c, ?_⟩
  · refine .sl _ _ _ _ _ _ vs (hc.mono hle) (fun j v hv => ?_) hn hm ⟨0, ⟨w.heap.size, 0, sz, N, cap⟩, by simp [Gh.ticket], rfl, rfl, rfl, rfl, .inl (by simp)⟩
    have := Gh.more_at G w.heap.size 0 vs j v hv
    rw [Nat.zero_add] at this ⊢
    exact this
  refine ⟨h.below.alloc h.base _, Nat.le_trans h.base (by simp), fun g o x hi => ?_, fun c hc' => ?_, fun c q hc' hd => ?_, fun c d q r hc' hd hq hr hp => ?_, fun c v' T hT sz' u hc' => ?_, fun c hc0 => ?_⟩
  · by_cases hg : g = w.heap.size
    · subst hg
      by_cases ho : o < vs.length
      · have hv : vs[o]? = some x := by
          have hx : (G.more w.heap.size 0 vs).imm w.heap.size o = some x := hi
          simpa [Gh.more, ho] using hx
        refine ⟨?_, hc.mem x (List.mem_of_getElem? hv)⟩
        rw [← ht] at hv
        rw [List.getElem?_take] at hv
        split at hv
        · rw [World.cell?_alloc_new]; simpa using hv
        · cases hv
      · have hx : (G.more w.heap.size 0 vs).imm w.heap.size o = some x := hi
        rw [Gh.more_beyond _ _ _ _ (by omega), h.imm_new] at hx
        cases hx
    · have hx : (G.more w.heap.size 0 vs).imm g o = some x := hi
      rw [Gh.more_other _ _ _ _ hg] at hx
      obtain ⟨h1, h2⟩ := h.imm g o x hx
      exact ⟨by rw [cell_of_heap (heap_alloc_lt w _ (h.imm_lt hx))]; exact h1, h2⟩
  · obtain ⟨g1, g2, g3, g4⟩ := h.fresh c hc'
    have hne : c ≠ b := fun e => by subst e; rw [hb] at g1; cases g1
    exact ⟨by rw [St.get_upd_ne _ _ hne]; exact g1, g2, g3, fun v => by simp [Gh.ticket, hne]; exact g4 v⟩
  · by_cases e : c = b
    · subst e
      rw [St.get_upd_same _ _ hb] at hc'
      cases hc'
      simp only [if_true]
      refine ⟨h.base, ⟨w.heap.size, 0, sz, N, cap⟩, cur, E, by simp [Gh.ticket], rfl, rfl, hn, hm, heap_alloc_new w _, by simpa using hs, fun o ho => ?_⟩
      show (G.more w.heap.size 0 vs).imm w.heap.size o = none
      rw [Gh.more_beyond _ _ _ _ (by rw [hlen]; simpa using ho)]
      exact h.imm_new o
    · rw [St.get_upd_ne _ _ e] at hc'
      simp only [e, if_false]
      obtain ⟨h1, h2⟩ := h.at_ c q hc' hd
      have := h2.lt hd.1
      exact ⟨h1, h2.keep hle (heap_alloc_lt w _ this) (fun o => Gh.more_other _ _ _ _ (by omega) o)⟩
  · by_cases e : c = b <;> by_cases e' : d = b
    · rw [e, e']
    · subst e
      rw [St.get_upd_ne _ _ e'] at hd
      simp only [if_true, e', if_false] at hp
      exact absurd (h.pl_lt hd hr) (by omega)
    · subst e'
      rw [St.get_upd_ne _ _ e] at hc'
      simp only [if_true, e, if_false] at hp
      exact absurd (h.pl_lt hc' hq) (by omega)
    · rw [St.get_upd_ne _ _ e] at hc'
      rw [St.get_upd_ne _ _ e'] at hd
      simp only [e, e', if_false] at hp
      exact h.apart c d q r hc' hd hq hr hp
  · by_cases e : c = b
    · subst e
      rw [St.get_upd_same _ _ hb] at hc'
      cases hc'
      by_cases hv' : v' = v + 1
      · omega
      · have hx : G.tk c v' = some T := by simpa [Gh.ticket, Gh.more, hv'] using hT
        have := h.tkV c v' T hx sz v hb
        omega
    · rw [St.get_upd_ne _ _ e] at hc'
      have hx : G.tk c v' = some T := by simpa [Gh.ticket, Gh.more, e] using hT
      exact h.tkV c v' T hx sz' u hc'
  · obtain ⟨g1, g2, g3, g4⟩ := h.resV c hc0
    have hne : c ≠ b := fun e => by subst e; have : G.res c = true := hc0; rw [hres] at this; cases this
    exact ⟨g1, g2, g3, fun v => by simp [Gh.ticket, hne]; exact g4 v⟩

/-- A store into a block of the small heap's. -/
theorem RelS.setCells (h : RelS G w0 s w) {b sz : Nat} {cs cs' : List AV} {us : List Value} (hb : s.get b = some (.cells sz cs)) (hres : G.res b = false) (hu : RelL G cs' us) (hl : cs'.length = cs.length) :
    ∃ g cur E, G.rho b = some g ∧ w.heap[g]? = some (.cells cur E (0, 0)) ∧ cs.length ≤ cur.size ∧ ∀ cur' : Array Value, cur'.size = cur.size → cur'.toList.take cs.length = us → RelS G w0 (s.upd b (.cells sz cs')) (w.setRow g cur') := by
  obtain ⟨pl, h⟩ := h
  obtain ⟨hbase, hr, cur, E, vs, e1, e2, e3, e4, e5, e6⟩ := h.at_ b _ hb ⟨by simp, hres⟩
  refine ⟨pl b, cur, E, hr, e1, e4, fun cur' hsz htk => ⟨pl, ?_⟩⟩
  have hgs := setRow_heap w (pl b) cur cur' E _ e1
  refine ⟨below_setRow h.below hbase _, by rw [size_setRow]; exact h.base, fun g' o' x hi => ?_, fun c hc => ?_, fun c q hc hd => ?_, fun c d q r hc hd hq hr hp => ?_, fun c v' T' hT sz' u hc => ?_, fun c hc0 => ?_⟩
  · obtain ⟨h1, h2⟩ := h.imm g' o' x hi
    have hg : g' ≠ pl b := fun e => by subst e; rw [e6] at hi; cases hi
    exact ⟨by rw [cell_setRow_other w _ _ _ hg]; exact h1, h2⟩
  · obtain ⟨g1, g2, g3, g4⟩ := h.fresh c hc
    have hne : c ≠ b := fun e => by subst e; rw [hb] at g1; cases g1
    exact ⟨by rw [St.get_upd_ne _ _ hne]; exact g1, g2, g3, g4⟩
  · by_cases e : c = b
    · subst e
      rw [St.get_upd_same _ _ hb] at hc
      cases hc
      exact ⟨hbase, hr, cur', E, us, hgs, by rw [hsz]; exact e2, hu, by rw [hl, hsz]; exact e4, by rw [hl]; exact htk, e6⟩
    · rw [St.get_upd_ne _ _ e] at hc
      obtain ⟨h1, h2⟩ := h.at_ c q hc hd
      have hne : pl c ≠ pl b := fun hx => e (h.apart c b q _ hc hb hd ⟨by simp, hres⟩ hx)
      exact ⟨h1, h2.keep (Gh.le_refl G) (setRow_other w _ _ _ hne) (fun o => rfl)⟩
  · have hc' : ∃ q, s.get c = some q ∧ G.Live c q := by
      by_cases e : c = b
      · exact ⟨_, e ▸ hb, ⟨by simp, by rw [e]; exact hres⟩⟩
      · rw [St.get_upd_ne _ _ e] at hc; exact ⟨_, hc, hq⟩
    have hd' : ∃ q, s.get d = some q ∧ G.Live d q := by
      by_cases e : d = b
      · exact ⟨_, e ▸ hb, ⟨by simp, by rw [e]; exact hres⟩⟩
      · rw [St.get_upd_ne _ _ e] at hd; exact ⟨_, hd, hr⟩
    obtain ⟨q1, a1, a2⟩ := hc'
    obtain ⟨q2, b1, b2⟩ := hd'
    exact h.apart c d q1 q2 a1 b1 a2 b2 hp
  · by_cases e : c = b
    · subst e
      rw [St.get_upd_same _ _ hb] at hc
      cases hc
    · rw [St.get_upd_ne _ _ e] at hc
      exact h.tkV c v' T' hT sz' u hc
  · exact h.resV c hc0

/-- A block that is given up. -/
theorem RelS.kill (h : RelS G w0 s w) {b : Nat} {o : Obj} (hb : s.get b = some o) : RelS G w0 (s.upd b .dead) w := by
  obtain ⟨pl, h⟩ := h
  refine ⟨pl, h.below, h.base, h.imm, fun c hc => ?_, fun c q hc hd => ?_, fun c d q r hc hd hq hr hp => ?_, fun c v' T' hT sz' u hc => ?_, fun c hc0 => ?_⟩
  · obtain ⟨g1, g2, g3, g4⟩ := h.fresh c hc
    have hne : c ≠ b := fun e => by subst e; rw [hb] at g1; cases g1
    exact ⟨by rw [St.get_upd_ne _ _ hne]; exact g1, g2, g3, g4⟩
  · by_cases e : c = b
    · subst e
      rw [St.get_upd_same _ _ hb] at hc
      cases hc
      exact absurd rfl hd.1
    · rw [St.get_upd_ne _ _ e] at hc
      exact h.at_ c q hc hd
  · by_cases e : c = b
    · subst e; rw [St.get_upd_same _ _ hb] at hc; cases hc; exact absurd rfl hq.1
    · by_cases e' : d = b
      · subst e'; rw [St.get_upd_same _ _ hb] at hd; cases hd; exact absurd rfl hr.1
      · rw [St.get_upd_ne _ _ e] at hc; rw [St.get_upd_ne _ _ e'] at hd
        exact h.apart c d q r hc hd hq hr hp
  · by_cases e : c = b
    · subst e; rw [St.get_upd_same _ _ hb] at hc; cases hc
    · rw [St.get_upd_ne _ _ e] at hc
      exact h.tkV c v' T' hT sz' u hc
  · exact h.resV c hc0

/-- Cells of a block that is given up never turn from now on. -/
theorem RelS.freeze (h : RelS G w0 s w) {b sz : Nat} {cs : List AV} (hb : s.get b = some (.cells sz cs)) (hres : G.res b = false) :
    ∃ g cur E vs G', G.rho b = some g ∧ w.heap[g]? = some (.cells cur E (0, 0)) ∧ G.le G' ∧ RelL G cs vs ∧ (∀ j v, vs[j]? = some v → G'.imm g j = some v) ∧ RelS G' w0 (s.upd b (.froz sz cs)) w := by
  obtain ⟨pl, h⟩ := h
  obtain ⟨hbase, hr, cur, E, vs, e1, e2, e3, e4, e5, e6⟩ := h.at_ b _ hb ⟨by simp, hres⟩
  have hle := Gh.more_le G (pl b) 0 vs (fun o _ => e6 o) hbase
  refine ⟨pl b, cur, E, vs, G.more (pl b) 0 vs, hr, e1, hle, e3, fun j v hv => by have := Gh.more_at G (pl b) 0 vs j v hv; rwa [Nat.zero_add] at this, pl, ?_⟩
  refine ⟨h.below, h.base, fun g o x hi => ?_, fun c hc => ?_, fun c q hc hd => ?_, fun c d q r hc hd hq hr hp => ?_, fun c v' T' hT sz' u hc => ?_, fun c hc0 => ?_⟩
  · by_cases hg : g = pl b
    · subst hg
      by_cases ho : o < vs.length
      · have hv : vs[o]? = some x := by simpa [Gh.more, ho] using hi
        refine ⟨?_, e3.mem x (List.mem_of_getElem? hv)⟩
        rw [← e5, List.getElem?_take] at hv
        split at hv
        · simp only [World.cell?, e1]; simpa using hv
        · cases hv
      · rw [Gh.more_beyond _ _ _ _ (by omega), e6] at hi; cases hi
    · rw [Gh.more_other _ _ _ _ hg] at hi
      exact h.imm g o x hi
  · obtain ⟨g1, g2, g3, g4⟩ := h.fresh c hc
    have hne : c ≠ b := fun e => by subst e; rw [hb] at g1; cases g1
    exact ⟨by rw [St.get_upd_ne _ _ hne]; exact g1, g2, g3, g4⟩
  · by_cases e : c = b
    · subst e
      rw [St.get_upd_same _ _ hb] at hc
      cases hc
      exact ⟨hbase, hle.rho _ _ hr, cur, E, vs, e1, e3.mono hle, fun j v hv => by have := Gh.more_at G (pl c) 0 vs j v hv; rwa [Nat.zero_add] at this⟩
    · rw [St.get_upd_ne _ _ e] at hc
      obtain ⟨h1, h2⟩ := h.at_ c q hc hd
      have hne : pl c ≠ pl b := fun hx => e (h.apart c b q _ hc hb hd ⟨by simp, hres⟩ hx)
      exact ⟨h1, h2.keep hle rfl (fun o => Gh.more_other _ _ _ _ hne o)⟩
  · by_cases e : c = b
    · by_cases e' : d = b
      · rw [e, e']
      · rw [St.get_upd_ne _ _ e'] at hd
        subst e
        exact h.apart c d _ r hb hd ⟨by simp, hres⟩ hr hp
    · by_cases e' : d = b
      · rw [St.get_upd_ne _ _ e] at hc
        subst e'
        exact h.apart c d q _ hc hb hq ⟨by simp, hres⟩ hp
      · rw [St.get_upd_ne _ _ e] at hc; rw [St.get_upd_ne _ _ e'] at hd
        exact h.apart c d q r hc hd hq hr hp
  · by_cases e : c = b
    · subst e; rw [St.get_upd_same _ _ hb] at hc; cases hc
    · rw [St.get_upd_ne _ _ e] at hc
      exact h.tkV c v' T' hT sz' u hc
  · exact h.resV c hc0
/-- What was given up is still known. -/
theorem RelS.froz (h : RelS G w0 s w) {b sz : Nat} {cs : List AV} (hb : s.get b = some (.froz sz cs)) (hres : G.res b = false) :
    ∃ g vs, G.rho b = some g ∧ RelL G cs vs ∧ (∀ j v, vs[j]? = some v → G.imm g j = some v) := by
  obtain ⟨pl, h⟩ := h
  obtain ⟨_, hr, cur, E, vs, e1, e2, e3⟩ := h.at_ b _ hb ⟨by simp, hres⟩
  exact ⟨pl b, vs, hr, e2, e3⟩

end
end Go.Ab
