/- Many objects in one heap, apart from one another: what one does leaves the others as they were. No conditions. -/
import Derived.Test.YtochnineebgbgaaDoorFoT
set_option linter.unusedSimpArgs false
set_option linter.unusedVariables false
namespace Go.Proofs.YtochnineebgbgaaDoor
open Go Go.Ab
/-- An object: what is said of it, and the blocks that it stands on. -/
structure Part where
  P : St → Prop
  F : St → Nat → Prop
  lt : ∀ s, P s → ∀ j, F s j → j < s.next
  keep : ∀ s s', P s → s.next ≤ s'.next → (∀ j, F s j → s'.get j = s.get j) → P s' ∧ ∀ j, F s' j → F s j
def Part.off (s : St) (p q : Part) : Prop := ∀ j, p.F s j → ¬ q.F s j
theorem Part.off.symm {s : St} {p q : Part} (h : Part.off s p q) : Part.off s q p := fun j hj hk => h j hk hj
/-- They stand apart. -/
structure Apart (s : St) (l : List Part) : Prop where
  wf : ∀ j, s.next ≤ j → s.get j = none
  is : ∀ p ∈ l, p.P s
  off : l.Pairwise (Part.off s)
section
variable {s s' : St} {p p' q : Part} {l l' : List Part}
theorem Apart.nil (h : ∀ j, s.next ≤ j → s.get j = none) : Apart s [] := ⟨h, (fun p hp => by cases hp), List.Pairwise.nil⟩
theorem Apart.head (h : Apart s (p :: l)) : p.P s := h.is p (by simp)
theorem Apart.tail (h : Apart s (p :: l)) : Apart s l := ⟨h.wf, fun q hq => h.is q (by simp [hq]), (List.pairwise_cons.1 h.off).2⟩
theorem Apart.perm (h : Apart s l) (hp : l.Perm l') : Apart s l' :=
  ⟨h.wf, fun q hq => h.is q (hp.mem_iff.2 hq), (hp.pairwise_iff Part.off.symm).1 h.off⟩
theorem Apart.swap {r : Part} (h : Apart s (p :: r :: l)) : Apart s (r :: p :: l) := h.perm (List.Perm.swap r p l)
/-- The third one ahead. -/
theorem Apart.third {r t : Part} (h : Apart s (p :: r :: t :: l)) : Apart s (t :: p :: r :: l) := h.perm (by
  refine (List.Perm.trans ?_ (List.Perm.swap t p (r :: l)))
  exact List.Perm.cons p (List.Perm.swap t r l))
theorem Apart.third' {r t : Part} (h : Apart s (t :: p :: r :: l)) : Apart s (p :: r :: t :: l) := h.perm (by
  refine (List.Perm.trans (List.Perm.swap p t (r :: l)) ?_)
  exact List.Perm.cons p (List.Perm.swap r t l))
/-- Something is done to blocks of the first one, or to new ones. -/
theorem Apart.turn (h : Apart s (p :: l)) (hle : s.next ≤ s'.next) (hw : ∀ j, s'.next ≤ j → s'.get j = none) (hs : ∀ j, j < s.next → ¬ p.F s j → s'.get j = s.get j) (hp : p'.P s') (hF : ∀ j, p'.F s' j → s.next ≤ j ∨ p.F s j) : Apart s' (p' :: l) := by
  obtain ⟨h1, h2⟩ := List.pairwise_cons.1 h.off
  have hk : ∀ q ∈ l, q.P s' ∧ ∀ j, q.F s' j → q.F s j := fun q hq =>
    q.keep s s' (h.is q (by simp [hq])) hle (fun j hj => hs j (q.lt s (h.is q (by simp [hq])) j hj) (fun hk => h1 q hq j hk hj))
  refine ⟨hw, fun q hq => ?_, List.pairwise_cons.2 ⟨fun q hq j hj hj2 => ?_, ?_⟩⟩
  · rcases List.mem_cons.1 hq with rfl | hq
    · exact hp
    · exact (hk q hq).1
  · have hk' := (hk q hq).2 j hj2
    rcases hF j hj with h3 | h3
    · have := q.lt s (h.is q (by simp [hq])) j hk'
      omega
    · exact h1 q hq j h3 hk'
  · exact h2.imp_of_mem fun {a b} ha hb hab j hj hj2 => hab j ((hk a ha).2 j hj) ((hk b hb).2 j hj2)
/-- A function of the evaluator is called with the first one. -/
theorem Apart.step (h : Apart s (p :: l)) {k f : Nat} {args : List AV} {v : AV} (he : evO k f args s = some (v, s')) (hg : inL (fun j => s.next ≤ j ∨ p.F s j) args) (hf : Fp (fun j => s.next ≤ j ∨ p.F s j) s s) (hp : p'.P s')
    (hF : Fp (fun j => s.next ≤ j ∨ p.F s j) s s' → ∀ j, p'.F s' j → s.next ≤ j ∨ p.F s j) : Apart s' (p' :: l) ∧ s.next ≤ s'.next := by
  have hf' := (evO_reach _ s k f args s v s' he hg hf).2
  exact ⟨h.turn hf'.le hf'.wf (fun j hj hn => hf'.same j (by rintro (h1 | h1); omega; exact hn h1)) hp (hF hf'), hf'.le⟩
/-- One block. -/
def cellPart (b : Nat) (o : Ab.Obj) : Part where
  P s := s.get b = some o ∧ b < s.next
  F _ j := j = b
  lt _ h j hj := hj ▸ h.2
  keep s s' h hn hs := ⟨⟨(hs b rfl).trans h.1, Nat.lt_of_lt_of_le h.2 hn⟩, fun _ h => h⟩
theorem Apart.new (h : Apart s l) (o : Ab.Obj) : Apart (s.new o) (cellPart s.next o :: l) := by
  have hk : ∀ q ∈ l, q.P (s.new o) ∧ ∀ j, q.F (s.new o) j → q.F s j := fun q hq =>
    q.keep s _ (h.is q hq) (by simp [St.new]) (fun j hj => get_new_ne _ _ (by have := q.lt s (h.is q hq) j hj; omega))
  refine ⟨fun j hj => ?_, fun q hq => ?_, List.pairwise_cons.2 ⟨fun q hq j hj hk' => ?_, ?_⟩⟩
  · have : s.next + 1 ≤ j := hj
    rw [get_new_ne _ _ (by omega)]
    exact h.wf j (by omega)
  · rcases List.mem_cons.1 hq with rfl | hq
    · exact ⟨get_new_eq _ _, by simp [St.new]⟩
    · exact (hk q hq).1
  · have := q.lt s (h.is q hq) j ((hk q hq).2 j hk')
    have : j = s.next := hj
    omega
  · exact h.off.imp_of_mem fun {a b} ha hb hab j hj hk' => hab j ((hk a ha).2 j hj) ((hk b hb).2 j hk')
theorem Apart.upd {b : Nat} {o : Ab.Obj} (h : Apart s (cellPart b o :: l)) (o' : Ab.Obj) : Apart (s.upd b o') (cellPart b o' :: l) := by
  have hb := h.head
  refine h.turn (Nat.le_refl _) (fun j hj => ?_) (fun j hj hn => get_upd_ne _ _ hn) ⟨get_upd_eq _ _ hb.1, hb.2⟩ (fun j hj => .inr hj)
  have hj' : s.next ≤ j := hj
  rw [get_upd_ne _ _ (by have := hb.2; omega)]
  exact h.wf j hj'
theorem Apart.get {b : Nat} {o : Ab.Obj} (h : Apart s l) (hm : cellPart b o ∈ l) : s.get b = some o ∧ b < s.next := h.is _ hm
end
def noPart : Part where
  P _ := True
  F _ _ := False
  lt _ _ _ h := h.elim
  keep _ _ _ _ _ := ⟨trivial, fun _ h => h.elim⟩
theorem Apart.no {s : St} {l : List Part} (h : Apart s l) : Apart s (noPart :: l) :=
  ⟨h.wf, fun q hq => by
    rcases List.mem_cons.1 hq with rfl | hq
    · trivial
    · exact h.is q hq, List.pairwise_cons.2 ⟨fun _ _ _ h => h.elim, h.off⟩⟩
theorem Apart.sub {s : St} {l l' : List Part} (h : Apart s l) (hs : l'.Sublist l) : Apart s l' := ⟨h.wf, fun p hp => h.is p (hs.mem hp), h.off.sublist hs⟩
theorem Apart.take {s : St} {l : List Part} (h : Apart s l) (n : Nat) : Apart s (l.take n) := h.sub (List.take_sublist n l)
end Go.Proofs.YtochnineebgbgaaDoor
