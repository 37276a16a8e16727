/- Two turns in one heap: what one does leaves the other one as it was. No conditions. -/
import Derived.Test.YtochnineebgbgaaDoorFoo
import Derived.Test.YtochnineebgbgaaDoorTakeA
set_option linter.unusedSimpArgs false
set_option linter.unusedVariables false
set_option maxRecDepth 100000
namespace Go.Ab
open Go
/-- What an entry of the list may do. -/
def ExtIn (C : Nat → Prop) (s0 : St) (ext : Nat → Option (List AV → St → Option (AV × St))) : Prop :=
  ∀ f h, ext f = some h → ∀ args s v s', h args s = some (v, s') → inL C args → Fp C s0 s → inV C v ∧ Fp C s0 s'
theorem extWith_in {C : Nat → Prop} {s0 : St} {ext : Nat → Option (List AV → St → Option (AV × St))} {L : Nat → Option (List AV → St → Option AV)} (hx : ExtIn C s0 ext) (hL : ∀ f h, L f = some h → ∀ args s v, h args s = some v → flat v = true) : ExtIn C s0 (extWith ext L) := by
  intro f h hf args s v s' hv ha hs
  unfold extWith at hf
  split at hf
  · rename_i g hg
    cases hf
    obtain ⟨w, h1, h2⟩ := Option.map_eq_some_iff.1 hv
    cases h2
    exact ⟨flat_in _ (hL f g hg _ _ _ h1), hs⟩
  · exact hx f h hf args s v s' hv ha hs
theorem growX_in {C : Nat → Prop} {s0 : St} {args : List AV} {s s' : St} {v : AV} (h : growX args s = some (v, s')) (ha : inL C args) (hs : Fp C s0 s) : inV C v ∧ Fp C s0 s' := by
  unfold growX at h
  repeat' split at h
  all_goals first
    | (cases h; done)
    | (cases h; exact ⟨ha.1, hs⟩)
    | (cases h; exact ⟨trivial, hs⟩)
    | (cases h; exact ⟨⟨trivial, hs.new _ hs.le⟩, hs.mk' trivial⟩)
/-- A state in which nothing stands beyond its end. -/
def Wf (s : St) : Prop := ∀ j, s.next ≤ j → s.get j = none
theorem wf_nil : Wf St.nil := fun _ _ => rfl
mutual
theorem all_in (v : AV) : inV (fun _ => True) v := by
  cases v with
  | rp cs => exact allL_in cs
  | sl cs m tk =>
    refine ⟨allL_in cs, ?_⟩
    cases tk with
    | none => trivial
    | some p => trivial
  | iface t w => exact all_in w
  | agg cs => exact allL_in cs
  | tup cs => exact allL_in cs
  | _ => trivial
theorem allL_in (l : List AV) : inL (fun _ => True) l := by
  cases l with
  | nil => trivial
  | cons a l => exact ⟨all_in a, allL_in l⟩
end
theorem Fp.all {s : St} (h : Wf s) : Fp (fun _ => True) s s :=
  ⟨Nat.le_refl _, fun _ _ => trivial, fun _ _ _ _ _ => allL_in _, fun _ _ _ _ _ => allL_in _, fun j hj => absurd trivial hj, h⟩
end Go.Ab
namespace Go.Proofs.YtochnineebgbgaaDoor
open Go Go.Ab
theorem ext_in (C : Nat → Prop) (s0 : St) : ExtIn C s0 ext := by
  intro f h hf args s v s' hv ha hs
  unfold ext at hf
  split at hf
  · cases hf; exact growX_in hv ha hs
  · cases hf
theorem extO_in (C : Nat → Prop) (s0 : St) : ExtIn C s0 extO := extWith_in (ext_in C s0) (by
  intro f h hf args s v hv
  unfold lstO at hf
  rcases some_of hf with ⟨rfl, rfl⟩ | hf
  · exact (begun_pure args s v hv).1
  rcases some_of hf with ⟨rfl, rfl⟩ | hf
  · exact (add_pure args s v hv).1
  rcases some_of hf with ⟨rfl, rfl⟩ | hf
  · exact (body_pure args s v hv).1
  rcases some_of hf with ⟨rfl, rfl⟩ | hf
  · exact (diff_pure args s v hv).1
  rcases some_of hf with ⟨rfl, rfl⟩ | hf
  · exact (in_pure args s v hv).1
  rcases some_of hf with ⟨rfl, rfl⟩ | hf
  · exact (clone_pure args s v hv).1
  cases hf)
theorem evO_reach (C : Nat → Prop) (s0 : St) (k : Nat) : Go.Ab.Reach C s0 (evO k) :=
  evF_in' (fun _ _ h => table_ok h) (fun g => flat_in _ (tab_flat g)) (extO_in C s0) k
theorem evO_wf {k f : Nat} {args : List AV} {s s' : St} {v : AV} (h : evO k f args s = some (v, s')) (ha : inL (fun _ => True) args) (hs : Wf s) : Wf s' :=
  (evO_reach _ s k f args s v s' h ha (Fp.all hs)).2.wf
/-- The ticket of the list that an object of out.Out holds. -/
def own (s : St) (o j : Nat) : Prop := ∃ W cs n v z f st, s.get o = some (.cells 0 [W, .sl cs n (some (j, v, z)), f, st])
/-- What a turn stands on. -/
def Ft (s : St) (t o i : Nat) (j : Nat) : Prop := j = t ∨ j = o ∨ j = i ∨ own s o j
section
variable {s : St} {t o i : Nat} {role size : Int} {mine : Bool} {W : Int} {L : List (List UInt8)} {f st nx : Int} {od : Bool}
theorem strs_in (C : Nat → Prop) (L : List (List UInt8)) : inL C (L.map AV.str) := inL_iff.2 fun v hv => by
  obtain ⟨b, _, rfl⟩ := List.mem_map.1 hv
  trivial
theorem TurnAt.fp (h : TurnAt s t o i role size mine W L f st nx od) (hw : Wf s) : Fp (fun j => s.next ≤ j ∨ Ft s t o i j) s s := by
  obtain ⟨h1, h2, h3, h4, h5, h6, h7, h8, lv, h9, h10⟩ := h
  have key : ∀ j z cs, (s.next ≤ j ∨ Ft s t o i j) → s.get j = some (.cells z cs) → inL (fun j => s.next ≤ j ∨ Ft s t o i j) cs := by
    rintro j z cs (hj | rfl | rfl | rfl | hj) hg
    · rw [hw j hj] at hg; cases hg
    · rw [h6] at hg; cases hg
      exact ⟨trivial, trivial, .inr (.inr (.inl rfl)), .inr (.inr (.inr (.inl rfl))), trivial, trivial⟩
    · have h9' := h9
      rw [h9] at hg; cases hg
      refine ⟨trivial, ?_, trivial, trivial, trivial⟩
      rcases h10 with ⟨rfl, _⟩ | ⟨tk, v, rfl, _⟩
      · trivial
      · exact ⟨strs_in _ _, .inr (.inr (.inr (.inr ⟨_, _, _, _, _, _, _, h9'⟩)))⟩
    · rw [h7] at hg; cases hg
      exact ⟨trivial, trivial, trivial⟩
    · obtain ⟨W', cs', n, v, z', f', st', hj⟩ := hj
      rw [h9] at hj
      cases hj
      rcases h10 with ⟨hx, _⟩ | ⟨tk, v', hx, ht, _⟩
      · cases hx
      · cases hx
        rw [ht] at hg; cases hg
  refine ⟨Nat.le_refl _, fun j hj => .inl hj, key, ?_, fun j _ => rfl, hw⟩
  rintro j z cs (hj | rfl | rfl | rfl | hj) hg
  · rw [hw j hj] at hg; cases hg
  · rw [h6] at hg; cases hg
  · rw [h9] at hg; cases hg
  · rw [h7] at hg; cases hg
  · obtain ⟨W', cs', n, v, z', f', st', hj⟩ := hj
    rw [h9] at hj
    cases hj
    rcases h10 with ⟨hx, _⟩ | ⟨tk, v', hx, ht, _⟩
    · cases hx
    · cases hx
      rw [ht] at hg; cases hg
end
end Go.Proofs.YtochnineebgbgaaDoor
