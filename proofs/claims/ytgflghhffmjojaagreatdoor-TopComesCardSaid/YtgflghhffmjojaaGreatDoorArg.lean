/- A law's arguments as the evaluator reads them: numbers, bytes. No conditions. -/
import Derived.Test.YtgflghhffmjojaaGreatDoorAbE
import Derived.WalkKit
import Derived.ProofKit
import Derived.OpenShut
import Derived.Carry
import Derived.ChangeSlices
set_option linter.unusedSimpArgs false
set_option linter.unusedVariables false
namespace Go.Ab
open Go Go.ChangeShapes Go.WideShapes Go.ChangeAt Go.RowKit

/-- Bytes: nil, or a list that never turns. -/
def IsBytes (x : AV) (b : List UInt8) : Prop := (x = .nils ∧ b = []) ∨ x = .sl (bytesAV b) b.length none
section
variable {P : Program} {W : World} {H : Type} {enc : TypeId × Value → H} {base : Nat}
theorem arg_int {t : TypeId} {k : IntKind} {v : Value} {d : DataW H} {ps : List MemPlace} (ht : P.underlying t = some (.int k)) (hval : Value.okWide P W .any base t v)
    (hd : DataW.Trod enc P W 0 (fun _ => true) true t v d ps) : ∃ n, (Lit.int k n).wf = true ∧ RelV (Gh.start W) (.int k n) v := by
  obtain ⟨n, rfl, _, _, hw⟩ := open_int ht hval hd
  exact ⟨n, hw, .int _ _⟩
theorem slice_spot {t e : TypeId} {a : Addr} {len cap : Nat} (ht : P.underlying t = some (.slice e)) (hval : Value.okWide P W .any base t (.slice (some a) len cap)) : a.spot = none := by
  simp only [Value.okWide, ht, Cell.okWide, Cell.ok] at hval
  exact hval.2.2.2.1
theorem arg_bytes {t e : TypeId} {v : Value} {d : DataW H} {ps : List MemPlace} (ht : P.underlying t = some (.slice e)) (he : P.underlying e = some (.int .u8)) (hc : P.cellsOf e = 1) (hval : Value.okWide P W .any base t v)
    (hd : DataW.Trod enc P W 0 (fun _ => true) true t v d ps) : ∃ x b, IsBytes x b ∧ RelV (Gh.start W) x v := by
  obtain ⟨a0, len0, cap0, rfl⟩ := okWide_slice ht hval
  obtain ⟨fuel, hf⟩ := hd
  rcases Go.ChangeShapes.open_ints ht he hc hf with ⟨hcs, hx⟩ | ⟨a, len, cap, zs, hcs, _, hl, hm, hz, hx, hcell, hwz⟩
  · simp [Value.cells] at hcs
    obtain ⟨rfl, rfl, rfl⟩ := hcs
    exact ⟨.nils, [], .inl ⟨rfl, rfl⟩, .nils⟩
  · simp [Value.cells] at hcs
    obtain ⟨rfl, rfl, rfl⟩ := hcs
    have hsp := slice_spot ht hval
    obtain ⟨g, o, sp⟩ := a
    simp only at hsp
    subst hsp
    simp only [if_true] at hz
    have hbyte : ∀ n ∈ zs, ∃ u : UInt8, (n : Int) = (u.toNat : Int) := by
      intro n hn
      have := hwz n hn
      have hb : 0 ≤ n ∧ n ≤ 255 := by simpa [Lit.wf, IntKind.min, IntKind.max, IntKind.signed, IntKind.bits] using this
      exact ⟨UInt8.ofNat n.toNat, by
        have : n.toNat < 256 := by omega
        simp [UInt8.toNat_ofNat']
        omega⟩
    have hlist : ∀ l : List Int, (∀ n ∈ l, ∃ u : UInt8, (n : Int) = (u.toNat : Int)) → ∃ b : List UInt8, b.length = l.length ∧ bytesAV b = l.map (.int .u8 ·) := by
      intro l
      induction l with
      | nil => intro _; exact ⟨[], rfl, rfl⟩
      | cons n l ih =>
        intro h
        obtain ⟨u, hu⟩ := h n (by simp)
        obtain ⟨b, h1, h2⟩ := ih (fun m hm => h m (by simp [hm]))
        exact ⟨u :: b, by simp [h1], by simp only [bytesAV, List.map_cons] at h2 ⊢; rw [h2, hu]⟩
    obtain ⟨b, hb1, hb2⟩ := hlist (zs.take len0) (fun n hn => hbyte n (List.mem_of_mem_take hn))
    have hlen : b.length = len0 := by rw [hb1, List.length_take]; omega
    obtain ⟨q1, q2⟩ := rp_of_cells (w := W) (g := g) (k := .u8) (zs.take len0) o (fun j n hn => by
      have hj : j < (zs.take len0).length := (List.getElem?_eq_some_iff.1 hn).1
      rw [List.length_take] at hj
      have h1 := hcell j (by omega)
      rw [List.getElem?_take] at hn
      split at hn
      · rw [List.getD_eq_getElem?_getD, hn, addr_add] at h1
        exact h1
      · cases hn)
    refine ⟨.sl (bytesAV b) b.length none, b, .inr rfl, ?_⟩
    rw [hb2, hlen]
    exact .sl _ _ _ _ _ _ _ q1 q2 hl hm trivial
/-- Arguments read as they did. -/
theorem trodAll_stays (hl : laidOutB P = true) {W' : World} (hb : Below W.heap.size W W') : ∀ (ts : List TypeId) (vs : List Value) (ds : List (DataW H)) (ps : List MemPlace), DataW.TrodAll enc P W 0 (fun _ => true) true ts vs ds ps →
    (ts.all fun t => P.readableRec t && decide (t < P.types.size)) = true → (∀ x ∈ ps, x.block < W.heap.size) → DataW.TrodAll enc P W' 0 (fun b => decide (b < W.heap.size)) true ts vs ds ps := by
  intro ts
  induction ts with
  | nil =>
    intro vs ds ps h _ _
    obtain ⟨rfl, rfl, rfl⟩ := trodAll_nil h
    rfl
  | cons t ts ih =>
    intro vs ds ps h ha hlt
    obtain ⟨v, vs', d, ds', p, q, rfl, rfl, rfl, h1, h2⟩ := trodAll_cons h
    rw [List.all_cons, Bool.and_eq_true, Bool.and_eq_true, decide_eq_true_eq] at ha
    exact ⟨p, q, Below.trod hl ha.1.1 ha.1.2 h1 hb (fun x hx => hlt x (List.mem_append_left _ hx)), ih _ _ _ h2 ha.2 (fun x hx => hlt x (List.mem_append_right _ hx)), rfl⟩
end
end Go.Ab
