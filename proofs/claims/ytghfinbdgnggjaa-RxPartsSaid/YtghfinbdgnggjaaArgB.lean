/- A slice of slices of bytes as an argument. No conditions. -/
import Derived.Test.YtghfinbdgnggjaaArg
import Derived.Deep.Matrix
set_option linter.unusedSimpArgs false
set_option linter.unusedVariables false
namespace Go.Ab
open Go Go.ChangeShapes Go.WideShapes Go.ChangeAt Go.RowKit
/-- Slices of bytes: nil, or a list of such that never turn. -/
def IsBytess (x : AV) (bs : List (List UInt8)) : Prop := (x = .nils ∧ bs = []) ∨ ∃ ys, x = .sl ys bs.length none ∧ ys.length = bs.length ∧ ∀ i (h : i < bs.length), ∃ y, ys[i]? = some y ∧ IsBytes y bs[i]
theorem bytes_of_ints : ∀ l : List Int, (∀ n ∈ l, (Lit.int .u8 n).wf = true) → ∃ b : List UInt8, b.length = l.length ∧ bytesAV b = l.map (.int .u8 ·) := by
  intro l
  induction l with
  | nil => intro _; exact ⟨[], rfl, rfl⟩
  | cons n l ih =>
    intro h
    have hb : 0 ≤ n ∧ n ≤ 255 := by simpa [Lit.wf, IntKind.min, IntKind.max, IntKind.signed, IntKind.bits] using h n (by simp)
    obtain ⟨b, h1, h2⟩ := ih (fun m hm => h m (by simp [hm]))
    refine ⟨UInt8.ofNat n.toNat :: b, by simp [h1], ?_⟩
    simp only [bytesAV, List.map_cons] at h2 ⊢
    have hx : ((UInt8.ofNat n.toNat).toNat : Int) = n := by
      have : n.toNat < 256 := by omega
      rw [show (UInt8.ofNat n.toNat).toNat = n.toNat by simp [UInt8.toNat_ofNat']; omega]
      omega
    rw [h2, hx]
theorem rel_rows {G : Gh} (f : Nat → AV) (V : Nat → Value) : ∀ n, (∀ r, r < n → RelV G (f r) (V r) ∧ (V r).oneCell' = true) → RelL G ((List.range n).map f) ((List.range n).map V) := by
  intro n
  induction n with
  | zero => intro _; exact .nil
  | succ n ih =>
    intro h
    rw [List.range_succ, List.map_append, List.map_append]
    exact (ih fun r hr => h r (by omega)).append (.cons _ _ _ _ (h n (by omega)).1 (h n (by omega)).2 .nil)
section
variable {P : Program} {W : World} {H : Type} {enc : TypeId × Value → H} {base : Nat}
theorem arg_bytess {t e q : TypeId} {v : Value} {d : DataW H} {ps : List MemPlace} (ht : P.underlying t = some (.slice e)) (he : P.underlying e = some (.slice q)) (hq : P.underlying q = some (.int .u8)) (ce : P.cellsOf e = 1) (cq : P.cellsOf q = 1) (hval : Value.okWide P W .any base t v)
    (hd : DataW.Trod enc P W 0 (fun _ => true) true t v d ps) : ∃ x bs, IsBytess x bs ∧ RelV (Gh.start W) x v := by
  obtain ⟨a0, len0, cap0, rfl⟩ := okWide_slice ht hval
  obtain ⟨fuel, hf⟩ := hd
  rcases Go.Deep.open_int_rows ht he hq ce cq hf with ⟨hcs, hx⟩ | ⟨a, len, cap, A, L, C, Z, hcs, _, hl, hm, hx, hrow⟩
  · simp [Value.cells] at hcs
    obtain ⟨rfl, rfl, rfl⟩ := hcs
    exact ⟨.nils, [], .inl ⟨rfl, rfl⟩, .nils⟩
  · simp [Value.cells] at hcs
    obtain ⟨rfl, rfl, rfl⟩ := hcs
    have hsp := slice_spot ht hval
    obtain ⟨g, o, sp⟩ := a
    simp only at hsp
    subst hsp
    have each : ∀ r, r < len0 → ∃ y : AV × List UInt8, IsBytes y.1 y.2 ∧ RelV (Gh.start W) y.1 (.slice (A r) (L r) (C r)) := by
      intro r hr
      obtain ⟨_, r1, r2, r3, r4, r5, r6⟩ := hrow r (by omega)
      cases hA : A r with
      | none =>
        have := r5 hA
        have hL : L r = 0 := by omega
        rw [this, hL]
        exact ⟨(.nils, []), .inl ⟨rfl, rfl⟩, .nils⟩
      | some a' =>
        by_cases hC : C r = 0
        · have hL : L r = 0 := by omega
          rw [hC, hL]
          exact ⟨(.sl [] 0 none, []), .inr rfl, .sl0 a'⟩
        · obtain ⟨_, hc⟩ := r6 a' hA
          have h0 := hc 0 (by omega)
          obtain ⟨g', o', sp'⟩ := a'
          have hs : sp' = none := by
            cases sp' with
            | none => rfl
            | some z =>
              simp only [Addr.add, if_true, World.cell?] at h0
              split at h0
              · simp at h0
              · cases h0
          subst hs
          obtain ⟨b, hb1, hb2⟩ := bytes_of_ints ((Z r).take (L r)) (fun n hn => r4 n (List.mem_of_mem_take hn))
          have hlen : b.length = L r := by rw [hb1, List.length_take]; omega
          obtain ⟨q1, q2⟩ := rp_of_cells (w := W) (g := g') (k := .u8) ((Z r).take (L r)) o' (fun j n hn => by
            have hj : j < ((Z r).take (L r)).length := (List.getElem?_eq_some_iff.1 hn).1
            rw [List.length_take] at hj
            have h1 := hc j (by omega)
            rw [List.getElem?_take] at hn
            split at hn
            · rw [List.getD_eq_getElem?_getD, hn, addr_add] at h1
              exact h1
            · cases hn)
          refine ⟨(.sl (bytesAV b) b.length none, b), .inr rfl, ?_⟩
          simp only
          rw [hb2, hlen]
          exact .sl _ _ _ _ _ _ _ q1 q2 r1 r2 trivial
    obtain ⟨y, hy⟩ := Go.Deep.choose_lt each
    refine ⟨.sl ((List.range len0).map fun r => (y r).1) ((List.range len0).map fun r => (y r).2).length none, (List.range len0).map fun r => (y r).2, .inr ⟨_, rfl, by simp, fun i hi => ?_⟩, ?_⟩
    · simp only [List.length_map, List.length_range] at hi
      refine ⟨(y i).1, by simp [hi], ?_⟩
      simp only [List.getElem_map, List.getElem_range]
      exact (hy i hi).1
    · rw [List.length_map, List.length_range]
      refine .sl _ _ _ _ _ _ ((List.range len0).map fun r => .slice (A r) (L r) (C r)) (rel_rows _ _ _ fun r hr => ⟨(hy r hr).2, rfl⟩) (fun j v hj => ?_) hl hm trivial
      rw [List.getElem?_map] at hj
      have hj2 : j < len0 := by
        by_cases h : j < len0
        · exact h
        · rw [List.getElem?_eq_none (by simp; omega)] at hj; cases hj
      rw [List.getElem?_range hj2] at hj
      cases hj
      have := (hrow j (by omega)).1
      rw [addr_add] at this
      exact start_imm this rfl
end
end Go.Ab
