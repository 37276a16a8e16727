/- Unlike beginnings and unlike words of devices have unlike bytes. No conditions. -/
import Derived.Test.YtbeimfhodgmjhaaDoorXiG
import Derived.Test.YtbeimfhodgmjhaaDoorM8_20
set_option linter.unusedSimpArgs false
set_option linter.unusedVariables false
set_option maxRecDepth 100000
set_option maxHeartbeats 4000000
namespace Go.Proofs.YtbeimfhodgmjhaaDoor
open Go Go.Ab
theorem x21 (k : Nat) (s : St) : evX (k + 1) 21 [] s = some (.bool true, s) := evF_ext (H := hTrue) rfl rfl
theorem x54 (k : Nat) (x : Su) (h : x.ok) (s : St) : evX (k + 1) 54 [.agg x.cells] s = some (.tup [.str (if x.may then setB x else []), .bool (decide x.may)], s) := evF_ext (H := hSPut) rfl (by
  show (toSu (.agg x.cells)).map _ = _
  rw [toSu_cells x h]; rfl)
/-! Whether two are one. -/
def EqL (ks : List SK) (xs ys : List AV) : Prop := ∃ b, eqScL ks xs ys = some b ∧ (b = true ↔ xs = ys)
theorem EqL.nil : EqL [] [] [] := ⟨true, rfl, by simp⟩
theorem EqL.step {ks : List SK} {xs ys : List AV} {k : SK} {x y : AV} {c : Bool} (h : EqL ks xs ys) (hs : eqSc k x y = some c) (hc : c = true ↔ x = y) : EqL (k :: ks) (x :: xs) (y :: ys) := by
  obtain ⟨b, h1, h2⟩ := h
  cases c with
  | true => exact ⟨b, by simp only [eqScL, hs, h1], by rw [h2, List.cons.injEq]; exact ⟨fun q => ⟨hc.1 rfl, q⟩, fun q => q.2⟩⟩
  | false => exact ⟨false, by simp only [eqScL, hs], by rw [List.cons.injEq]; exact ⟨fun q => (by cases q), fun q => hc.2 q.1⟩⟩
theorem EqL.i {ks : List SK} {xs ys : List AV} {k : IntKind} {a b : Int} (h : EqL ks xs ys) : EqL (.i :: ks) (.int k a :: xs) (.int k b :: ys) :=
  h.step (c := a == b) (by simp [eqSc]) (by simp)
theorem EqL.b {ks : List SK} {xs ys : List AV} {a b : Bool} (h : EqL ks xs ys) : EqL (.b :: ks) (.bool a :: xs) (.bool b :: ys) :=
  h.step (c := a == b) (by simp [eqSc]) (by simp)
theorem EqL.s {ks : List SK} {xs ys : List AV} {a b : List UInt8} (h : EqL ks xs ys) : EqL (.s :: ks) (.str a :: xs) (.str b :: ys) :=
  h.step (c := a == b) (by simp [eqSc]) (by simp)
theorem eqSu (x y : Su) : ∃ b, eqAV (.flat (.many [SK.i, SK.i, SK.i, SK.i, SK.i, SK.i, SK.i, SK.i, SK.i])) (.agg x.cells) (.agg y.cells) = some b ∧ (b = true ↔ x = y) := by
  obtain ⟨b, h1, h2⟩ := (EqL.nil.i.i.i.i.i.i.i.i.i : EqL [SK.i, SK.i, SK.i, SK.i, SK.i, SK.i, SK.i, SK.i, SK.i] x.cells y.cells)
  refine ⟨b, h1, h2.trans ⟨fun h => ?_, fun h => by rw [h]⟩⟩
  obtain ⟨f, t, a, c, b, s, w, z, ti⟩ := x
  obtain ⟨f', t', a', c', b', s', w', z', ti'⟩ := y
  simp only [Su.cells, suC, List.cons.injEq, AV.int.injEq, true_and, and_true] at h
  obtain ⟨rfl, rfl, rfl, rfl, rfl, rfl, rfl, rfl, rfl⟩ := h
  rfl
theorem eqXi (x y : Xi) : ∃ b, eqAV (.flat (.many [SK.i, SK.i, SK.i, SK.i, SK.b, SK.s])) (.agg x.cells) (.agg y.cells) = some b ∧ (b = true ↔ x = y) := by
  obtain ⟨b, h1, h2⟩ := (EqL.nil.s.b.i.i.i.i : EqL [SK.i, SK.i, SK.i, SK.i, SK.b, SK.s] x.cells y.cells)
  refine ⟨b, h1, h2.trans ⟨fun h => ?_, fun h => by rw [h]⟩⟩
  obtain ⟨f, t, sl, n, an, nk⟩ := x
  obtain ⟨f', t', sl', n', an', nk'⟩ := y
  simp only [Xi.cells, xiC, List.cons.injEq, AV.int.injEq, AV.bool.injEq, AV.str.injEq, true_and, and_true] at h
  obtain ⟨rfl, rfl, rfl, rfl, rfl, rfl⟩ := h
  rfl
theorem getS_self (x : Su) (hx : x.ok) (h : x.may) : getS (setB x) = some x := by
  have := getS_setB x hx h [] (by rw [List.append_nil]; exact getO_offB x.o h.2)
  rwa [List.append_nil] at this
theorem rdX_putX (x : Xi) (hx : x.ok) (h : x.may) : rdX (putX x) = some x := by
  obtain ⟨f, t, sl, n, an, nk⟩ := x
  have hn : (n = 1 ∨ n = 6 ∨ n = 8) ∧ -1 ≤ sl ∧ sl < n := by have := h.2; simp only at this; omega
  have e1 : num4 (UInt8.ofNat f.toNat) (UInt8.ofNat (f / 256).toNat) (UInt8.ofNat (f / 65536).toNat) (UInt8.ofNat (f / 16777216).toNat) = f := num4_four f hx.1
  have e2 : num4 (UInt8.ofNat t.toNat) (UInt8.ofNat (t / 256).toNat) (UInt8.ofNat (t / 65536).toNat) (UInt8.ofNat (t / 16777216).toNat) = t := num4_four t hx.2
  have e3 : (if ((slB sl).toNat : Int) = 255 then -1 else ((slB sl).toNat : Int)) = sl := by
    unfold slB
    by_cases g : sl < 0
    · rw [if_pos g]
      show (if (255 : Int) = 255 then (-1 : Int) else 255) = sl
      rw [if_pos rfl]; omega
    · rw [if_neg g]
      have : ((UInt8.ofNat sl.toNat).toNat : Int) = sl := by simp; omega
      rw [this, if_neg (by omega)]
  have e4 : ((UInt8.ofNat n.toNat).toNat : Int) = n := by simp; omega
  have e5 : (((if an = true then 1 else 0 : UInt8).toNat : Int) == 1) = an := by cases an <;> rfl
  show some (Xi.mk (num4 (UInt8.ofNat f.toNat) (UInt8.ofNat (f / 256).toNat) (UInt8.ofNat (f / 65536).toNat) (UInt8.ofNat (f / 16777216).toNat)) (num4 (UInt8.ofNat t.toNat) (UInt8.ofNat (t / 256).toNat) (UInt8.ofNat (t / 65536).toNat) (UInt8.ofNat (t / 16777216).toNat)) (if ((slB sl).toNat : Int) = 255 then -1 else ((slB sl).toNat : Int)) ((UInt8.ofNat n.toNat).toNat : Int) (((if an = true then 1 else 0 : UInt8).toNat : Int) == 1) nk) = _
  rw [e1, e2, e3, e4, e5]
theorem str_eq (a b : List UInt8) : binV .eql (.str a) (.str b) = some (.bool (a == b)) := (id rfl)
theorem eqBB (a b : Bool) : eqAV (.flat (.one SK.b)) (.bool a) (.bool b) = some (a == b) := (id rfl)
/-- What is compared of two beginnings. -/
theorem cmpS (x y : Su) (hx : x.ok) (hy : y.ok) : ∃ (b : Bool), eqAV (.flat (.many [SK.i, SK.i, SK.i, SK.i, SK.i, SK.i, SK.i, SK.i, SK.i])) (.agg x.cells) (.agg y.cells) = some b ∧ (decide x.may = true → decide y.may = true → (((if x.may then setB x else []) == (if y.may then setB y else [])) == b) = true) := by
  obtain ⟨b, h1, h2⟩ := eqSu x y
  refine ⟨b, h1, fun m1 m2 => ?_⟩
  have m1 := of_decide_eq_true m1
  have m2 := of_decide_eq_true m2
  rw [if_pos m1, if_pos m2, beq_iff_eq]
  by_cases e : x = y
  · subst e
    rw [h2.2 rfl, beq_self_eq_true]
  · have : b = false := by
      cases b with
      | false => rfl
      | true => exact absurd (h2.1 rfl) e
    rw [this]
    refine beq_eq_false_iff_ne.2 fun hb => e ?_
    have := getS_self x hx m1
    rw [hb, getS_self y hy m2] at this
    exact (Option.some.inj this).symm
theorem cmpX (x y : Xi) (hx : x.ok) (hy : y.ok) : ∃ (b : Bool), eqAV (.flat (.many [SK.i, SK.i, SK.i, SK.i, SK.b, SK.s])) (.agg x.cells) (.agg y.cells) = some b ∧ (decide x.may = true → decide y.may = true → (((if x.may then putX x else []) == (if y.may then putX y else [])) == b) = true) := by
  obtain ⟨b, h1, h2⟩ := eqXi x y
  refine ⟨b, h1, fun m1 m2 => ?_⟩
  have m1 := of_decide_eq_true m1
  have m2 := of_decide_eq_true m2
  rw [if_pos m1, if_pos m2, beq_iff_eq]
  by_cases e : x = y
  · subst e
    rw [h2.2 rfl, beq_self_eq_true]
  · have : b = false := by
      cases b with
      | false => rfl
      | true => exact absurd (h2.1 rfl) e
    rw [this]
    refine beq_eq_false_iff_ne.2 fun hb => e ?_
    have := rdX_putX x hx m1
    rw [hb, rdX_putX y hy m2] at this
    exact (Option.some.inj this).symm
end Go.Proofs.YtbeimfhodgmjhaaDoor
