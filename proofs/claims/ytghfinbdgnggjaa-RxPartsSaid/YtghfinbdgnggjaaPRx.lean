/- What rx finds in what sir wrapped: plain laws. No conditions. -/
import Derived.Test.YtghfinbdgnggjaaRxAll
import Derived.Test.YtghfinbdgnggjaaLoop15
set_option linter.unusedSimpArgs false
namespace Go.Proofs.Ytghfinbdgnggjaa
open Go Go.Ab
abbrev RxSt := RxS × List (List UInt8)
theorem rxStep_no193 (st : RxSt) (x : UInt8) (h : x ≠ 193) : (rxStep st x).2 = st.2 := by
  have hx : (x == 193) = false := beq_eq_false_iff_ne.2 h
  unfold rxStep rxPut rxMore
  simp only [hx]
  repeat' split
  all_goals first | rfl | (exfalso; simp_all; done) | simp_all
theorem rxStep_most (st : RxSt) (x : UInt8) : (rxStep st x).1.most = st.1.most := by
  unfold rxStep rxPut rxMore rxShut
  dsimp only
  repeat' split
  all_goals rfl
theorem rxFold_most (xs : List UInt8) (st : RxSt) : (xs.foldl rxStep st).1.most = st.1.most := by
  induction xs generalizing st with
  | nil => rfl
  | cons x xs ih => rw [List.foldl_cons, ih, rxStep_most]
theorem rxFold_no193 (xs : List UInt8) (st : RxSt) (h : ∀ x ∈ xs, x ≠ 193) : (xs.foldl rxStep st).2 = st.2 := by
  induction xs generalizing st with
  | nil => rfl
  | cons x xs ih => rw [List.foldl_cons, ih _ (fun y hy => h y (by simp [hy])), rxStep_no193 _ _ (h x (by simp))]
theorem rxStep_more (st : RxSt) (x : UInt8) : ∃ m, (rxStep st x).2 = st.2 ++ m ∧ ∀ f ∈ m, f ≠ [] := by
  unfold rxStep
  dsimp only
  split
  · rename_i hc
    refine ⟨_, rfl, fun f hf => ?_⟩
    simp only [List.mem_singleton] at hf
    subst hf
    revert hc
    unfold rxPut rxMore rxEnds
    repeat' split
    all_goals first
      | (intro hc; simp at hc; done)
      | (rename_i hq
         intro _ he
         have := congrArg List.length he
         simp at this
         simp only [not_or] at hq
         omega)
  · exact ⟨[], by simp, fun f hf => by simp at hf⟩
theorem rxFold_more (xs : List UInt8) (st : RxSt) : ∃ m, (xs.foldl rxStep st).2 = st.2 ++ m ∧ ∀ f ∈ m, f ≠ [] := by
  induction xs generalizing st with
  | nil => exact ⟨[], by simp, fun f hf => by simp at hf⟩
  | cons x xs ih =>
    obtain ⟨m1, h1, g1⟩ := rxStep_more st x
    obtain ⟨m2, h2, g2⟩ := ih (rxStep st x)
    refine ⟨m1 ++ m2, by rw [List.foldl_cons, h2, h1, List.append_assoc], fun f hf => ?_⟩
    rcases List.mem_append.1 hf with h | h
    · exact g1 f h
    · exact g2 f h
theorem rxAll_nonempty (m : Int) (xs : List UInt8) : ∀ f ∈ rxAll m xs, f ≠ [] := by
  obtain ⟨q, h1, h2⟩ := rxFold_more xs (rxNew m, [])
  unfold rxAll rxRun
  rw [h1]
  simpa using h2
theorem rxStep_len (st : RxSt) (x : UInt8) : (rxStep st x).2.length ≤ st.2.length + 1 := by
  unfold rxStep
  dsimp only
  split
  · simp
  · omega
theorem rxFold_len (xs : List UInt8) (st : RxSt) : (xs.foldl rxStep st).2.length ≤ st.2.length + xs.length := by
  induction xs generalizing st with
  | nil => simp
  | cons x xs ih =>
    have h1 := ih (rxStep st x)
    have h2 := rxStep_len st x
    rw [List.foldl_cons, List.length_cons]
    omega
theorem rxAll_le (m : Int) (xs : List UInt8) : (rxAll m xs).length ≤ xs.length := by
  have := rxFold_len xs (rxNew m, [])
  simpa [rxAll, rxRun] using this
/-- The begin of a frame. -/
theorem rx_begin (st : RxSt) : rxStep st 192 = (⟨st.1.most, [], true, false⟩, st.2) := by
  unfold rxStep rxPut
  rfl
/-- A byte that is escaped if need be. -/
theorem rx_escB (m : Nat) (b : List UInt8) (fs : List (List UInt8)) (x : UInt8) (h : b.length + 1 ≤ m + 2) :
    (escB x).foldl rxStep (⟨m, b, true, false⟩, fs) = (⟨m, b ++ [x], true, false⟩, fs) := by
  have ho : ¬ b.length + 1 > m + 2 := by omega
  unfold escB
  split
  · rename_i hc
    have hx : x ^^^ 32 ≠ 192 ∧ x ^^^ 32 ≠ 193 ∧ x ^^^ 32 ^^^ 32 = x := by
      simp only [Bool.or_eq_true, beq_iff_eq] at hc
      rcases hc with (rfl | rfl) | rfl <;> decide
    have h1 : (x ^^^ 32 == 192) = false := beq_eq_false_iff_ne.2 hx.1
    have h2 : (x ^^^ 32 == 193) = false := beq_eq_false_iff_ne.2 hx.2.1
    have e1 : rxStep (⟨m, b, true, false⟩, fs) 125 = (⟨m, b, true, true⟩, fs) := rfl
    rw [List.foldl_cons, List.foldl_cons, List.foldl_nil, e1]
    unfold rxStep rxPut
    simp [h1, h2, rxMore, ho, hx.2.2]
  · rename_i hc
    simp only [Bool.or_eq_true, beq_iff_eq, not_or] at hc
    have h1 : (x == 192) = false := beq_eq_false_iff_ne.2 hc.1.1
    have h2 : (x == 193) = false := beq_eq_false_iff_ne.2 hc.1.2
    have h3 : (x == 125) = false := beq_eq_false_iff_ne.2 hc.2
    rw [List.foldl_cons, List.foldl_nil]
    unfold rxStep rxPut
    simp [h1, h2, h3, rxMore, ho]
theorem rx_esc (m : Nat) (p : List UInt8) (b : List UInt8) (fs : List (List UInt8)) (h : b.length + p.length ≤ m + 2) :
    (esc p).foldl rxStep (⟨m, b, true, false⟩, fs) = (⟨m, b ++ p, true, false⟩, fs) := by
  induction p generalizing b with
  | nil => simp [esc]
  | cons x p ih =>
    have : esc (x :: p) = escB x ++ esc p := by simp [esc]
    rw [this, List.foldl_append, rx_escB m b fs x (by simp at h; omega), ih _ (by simp at h ⊢; omega)]
    simp
theorem rx_end (m : Nat) (p : List UInt8) (fs : List (List UInt8)) :
    rxStep (⟨m, p, true, false⟩, fs) 193 = (⟨m, [], false, false⟩, if 2 < p.length ∧ crcFine p = true then fs ++ [p.take (p.length - 2)] else fs) := by
  unfold rxStep rxPut rxShut rxEnds
  by_cases h1 : p.length ≤ 2
  · have h2 : ¬ (2 < p.length ∧ crcFine p = true) := fun h => by omega
    simp [h1, h2]
  · have h3 : 2 < p.length := by omega
    cases h2 : crcFine p <;> simp [h1, h2, h3]
/-- A frame that is wrapped is found. -/
theorem rx_wrapped (st : RxSt) (b : List UInt8) (h : b.length ≤ st.1.most) :
    ([192] ++ esc (crcPut b) ++ [193]).foldl rxStep st = (⟨st.1.most, [], false, false⟩, if b = [] then st.2 else st.2 ++ [b]) := by
  simp only [List.foldl_append, List.foldl_cons, List.foldl_nil]
  rw [rx_begin, rx_esc _ _ _ _ (by rw [crcPut_length]; simp; omega), List.nil_append, rx_end]
  congr 1
  have hl := crcPut_length b
  have ht : (crcPut b).take ((crcPut b).length - 2) = b := by rw [hl]; simp [crcPut]
  rw [ht, crcFine_put]
  by_cases hb : b = []
  · subst hb
    rw [if_neg (by rw [hl]; simp), if_pos rfl]
  · have : 0 < b.length := List.length_pos_iff.2 hb
    rw [if_pos ⟨by omega, rfl⟩, if_neg hb]
theorem idle_no193 (n : Nat) : ∀ x ∈ List.replicate n (255 : UInt8), x ≠ 193 := by
  intro x hx
  have := List.eq_of_mem_replicate hx
  subst this
  decide
theorem rx_wrapB (st : RxSt) (b : List UInt8) (e : Int) (h : b.length ≤ st.1.most) :
    ∃ r, (wrapB b e).foldl rxStep st = (r, if b = [] then st.2 else st.2 ++ [b]) ∧ r.most = st.1.most ∧ r.inn = false := by
  have : wrapB b e = List.replicate (ahead e) 255 ++ ([192] ++ esc (crcPut b) ++ [193]) := by simp [wrapB]
  rw [this, List.foldl_append, rx_wrapped _ _ (by rw [rxFold_most]; exact h), rxFold_no193 _ _ (idle_no193 _), rxFold_most]
  exact ⟨_, rfl, rfl, rfl⟩
/-- Among what is found is what was wrapped, whatever stands around it. -/
theorem rx_back (a c b : List UInt8) (e : Int) (h : b.length ≤ 90) : ((rxAll 100 (a ++ wrapB b e ++ c)).any (· == b)) = decide (0 < b.length) := by
  have hm : (a.foldl rxStep (rxNew 100, [])).1.most = 100 := by rw [rxFold_most]; rfl
  by_cases hb : b = []
  · subst hb
    simp only [List.length_nil, Nat.lt_irrefl, decide_false]
    rw [List.any_eq_false]
    intro f hf
    simpa using rxAll_nonempty 100 _ f hf
  · have h0 : decide (0 < b.length) = true := decide_eq_true (List.length_pos_iff.2 hb)
    rw [h0, List.any_eq_true]
    refine ⟨b, ?_, by simp⟩
    unfold rxAll rxRun
    rw [List.foldl_append, List.foldl_append]
    obtain ⟨r, h1, h2, _⟩ := rx_wrapB (a.foldl rxStep (rxNew 100, [])) b e (by rw [hm]; omega)
    rw [h1, if_neg hb]
    obtain ⟨m, h3, _⟩ := rxFold_more c (r, (a.foldl rxStep (rxNew 100, [])).2 ++ [b])
    rw [h3]
    simp
theorem rx_abort (b : List UInt8) (h : b.length ≤ 90) : rxAll 100 (abortB b) = [] := by
  unfold rxAll rxRun abortB
  simp only [List.foldl_append, List.foldl_cons, List.foldl_nil]
  rw [rx_begin, rx_esc _ _ _ _ (by simp [rxNew, rxMost]; omega)]
  rfl
/-- Of a frame that is cut off nothing is found; the next one is. -/
theorem rx_cut (a b : List UInt8) (k : Nat) (hb : b ≠ []) (hl : b.length ≤ 40) (hk : k < (wrapB a 1).length) : rxAll 60 ((wrapB a 1).take k ++ wrapB b 0) = [b] := by
  unfold rxAll rxRun
  have hm : (((wrapB a 1).take k).foldl rxStep (rxNew 60, [])).1.most = 60 := by rw [rxFold_most]; rfl
  obtain ⟨r, h1, _, _⟩ := rx_wrapB (((wrapB a 1).take k).foldl rxStep (rxNew 60, [])) b 0 (by rw [hm]; omega)
  rw [List.foldl_append, h1, if_neg hb, rxFold_no193 _ _ ?_]
  · rfl
  · intro x hx
    have : (wrapB a 1).take k = (List.replicate (ahead 1) 255 ++ [192] ++ esc (crcPut a)).take k := by
      unfold wrapB at hk ⊢
      rw [List.take_append_of_le_length]
      simp at hk ⊢
      omega
    rw [this] at hx
    have hx := List.mem_of_mem_take hx
    simp only [List.mem_append, List.mem_singleton] at hx
    rcases hx with (hx | rfl) | hx
    · exact idle_no193 _ x hx
    · decide
    · exact (esc_mem _ _ hx).2
theorem ends_count (b : List UInt8) (e : Int) : (wrapB b e).countP (fun x => x == 192 || x == 193) = 2 := by
  have h1 : (List.replicate (ahead e) (255 : UInt8)).countP (fun x => x == 192 || x == 193) = 0 := by
    rw [List.countP_eq_zero]
    intro x hx
    have := List.eq_of_mem_replicate hx
    subst this
    decide
  have h2 : (esc (crcPut b)).countP (fun x => x == 192 || x == 193) = 0 := by
    rw [List.countP_eq_zero]
    intro x hx
    obtain ⟨q1, q2⟩ := esc_mem _ _ hx
    simp [q1, q2]
  unfold wrapB
  rw [List.countP_append, List.countP_append, List.countP_append, h1, h2]
  rfl
end Go.Proofs.Ytghfinbdgnggjaa
