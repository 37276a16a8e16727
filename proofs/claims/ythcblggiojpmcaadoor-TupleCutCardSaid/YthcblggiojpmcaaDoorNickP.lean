/- Names as lists of runes: cut, joined, made plain. No conditions. -/
import Derived.Test.YthcblggiojpmcaaDoorDec
set_option linter.unusedVariables false
set_option linter.unusedSimpArgs false
set_option maxHeartbeats 4000000
namespace Go.Ab
open Go
def kOk (K : Int → Int) (d : Nat × Nat) : Bool := K (d.1 : Nat) != 0
def mayR (K : Int → Int) (l : List UInt8) : Bool := (rns l).all (kOk K) && decide ((l.length : Int) ≤ 20)
def accR (most : Int) : Nat → List (Nat × Nat) → List (Nat × Nat)
  | _, [] => []
  | k, d :: ds => if bad d ∨ ((k + d.2 : Nat) : Int) > most then [] else d :: accR most (k + d.2) ds
def cutK (most : Int) : Nat → List (Nat × Nat) → Nat
  | k, [] => k
  | k, d :: ds => if bad d ∨ ((k + d.2 : Nat) : Int) > most then k else cutK most (k + d.2) ds
def cutR (l : List UInt8) (most : Int) : List UInt8 := l.take (cutK most 0 (rns l))
def plainB (K : Int → Int) (d : Nat × Nat) : UInt8 := if K (d.1 : Nat) = 0 ∨ K (d.1 : Nat) = 4 then 63 else UInt8.ofNat d.1
def plainR (K : Int → Int) (l : List UInt8) : List UInt8 := (rns l).map (plainB K)
theorem bad_no {K : Int → Int} (hK : K 65533 = 0) {d : Nat × Nat} (h : kOk K d = true) : ¬ bad d := by
  rintro ⟨h1, h2⟩
  unfold kOk at h
  rw [h1] at h
  simp [hK] at h
theorem cutK_ge (most : Int) : ∀ (ds : List (Nat × Nat)) (k : Nat), k ≤ cutK most k ds
  | [], k => Nat.le_refl _
  | d :: ds, k => by
    unfold cutK
    split
    · exact Nat.le_refl _
    · exact Nat.le_trans (Nat.le_add_right _ _) (cutK_ge most ds _)
theorem cutK_most (most : Int) : ∀ (ds : List (Nat × Nat)) (k : Nat), (k : Int) ≤ most → (cutK most k ds : Int) ≤ most
  | [], k, h => h
  | d :: ds, k, h => by
    unfold cutK
    split
    · exact h
    · rename_i hh
      exact cutK_most most ds _ (by omega)
theorem cutK_len (most : Int) : ∀ (n : Nat) (l : List UInt8) (k : Nat), l.length ≤ n → cutK most k (rns l) ≤ k + l.length := by
  intro n
  induction n with
  | zero =>
    intro l k h
    obtain rfl : l = [] := List.eq_nil_of_length_eq_zero (by omega)
    exact Nat.le_refl _
  | succ n ih =>
    intro l k h
    cases l with
    | nil => exact Nat.le_refl _
    | cons b t =>
      have hw := dec_w b t
      rw [rns_cons]
      unfold cutK
      split
      · omega
      · have := ih ((b :: t).drop (decT b t).2) (k + (decT b t).2) (by simp at h ⊢; omega)
        simp at this ⊢
        omega
theorem rns_cut (most : Int) : ∀ (n : Nat) (l : List UInt8) (k : Nat), l.length ≤ n → rns (l.take (cutK most k (rns l) - k)) = accR most k (rns l) := by
  intro n
  induction n with
  | zero =>
    intro l k h
    obtain rfl : l = [] := List.eq_nil_of_length_eq_zero (by omega)
    simp [rns_nil, accR]
  | succ n ih =>
    intro l k h
    cases l with
    | nil => simp [rns_nil, accR]
    | cons b t =>
      have hw := dec_w b t
      rw [rns_cons]
      unfold cutK accR
      by_cases g : bad (decT b t) ∨ ((k + (decT b t).2 : Nat) : Int) > most
      · rw [if_pos g, if_pos g, Nat.sub_self, List.take_zero, rns_nil]
      · rw [if_neg g, if_neg g]
        have hi := ih ((b :: t).drop (decT b t).2) (k + (decT b t).2) (by simp at h ⊢; omega)
        have hge := cutK_ge most (rns ((b :: t).drop (decT b t).2)) (k + (decT b t).2)
        have hlen := cutK_len most _ ((b :: t).drop (decT b t).2) (k + (decT b t).2) (Nat.le_refl _)
        rw [List.length_drop, List.length_cons] at hlen
        generalize hC : cutK most (k + (decT b t).2) (rns ((b :: t).drop (decT b t).2)) = C at *
        have e : (b :: t).take (C - k) = b :: t.take (C - k - 1) := by
          rw [show C - k = (C - k - 1) + 1 by omega]; rfl
        have hp : decT b (t.take (C - k - 1)) = decT b t := by
          refine dec_pre b t _ (fun hb => g (.inl hb)) ?_ ?_
          · rw [List.length_take]; omega
          · rw [List.take_take, Nat.min_eq_left (by omega)]
        rw [e, rns_cons, hp, ← e]
        congr 1
        rw [← hi, List.drop_take]
        congr 2
        omega
theorem accR_sub {most : Int} : ∀ (ds : List (Nat × Nat)) (k : Nat), ∀ d ∈ accR most k ds, d ∈ ds
  | [], k, d, h => by cases h
  | a :: ds, k, d, h => by
    unfold accR at h
    split at h
    · cases h
    · rcases List.mem_cons.1 h with rfl | h
      · exact List.mem_cons_self
      · exact List.mem_cons_of_mem _ (accR_sub ds _ d h)
theorem cutK_acc (m n : Int) : ∀ (ds : List (Nat × Nat)) (k : Nat), cutK m k (accR n k ds) = cutK (min n m) k ds
  | [], k => rfl
  | d :: ds, k => by
    unfold accR
    by_cases g : bad d ∨ ((k + d.2 : Nat) : Int) > n
    · rw [if_pos g]
      show k = _
      unfold cutK
      rw [if_pos (by rcases g with g | g; exact .inl g; exact .inr (by omega))]
    · rw [if_neg g]
      have g1 : ¬ bad d := fun h => g (.inl h)
      unfold cutK
      by_cases g2 : ((k + d.2 : Nat) : Int) > m
      · rw [if_pos (.inr g2), if_pos (.inr (by omega))]
      · rw [if_neg (by rintro (h | h); exact g1 h; exact g2 h), if_neg (by rintro (h | h); exact g1 h; exact g (.inr (by omega)))]
        exact cutK_acc m n ds _
theorem cut_cut (l : List UInt8) (n m : Int) : cutR (cutR l n) m = cutR l (min n m) := by
  have h := rns_cut n _ l 0 (Nat.le_refl _)
  rw [Nat.sub_zero] at h
  unfold cutR
  rw [h, cutK_acc, List.take_take]
  congr 1
  have := cutK_acc m n (rns l) 0
  refine Nat.min_eq_left ?_
  -- the smaller bound cuts earlier
  suffices hs : ∀ (ds : List (Nat × Nat)) (k : Nat), cutK (min n m) k ds ≤ cutK n k ds from hs _ _
  intro ds
  induction ds with
  | nil => intro k; exact Nat.le_refl _
  | cons d ds ih =>
    intro k
    unfold cutK
    by_cases g : bad d ∨ ((k + d.2 : Nat) : Int) > n
    · rw [if_pos g, if_pos (by rcases g with g | g; exact .inl g; exact .inr (by omega))]
      exact Nat.le_refl _
    · rw [if_neg g]
      split
      · exact Nat.le_trans (Nat.le_add_right _ _) (cutK_ge _ _ _)
      · exact ih _
theorem may_cut {K : Int → Int} (l : List UInt8) (n : Int) (h : mayR K l = true) : mayR K (cutR l n) = true := by
  have hr := rns_cut n _ l 0 (Nat.le_refl _)
  rw [Nat.sub_zero] at hr
  unfold mayR at h ⊢
  rw [Bool.and_eq_true, decide_eq_true_eq] at h ⊢
  constructor
  · unfold cutR
    rw [hr, List.all_eq_true]
    exact fun d hd => List.all_eq_true.1 h.1 d (accR_sub _ _ d hd)
  · unfold cutR
    rw [List.length_take]
    omega
/-! Joined. -/
theorem rns_app {K : Int → Int} (hK : K 65533 = 0) (b : List UInt8) : ∀ (n : Nat) (a : List UInt8), a.length ≤ n → (rns a).all (kOk K) = true → rns (a ++ b) = rns a ++ rns b := by
  intro n
  induction n with
  | zero =>
    intro a h _
    obtain rfl : a = [] := List.eq_nil_of_length_eq_zero (by omega)
    rfl
  | succ n ih =>
    intro a h ha
    cases a with
    | nil => rfl
    | cons x t =>
      have hw := dec_w x t
      rw [rns_cons, List.all_cons, Bool.and_eq_true] at ha
      have hb := bad_no hK ha.1
      have hp : decT x (t ++ b) = decT x t := by
        refine dec_pre x t _ hb (by simp; omega) ?_
        rw [List.take_append_of_le_length (by omega)]
      rw [List.cons_append, rns_cons, rns_cons, hp, List.cons_append]
      congr 1
      rw [← List.cons_append, List.drop_append_of_le_length (by simp; omega)]
      exact ih _ (by simp at h ⊢; omega) ha.2
/-! Plain. -/
theorem rns_ascii : ∀ (l : List UInt8), (∀ b ∈ l, b.toNat < 128) → rns l = l.map fun b => (b.toNat, 1)
  | [], _ => rfl
  | b :: t, h => by
    rw [rns_cons, dec_ascii b t (h b List.mem_cons_self)]
    show _ :: rns t = _
    rw [rns_ascii t (fun c hc => h c (List.mem_cons_of_mem _ hc))]
    rfl
section
variable {K : Int → Int} (h3 : ∀ r : Nat, K (r : Nat) = 0 ∨ K (r : Nat) = 4 ∨ (K (r : Nat) ≠ 0 ∧ K (r : Nat) ≠ 4 ∧ r < 128)) (h63 : K 63 ≠ 0 ∧ K 63 ≠ 4)
include h3 h63
theorem plainB_spec (d : Nat × Nat) : (plainB K d).toNat < 128 ∧ K ((plainB K d).toNat : Nat) ≠ 0 ∧ K ((plainB K d).toNat : Nat) ≠ 4 := by
  unfold plainB
  rcases h3 d.1 with h | h | ⟨h, h', h''⟩
  · rw [if_pos (.inl h)]; exact ⟨by decide, h63⟩
  · rw [if_pos (.inr h)]; exact ⟨by decide, h63⟩
  · rw [if_neg (by rintro (g | g); exact h g; exact h' g)]
    have : (UInt8.ofNat d.1).toNat = d.1 := by simp; omega
    rw [this]
    exact ⟨h'', h, h'⟩
theorem rns_plain (l : List UInt8) : rns (plainR K l) = (plainR K l).map fun b => (b.toNat, 1) := by
  refine rns_ascii _ (fun b hb => ?_)
  obtain ⟨d, _, rfl⟩ := List.mem_map.1 hb
  exact (plainB_spec h3 h63 d).1
theorem plain_plain (l : List UInt8) : plainR K (plainR K l) = plainR K l := by
  rw [show plainR K (plainR K l) = (rns (plainR K l)).map (plainB K) from rfl, rns_plain h3 h63, List.map_map]
  conv => rhs; rw [← List.map_id (plainR K l)]
  refine List.map_congr_left fun b hb => ?_
  obtain ⟨d, _, rfl⟩ := List.mem_map.1 hb
  obtain ⟨s1, s2, s3⟩ := plainB_spec h3 h63 d
  show plainB K ((plainB K d).toNat, 1) = plainB K d
  generalize plainB K d = c at *
  unfold plainB
  rw [if_neg (by rintro (g | g); exact s2 g; exact s3 g)]
  simp
theorem may_plain (l : List UInt8) : mayR K (plainR K l) = decide (((plainR K l).length : Int) ≤ 20) := by
  unfold mayR
  rw [rns_plain h3 h63]
  have : ((plainR K l).map fun b => (b.toNat, 1)).all (kOk K) = true := by
    rw [List.all_eq_true]
    intro d hd
    obtain ⟨b, hb, rfl⟩ := List.mem_map.1 hd
    obtain ⟨d, _, rfl⟩ := List.mem_map.1 hb
    have := (plainB_spec h3 h63 d).2.1
    unfold kOk
    simpa using this
  rw [this, Bool.true_and]
end
theorem plain_len (K : Int → Int) (l : List UInt8) : (plainR K l).length = (rns l).length := by unfold plainR; rw [List.length_map]
/-! Broken. -/
def onR : List (Nat × Nat) → Nat → Bool
  | [], k => decide (k = 0)
  | d :: ds, k => decide (k = 0) || (decide (d.2 ≤ k) && onR ds (k - d.2))
theorem brk {K : Int → Int} (hK : K 65533 = 0) : ∀ (n : Nat) (l : List UInt8) (k : Nat), l.length ≤ n → k ≤ l.length → (rns l).all (kOk K) = true →
    (onR (rns l) k = true → (rns (l.take k)).all (kOk K) = true) ∧
    (onR (rns l) k = false → (rns (l.take k)).all (kOk K) = false ∧ ∃ o, o < k ∧ (rns (l.take o)).all (kOk K) = true ∧ ∀ (a : Nat) (most : Int), ((a + k : Nat) : Int) ≤ most → cutK most a (rns (l.take k)) = a + o) := by
  intro n
  induction n with
  | zero =>
    intro l k h hk _
    obtain rfl : l = [] := List.eq_nil_of_length_eq_zero (by omega)
    obtain rfl : k = 0 := by simpa using hk
    exact ⟨fun _ => rfl, fun h => by cases h⟩
  | succ n ih =>
    intro l k h hk ha
    cases l with
    | nil =>
      obtain rfl : k = 0 := by simpa using hk
      exact ⟨fun _ => rfl, fun h => by cases h⟩
    | cons b t =>
      have hw := dec_w b t
      rw [rns_cons, List.all_cons, Bool.and_eq_true] at ha
      have hb := bad_no hK ha.1
      rw [List.length_cons] at hk h
      rw [rns_cons]
      unfold onR
      by_cases h0 : k = 0
      · subst h0
        exact ⟨fun _ => rfl, fun h => by simp at h⟩
      · have e : (b :: t).take k = b :: t.take (k - 1) := by
          rw [show k = (k - 1) + 1 by omega]; rfl
        by_cases h1 : (decT b t).2 ≤ k
        · rw [decide_eq_false h0, decide_eq_true h1, Bool.false_or, Bool.true_and]
          have hp : decT b (t.take (k - 1)) = decT b t := by
            refine dec_pre b t _ hb (by rw [List.length_take]; omega) ?_
            rw [List.take_take, Nat.min_eq_left (by omega)]
          have hd : (b :: t.take (k - 1)).drop (decT b t).2 = ((b :: t).drop (decT b t).2).take (k - (decT b t).2) := by
            rw [← e, List.drop_take]
          obtain ⟨i1, i2⟩ := ih ((b :: t).drop (decT b t).2) (k - (decT b t).2) (by simp; omega) (by simp; omega) ha.2
          rw [e, rns_cons, hp, hd]
          refine ⟨fun g => ?_, fun g => ?_⟩
          · rw [List.all_cons, ha.1, i1 g]; rfl
          · obtain ⟨j1, o, j2, j3, j4⟩ := i2 g
            refine ⟨by rw [List.all_cons, j1, Bool.and_false], o + (decT b t).2, by omega, ?_, fun a most hm => ?_⟩
            · have e2 : (b :: t).take (o + (decT b t).2) = b :: t.take (o + (decT b t).2 - 1) := by
                rw [show o + (decT b t).2 = (o + (decT b t).2 - 1) + 1 by omega]; rfl
              have hp2 : decT b (t.take (o + (decT b t).2 - 1)) = decT b t := by
                refine dec_pre b t _ hb (by rw [List.length_take]; omega) ?_
                rw [List.take_take, Nat.min_eq_left (by omega)]
              rw [e2, rns_cons, hp2, List.all_cons, ha.1, Bool.true_and, ← e2, List.drop_take, show o + (decT b t).2 - (decT b t).2 = o by omega]
              exact j3
            · unfold cutK
              rw [if_neg (by rintro (g | g); exact hb g; omega), j4 _ most (by omega)]
              omega
        · rw [decide_eq_false h0, decide_eq_false h1, Bool.false_or, Bool.false_and]
          have hc := dec_cut b t (t.take (k - 1)) hb (by rw [List.length_take]; omega)
          refine ⟨fun g => by (cases g), fun _ => ?_⟩
          rw [e, rns_cons, hc]
          refine ⟨?_, 0, by omega, rfl, fun a most _ => ?_⟩
          · rw [List.all_cons]
            have : kOk K (65533, 1) = false := by
              unfold kOk
              show (K ((65533 : Nat) : Int) != 0) = false
              rw [show ((65533 : Nat) : Int) = 65533 from rfl, hK]; rfl
            rw [this, Bool.false_and]
          · unfold cutK
            rw [if_pos (.inl ⟨rfl, rfl⟩)]
            rfl
end Go.Ab
