/- Parameters as bytes: plain laws. No conditions. -/
import Derived.Test.YthcblggiojpmcaaDoorTupFind
import Derived.Test.YthcblggiojpmcaaDoorArgR
set_option linter.unusedSimpArgs false
set_option linter.unusedVariables false
set_option maxRecDepth 100000
set_option maxHeartbeats 4000000
namespace Go.Proofs.YthcblggiojpmcaaDoor
open Go Go.Ab
theorem encT_read (t : Tp) (h : okT t) (n : Nat) (r : List UInt8) : getT (n + 1) (encT t ++ r) = (getT n r).map (t :: ·) := by
  obtain ⟨id, val⟩ := t
  obtain ⟨h1, h2, h3⟩ := h
  simp only at h1 h2 h3
  have e2 : (UInt8.ofNat val.length).toNat = val.length := by simp; omega
  have e1 : ((UInt8.ofNat id.toNat).toNat : Int) = id := by simp; omega
  show (if (UInt8.ofNat val.length).toNat > 40 ∨ (val ++ r).length < (UInt8.ofNat val.length).toNat then none else (getT n ((val ++ r).drop (UInt8.ofNat val.length).toNat)).map ((((UInt8.ofNat id.toNat).toNat : Int), (val ++ r).take (UInt8.ofNat val.length).toNat) :: ·)) = _
  rw [e2, e1, if_neg (by simp; omega), List.drop_left, List.take_left]
theorem getT_encL : ∀ (l : List Tp) (n : Nat), (∀ t ∈ l, okT t) → l.length < n → getT n (encL l) = some l := by
  intro l
  induction l with
  | nil =>
    intro n _ hn
    obtain ⟨m, rfl⟩ : ∃ m, n = m + 1 := ⟨n - 1, by simp at hn; omega⟩
    rfl
  | cons t l ih =>
    intro n h hn
    obtain ⟨m, rfl⟩ : ∃ m, n = m + 1 := ⟨n - 1, by simp at hn; omega⟩
    have e : encL (t :: l) = encT t ++ encL l := rfl
    rw [e, encT_read t (h t (by simp)), ih m (fun t ht => h t (by simp [ht])) (by simp at hn; omega)]
    rfl
theorem getL_encL (l : List Tp) (h : putOk l) (hn : l.length < 65) : getL (encL l) = some l := by
  unfold getL
  rw [if_neg (by have := h.2; omega), getT_encL l 65 h.1 hn]
theorem encL_app (l m : List Tp) : encL (l ++ m) = encL l ++ encL m := by simp [encL]
/-- Parameters, their texts cut. -/
def cutT (n : Nat) (l : List Tp) : List Tp := l.map fun t => (t.1, t.2.take n)
theorem cutT_succ (n : Nat) (l : List Tp) (i : Nat) (h : i < l.length) : cutT n (l.take (i + 1)) = cutT n (l.take i) ++ [(l[i].1, l[i].2.take n)] := by
  rw [List.take_succ_eq_append_getElem h]; simp only [cutT, List.map_append, List.map_cons, List.map_nil]
theorem cutT_len (n : Nat) (l : List Tp) : (cutT n l).length = l.length := by simp [cutT]
theorem isTp_of {x : AV} {l : List Tp} (h : IsTups x l) : IsTp x l := by
  rcases h with h | h
  · exact .inl h
  · exact .inr ⟨none, h⟩
theorem ownG_appz {size bytes : Nat} {s : St} {x y : AV} {cs ds : List AV} {n m : Nat} (h : OwnG size s x cs n) (g : newsOf size s y = some (ds, m)) (hd : ds.length = m * size) (hf : fits (n + m) bytes = true) :
    ∃ z s', appV false size bytes s x y = some (z, s') ∧ OwnG size s' z (cs ++ ds) (n + m) ∧ KeepC s s' := by
  by_cases hm : m = 0
  · subst hm
    have hds : ds = [] := List.length_eq_zero_iff.1 (by simpa using hd)
    subst hds
    rcases h with ⟨rfl, rfl, rfl⟩ | ⟨hp, t, v, rfl, h0, h1, h2⟩
    · exact ⟨.nils, s, by simp only [appV, g, appS, Bool.false_and, if_false, Bool.false_eq_true, if_true], .inl ⟨rfl, rfl, rfl⟩, KeepC.refl _⟩
    · refine ⟨.sl (cs ++ []) (n + 0) (some (t, v + 1, size)), s.upd t (.tick size (v + 1)), ?_, .inr ⟨by omega, t, v + 1, rfl, by rw [List.append_nil, Nat.add_zero]; exact h0, h1, get_upd_eq _ _ h2⟩, KeepC.tick _ h2⟩
      simp only [appV, g, appS, h2, Bool.false_and, if_false, Bool.false_eq_true]
      rw [if_pos ⟨trivial, trivial, h0, hf⟩]
  · exact h.app g hd hm hf
theorem news_tp {x : AV} {l : List Tp} (h : IsTp x l) (s : St) : newsOf 2 s x = some (tpC l, l.length) := by
  rcases h with ⟨rfl, rfl⟩ | ⟨tk, rfl⟩
  · rfl
  · show (if (tpC l).length = l.length * 2 then some (tpC l, l.length) else none) = _
    rw [if_pos (tpC_length l)]
theorem ownG_isTp {s : St} {x : AV} {l : List Tp} {n : Nat} (h : OwnG 2 s x (tpC l) n) (hn : n = l.length) : IsTp x l := by
  subst hn
  rcases h with ⟨q1, q2, _⟩ | ⟨_, t, v, q, _⟩
  · exact .inl ⟨q1, List.length_eq_zero_iff.1 q2⟩
  · exact .inr ⟨_, q⟩
theorem getT_enc : ∀ (n : Nat) (s : List UInt8) (l : List Tp), getT n s = some l → (∀ t ∈ l, okT t) ∧ encL l = s := by
  intro n
  induction n with
  | zero => intro s l h; cases h
  | succ n ih =>
    intro s l h
    match s, h with
    | [], h => cases h; exact ⟨fun t ht => (by cases ht), rfl⟩
    | [x], h => cases h
    | x :: y :: r, h =>
      unfold getT at h
      by_cases g : y.toNat > 40 ∨ r.length < y.toNat
      · rw [if_pos g] at h; cases h
      · rw [if_neg g] at h
        obtain ⟨l', h1, rfl⟩ := Option.map_eq_some_iff.1 h
        obtain ⟨h2, h3⟩ := ih _ _ h1
        have hx := x.toNat_lt
        have hl : (r.take y.toNat).length = y.toNat := by rw [List.length_take]; omega
        refine ⟨fun t ht => ?_, ?_⟩
        · rcases List.mem_cons.1 ht with rfl | ht
          · exact ⟨by show (0 : Int) ≤ (x.toNat : Int); omega, by show (x.toNat : Int) ≤ 255; omega, by show (r.take y.toNat).length ≤ 40; omega⟩
          · exact h2 t ht
        · show encT ((x.toNat : Int), r.take y.toNat) ++ encL l' = _
          rw [h3]
          show UInt8.ofNat ((x.toNat : Int)).toNat :: UInt8.ofNat (r.take y.toNat).length :: (r.take y.toNat ++ r.drop y.toNat) = _
          rw [hl, List.take_append_drop, Int.toNat_natCast]
          simp
theorem getL_enc {s : List UInt8} {l : List Tp} (h : getL s = some l) : putOk l ∧ encL l = s := by
  unfold getL at h
  split at h
  · cases h
  · obtain ⟨h1, h2⟩ := getT_enc _ _ _ h
    exact ⟨⟨h1, by rw [h2]; omega⟩, h2⟩
theorem encL_ge (l : List Tp) : 2 * l.length ≤ (encL l).length := by
  induction l with
  | nil => simp [encL]
  | cons t l ih =>
    have : encL (t :: l) = encT t ++ encL l := rfl
    rw [this, List.length_append]
    simp [encT]
    omega
theorem putOk_app (a b : List Tp) (ha : putOk a) (hb : putOk b) : putOk (a ++ b) ↔ (encL a).length + (encL b).length ≤ 64 := by
  unfold putOk
  rw [encL_app, List.length_append]
  constructor
  · exact fun h => h.2
  · refine fun h => ⟨fun t ht => ?_, h⟩
    rcases List.mem_append.1 ht with ht | ht
    · exact ha.1 t ht
    · exact hb.1 t ht
theorem getL_app (a b : List Tp) (ha : putOk a) (hb : putOk b) : getL (encL a ++ encL b) = if (encL a).length + (encL b).length ≤ 64 then some (a ++ b) else none := by
  by_cases h : (encL a).length + (encL b).length ≤ 64
  · rw [if_pos h, ← encL_app]
    have h1 := encL_ge a
    have h2 := encL_ge b
    exact getL_encL _ ((putOk_app a b ha hb).2 h) (by simp; omega)
  · rw [if_neg h]
    unfold getL
    rw [if_pos (by simp; omega)]
/-- Where the parameters begin. -/
def seamT : List Tp → Nat → Bool
  | [], _ => false
  | t :: l, k => decide (k = 0) || (decide (2 + t.2.length ≤ k) && seamT l (k - (2 + t.2.length)))
theorem encT_len (t : Tp) : (encT t).length = 2 + t.2.length := by simp [encT]; omega
theorem getT_cut : ∀ (l : List Tp) (n k : Nat), (∀ t ∈ l, okT t) → l.length < n → k < (encL l).length → (getT n ((encL l).take k)).isSome = seamT l k := by
  intro l
  induction l with
  | nil => intro n k _ _ hk; simp [encL] at hk
  | cons t l ih =>
    intro n k h hn hk
    obtain ⟨m, rfl⟩ : ∃ m, n = m + 1 := ⟨n - 1, by simp at hn; omega⟩
    have e : encL (t :: l) = encT t ++ encL l := rfl
    have hw := encT_len t
    have ht := h t (by simp)
    rw [e] at hk ⊢
    rw [List.length_append] at hk
    unfold seamT
    by_cases h0 : k = 0
    · subst h0
      simp [getT]
    · by_cases h1 : 2 + t.2.length ≤ k
      · rw [decide_eq_false h0, decide_eq_true h1, Bool.false_or, Bool.true_and, List.take_append]
        rw [List.take_of_length_le (by omega), encT_read t ht, Option.isSome_map, hw]
        by_cases hl : l = []
        · subst hl
          simp [encL] at hk
          omega
        · exact ih m _ (fun u hu => h u (by simp [hu])) (by simp at hn; omega) (by omega)
      · rw [decide_eq_false h0, decide_eq_false h1, Bool.false_or, Bool.false_and, List.take_append_of_le_length (by omega)]
        obtain ⟨id, v⟩ := t
        simp only at h1 hw
        match k, h0, h1 with
        | 1, _, _ => rfl
        | k + 2, _, h1 =>
          show (if (UInt8.ofNat v.length).toNat > 40 ∨ (v.take k).length < (UInt8.ofNat v.length).toNat then none else (getT m ((v.take k).drop (UInt8.ofNat v.length).toNat)).map ((((UInt8.ofNat id.toNat).toNat : Int), (v.take k).take (UInt8.ofNat v.length).toNat) :: ·)).isSome = false
          have hv : v.length ≤ 40 := ht.2.2
          have e2 : (UInt8.ofNat v.length).toNat = v.length := by simp; omega
          rw [e2, if_pos (.inr (by rw [List.length_take]; omega))]
          rfl
theorem getL_cut (l : List Tp) (k : Nat) (h : putOk l) (hn : l.length < 65) (hk : k < (encL l).length) : (getL ((encL l).take k)).isSome = seamT l k := by
  unfold getL
  rw [if_neg (by rw [List.length_take]; have := h.2; omega)]
  exact getT_cut l 65 k h.1 hn hk
end Go.Proofs.YthcblggiojpmcaaDoor
