/- Layer 4 with all of its frames' functions as what they answer; what bytes say of frames. No conditions. -/
import Derived.Test.YthcblggiojpmcaaDoorL3
import Derived.Test.YthcblggiojpmcaaDoorPlainT
set_option linter.unusedSimpArgs false
set_option linter.unusedVariables false
set_option maxRecDepth 100000
namespace Go.Proofs.YthcblggiojpmcaaDoor
open Go Go.Ab
def lst3 (f : Nat) : Option (List AV → St → Option AV) := if f = 42 then some hFPut else if f = 40 then some hOf else none
noncomputable def ext3 := extWith ext2 lst3
theorem ext3_ok : ∀ w0, ExtOk Tryd.prog tabGl w0 ext3 := extOk_add (tableOf_ok _) mixed tab_flat ext2_ok lst3 (by
  intro f h hf
  unfold lst3 at hf
  rcases some_of hf with ⟨rfl, rfl⟩ | hf
  · exact ⟨by rw [tab42]; rfl, 1000, fput_pure⟩
  rcases some_of hf with ⟨rfl, rfl⟩ | hf
  · exact ⟨by rw [tab40]; rfl, 1000, of_pure⟩
  cases hf)
noncomputable def evL3 : Nat → Calls' := evF tabGl (tableOf Tryd.prog) ext3
theorem evL3_ok (w0 : World) (k : Nat) : CallOk Tryd.prog tabGl w0 (evL3 k) := evF_sound (tableOf_ok _) (ext3_ok w0) mixed k
theorem evL3_in {k f : Nat} {m : MFun} (hx : ext3 f = none) (hF : tableOf Tryd.prog f = some m) (args : List AV) (s : St) :
    evL3 (k + 1) f args s = outR m.res (evC tabGl (evL3 k) k m.body (env0 m.ntmps args) s) := evF_in hx hF args s
/-! Calls. -/
theorem e20 (k : Nat) (s : St) : evL3 (k + 1) 20 [] s = some (.bool true, s) := evF_ext (H := hTrue) rfl rfl
theorem e32 (k : Nat) (p : Pn) (s : St) : evL3 (k + 1) 32 [.agg p.cells] s = some (.agg ({ p with body := p.body.take 70 } : Pn).cells, s) := evF_ext (H := hPlain) rfl rfl
theorem e41 (k : Nat) (p : Pn) (s : St) : evL3 (k + 1) 41 [.agg p.cells] s = some (.bool p.may, s) := evF_ext (H := hRMay) rfl rfl
theorem e40 (k : Nat) (p : Pn) (s : St) : evL3 (k + 1) 40 [.agg p.cells] s = some (p.ofr, s) := evF_ext (H := hOf) rfl rfl
theorem e21 (k : Nat) (l : List UInt8) (n : Nat) (s : St) : evL3 (k + 1) 21 [.str l, .int .i64 (n : Int)] s = some (.str (l.take n), s) := evF_ext (H := hText) rfl (by simp only [List.map_cons, List.map_nil, dry1_str, dry1_int, hText]; rw [if_pos (by omega)]; simp)
theorem e42 (k : Nat) (f : Fr) (s : St) : evL3 (k + 1) 42 [.agg f.cells] s = some (if f.may = true then .tup [.sl f.bytes (3 + f.body.length) none, .bool true] else .tup [.nils, .bool false], s) := evF_ext (H := hFPut) rfl (by simp only [List.map_cons, List.map_nil, dry1_agg, hFPut, toFr, Fr.cells, toCt_av, Option.map_some])
theorem e47 (k : Nat) (f : Fr) (s : St) : evL3 (k + 1) 47 [.agg f.cells] s = some (.bool f.may, s) := evF_ext (H := hFMay) rfl (by simp only [List.map_cons, List.map_nil, dry1_agg, hFMay, toFr, Fr.cells, toCt_av, Option.map_some])
theorem e46 (k : Nat) (f : Fr) (s : St) : evL3 (k + 1) 46 [.agg f.cells] s = some (.agg f.pn.cells, s) := evF_ext (H := hFPlain) rfl (by simp only [List.map_cons, List.map_nil, dry1_agg, hFPlain, toFr, Fr.cells, toCt_av, Option.map_some])
theorem e45 (k : Nat) (f g : Fr) (s : St) : evL3 (k + 1) 45 [.agg f.cells, .agg g.cells] s = some (.bool (f.eq g), s) := evF_ext (H := hEq) rfl (by simp only [List.map_cons, List.map_nil, dry1_agg, hEq, toFr, Fr.cells, toCt_av, Option.map_some])
theorem e44 (k : Nat) (p : Pn) (hp : p.may = true) (s : St) : evL3 (k + 1) 44 [.agg p.cells] s = some (.sl p.bytes (3 + p.body.length) none, s) := evF_ext (H := hRPut) rfl (by
  show (if p.may = true then some (AV.sl p.bytes (3 + p.body.length) none) else none) = _
  rw [if_pos hp])
theorem e43 (k : Nat) (bs : List UInt8) (n : Nat) (tk : Option (Nat × Nat × Nat)) (h : bs.length = n) (s : St) : evL3 (k + 1) 43 [.sl (bytesAV bs) n tk] s = some (match gfr bs with
    | some f => .tup [.agg f.cells, .bool true]
    | none => .tup [.agg Fr.zero.cells, .bool false], s) := by
  subst h
  exact evF_ext (H := hFGet) rfl (by simp only [List.map_cons, List.map_nil, dry1_sl, hFGet, toBs_mk, Option.map_some]; rfl)
/-! What may be, may be as bytes. -/
theorem num_range (c : Ct) (h : c.may = true) : 0 ≤ c.num ∧ c.num < 256 := by
  cases c with
  | n => cases h
  | i nr ns pf =>
    simp only [Ct.may, Bool.and_eq_true] at h
    obtain ⟨a1, a2⟩ := few_iff h.1
    obtain ⟨a3, a4⟩ := few_iff h.2
    cases pf <;> simp [Ct.num] <;> omega
  | s kind nr pf =>
    simp only [Ct.may, Bool.and_eq_true] at h
    obtain ⟨a1, a2⟩ := few_iff h.1
    obtain ⟨a3, a4⟩ := few_iff h.2
    cases pf <;> simp [Ct.num] <;> omega
  | u kind pf =>
    have : 0 ≤ code kind ∧ code kind ≤ 143 := by
      unfold code
      repeat' split
      all_goals omega
    cases pf <;> simp [Ct.num] <;> omega
theorem fr_may_parts {f : Fr} (h : f.may = true) : 0 ≤ f.seat ∧ f.seat ≤ 127 ∧ 0 ≤ f.count ∧ f.count ≤ 255 ∧ f.ctl.may = true ∧ f.body.length ≤ 64 ∧ (f.ctl.isS = true → f.body = []) := by
  obtain ⟨seat, count, cmd, c, body⟩ := f
  unfold Fr.may at h
  split at h
  · cases h
  · rename_i hb
    simp only [not_or] at hb
    simp only [Bool.and_eq_true, decide_eq_true_eq, Bool.or_eq_true, Bool.not_eq_true', beq_iff_eq] at h
    show 0 ≤ seat ∧ seat ≤ 127 ∧ 0 ≤ count ∧ count ≤ 255 ∧ c.may = true ∧ body.length ≤ 64 ∧ (c.isS = true → body = [])
    refine ⟨by omega, by omega, by omega, by omega, h.1.1, by omega, fun hs => ?_⟩
    rcases h.2 with q | q
    · rw [q] at hs; cases hs
    · exact q
def Fr.B (f : Fr) : List UInt8 := UInt8.ofNat (f.seat * 2 + (if f.cmd = true then 1 else 0)).toNat :: UInt8.ofNat f.count.toNat :: UInt8.ofNat f.ctl.num.toNat :: f.body
theorem u8_back (n : Int) (h0 : 0 ≤ n) (h1 : n < 256) : ((UInt8.ofNat n.toNat).toNat : Int) = n := by
  rw [UInt8.toNat_ofNat_of_lt' (by rw [UInt8.size]; omega)]; omega
theorem fr_bytes (f : Fr) (h : f.may = true) : f.bytes = bytesAV f.B := by
  obtain ⟨a1, a2, a3, a4, a5, a6, a7⟩ := fr_may_parts h
  obtain ⟨n1, n2⟩ := num_range _ a5
  have hs : 0 ≤ (f.seat * 2 + (if f.cmd = true then 1 else 0)) ∧ (f.seat * 2 + (if f.cmd = true then 1 else 0)) < 256 := by split <;> omega
  simp only [Fr.bytes, Fr.B, bytesAV, List.map_cons, u8_back _ hs.1 hs.2, u8_back _ a3 (show f.count < 256 by omega), u8_back _ n1 n2]
theorem fr_b2s (f : Fr) (h : f.may = true) : convP .b2s (.sl f.bytes (3 + f.body.length) none) = some (.str f.B) := by
  rw [fr_bytes f h]
  have : (bytesAV f.B).length = 3 + f.body.length := by rw [bytesAV_length]; simp [Fr.B]; omega
  simp [convP, this, toBytes_bytesAV]
theorem u8_nat_inj {a b : Int} (h0 : 0 ≤ a) (h1 : a < 256) (g0 : 0 ≤ b) (g1 : b < 256) (h : UInt8.ofNat a.toNat = UInt8.ofNat b.toNat) : a = b := by
  have := congrArg (fun x : UInt8 => (x.toNat : Int)) h
  simp only [u8_back a h0 h1, u8_back b g0 g1] at this
  exact this
theorem fr_B_inj (f g : Fr) (hf : f.may = true) (hg : g.may = true) (h : f.B = g.B) : f = g := by
  obtain ⟨a1, a2, a3, a4, a5, a6, a7⟩ := fr_may_parts hf
  obtain ⟨b1, b2, b3, b4, b5, b6, b7⟩ := fr_may_parts hg
  obtain ⟨n1, n2⟩ := num_range _ a5
  obtain ⟨m1, m2⟩ := num_range _ b5
  obtain ⟨seat, count, cmd, c, body⟩ := f
  obtain ⟨seat', count', cmd', c', body'⟩ := g
  simp only at a1 a2 a3 a4 b1 b2 b3 b4 n1 n2 m1 m2 a5 b5
  simp only [Fr.B, List.cons.injEq] at h
  obtain ⟨h1, h2, h3, h4⟩ := h
  have e1 := u8_nat_inj (by split <;> omega) (by split <;> omega) (by split <;> omega) (by split <;> omega) h1
  have e2 := u8_nat_inj (by omega) (by omega) (by omega) (by omega) h2
  have e3 := u8_nat_inj (by omega) (by omega) (by omega) (by omega) h3
  have e4 := num_inj c c' a5 b5 e3
  have e5 : seat = seat' ∧ cmd = cmd' := by cases cmd <;> cases cmd' <;> simp at e1 ⊢ <;> omega
  obtain ⟨rfl, rfl⟩ := e5
  subst e2 e4 h4
  rfl
theorem pn_may_fr {p : Pn} (h : p.may = true) : p.fr.may = true := by
  simp only [Pn.may, Bool.and_eq_true] at h; exact h.1
theorem pn_back {p : Pn} (h : p.may = true) : p.fr.pn = p := by
  have h1 := pn_exact p (pn_may_fr h)
  simp only [Pn.may, Bool.and_eq_true] at h
  rw [h.2] at h1
  exact of_decide_eq_true h1
theorem pn_B (p q : Pn) (hp : p.may = true) (hq : q.may = true) : decide (p.fr.B = q.fr.B) = decide (p = q) := by
  by_cases h : p = q
  · subst h; simp
  · have : ¬ p.fr.B = q.fr.B := fun hb => h (by
      have := fr_B_inj _ _ (pn_may_fr hp) (pn_may_fr hq) hb
      rw [← pn_back hp, ← pn_back hq, this])
    simp [h, this]
theorem plain_pn {al : List AV} (h : ScL Tryd.prog plainTypes al) : ∃ p : Pn, al = p.cells := by
  obtain ⟨seat, count, cmd, kind, sort, nr, ns, pf, body, rfl⟩ := plain_of h
  exact ⟨⟨seat, count, cmd, kind, sort, nr, ns, pf, body⟩, rfl⟩
theorem gct_i : ∀ j, j < 8 → ∀ l, l < 8 → ∀ pf : Bool, gct (j * 32 + l * 2 + (if pf = true then 16 else 0)) = .i (j : Nat) (l : Nat) pf := by decide +kernel
theorem gct_s : ∀ j, j < 3 → ∀ l, l < 8 → ∀ pf : Bool, gct (l * 32 + j * 4 + 1 + (if pf = true then 16 else 0)) = .s (j : Nat) (l : Nat) pf := by decide +kernel
theorem gct_u : ∀ j, j < 8 → 1 ≤ j → ∀ pf : Bool, gct ((code (j : Nat)).toNat + (if pf = true then 16 else 0)) = .u (j : Nat) pf := by decide +kernel
/-- A control's byte, read again. -/
theorem gct_num (c : Ct) (h : c.may = true) : gct c.num.toNat = c := by
  cases c with
  | n => cases h
  | i nr ns pf =>
    simp only [Ct.may, Bool.and_eq_true] at h
    obtain ⟨a1, a2⟩ := few_iff h.1
    obtain ⟨a3, a4⟩ := few_iff h.2
    have := gct_i nr.toNat (by omega) ns.toNat (by omega) pf
    rw [Int.toNat_of_nonneg a1, Int.toNat_of_nonneg a3] at this
    refine Eq.trans (congrArg gct ?_) this
    cases pf <;> simp [Ct.num] <;> omega
  | s kind nr pf =>
    simp only [Ct.may, Bool.and_eq_true] at h
    obtain ⟨a1, a2⟩ := few_iff h.1
    obtain ⟨a3, a4⟩ := few_iff h.2
    have := gct_s kind.toNat (by omega) nr.toNat (by omega) pf
    rw [Int.toNat_of_nonneg a1, Int.toNat_of_nonneg a3] at this
    refine Eq.trans (congrArg gct ?_) this
    cases pf <;> simp [Ct.num] <;> omega
  | u kind pf =>
    simp only [Ct.may, Bool.and_eq_true, decide_eq_true_eq] at h
    have hc : 0 ≤ code kind := by
      unfold code
      repeat' split
      all_goals omega
    have := gct_u kind.toNat (by omega) (by omega) pf
    rw [Int.toNat_of_nonneg (by omega)] at this
    refine Eq.trans (congrArg gct ?_) this
    cases pf <;> simp [Ct.num] <;> omega
/-- A frame's bytes, read again. -/
theorem gfr_B (f : Fr) (h : f.may = true) : gfr f.B = some f := by
  obtain ⟨a1, a2, a3, a4, a5, a6, a7⟩ := fr_may_parts h
  obtain ⟨n1, n2⟩ := num_range _ a5
  obtain ⟨seat, count, cmd, c, body⟩ := f
  simp only at a1 a2 a3 a4 a5 n1 n2
  have b1 := u8_back (seat * 2 + (if cmd = true then 1 else 0)) (by split <;> omega) (by split <;> omega)
  have b2 := u8_back count a3 (by omega)
  have b3 := u8_back c.num n1 n2
  have e1 : (((UInt8.ofNat (seat * 2 + (if cmd = true then 1 else 0)).toNat).toNat / 2 : Nat) : Int) = seat := by
    revert b1; cases cmd <;> simp <;> omega
  have e2 : decide ((UInt8.ofNat (seat * 2 + (if cmd = true then 1 else 0)).toNat).toNat % 2 = 1) = cmd := by
    revert b1; cases cmd <;> simp <;> omega
  have e3 : gct (UInt8.ofNat c.num.toNat).toNat = c := by
    rw [show (UInt8.ofNat c.num.toNat).toNat = c.num.toNat by omega]; exact gct_num c a5
  simp only [Fr.B, gfr, e1, e2, e3, b2]
  rw [if_pos h]
theorem may_is {c : Ct} (h : c.may = true) : c.is = true := by cases c <;> first | rfl | cases h
noncomputable instance : DecidableEq Fr := fun _ _ => Classical.propDecidable _
theorem fr_eq (f g : Fr) (h : f.may = true) : f.eq g = decide (f = g) := by
  have hi := may_is (fr_may_ctl h)
  obtain ⟨seat, count, cmd, c, body⟩ := f
  obtain ⟨seat', count', cmd', c', body'⟩ := g
  simp only [Fr.eq, Fr.mk.injEq] at hi ⊢
  rw [hi]
  by_cases h1 : seat = seat' <;> by_cases h2 : count = count' <;> by_cases h3 : cmd = cmd' <;> by_cases h4 : c = c' <;> by_cases h5 : body = body' <;> simp [h1, h2, h3, h4, h5]
theorem pn_fr_eq (p q : Pn) (hp : p.may = true) (hq : q.may = true) : p.fr.eq q.fr = decide (p = q) := by
  rw [fr_eq _ _ (pn_may_fr hp)]
  by_cases h : p = q
  · subst h; simp
  · have : ¬ p.fr = q.fr := fun hb => h (by rw [← pn_back hp, ← pn_back hq, hb])
    simp [h, this]
theorem zero_may : Fr.zero.may = false := rfl
theorem tmodQ (n d : Int) (hd : 0 < d) : -d < n.tmod d := by
  rcases Int.le_total 0 n with h | h
  · have := Int.tmod_nonneg d h; omega
  · have := Int.tmod_lt_of_pos (-n) hd
    rw [Int.neg_tmod] at this
    omega
/-- A number that is made one of the first few. -/
theorem modQ (n d : Int) (hd : 0 < d) (hd1 : d ≤ 1000000) : IntKind.i64.wrap (n.tmod d + d) = n.tmod d + d ∧ 0 ≤ (n.tmod d + d).tmod d ∧ (n.tmod d + d).tmod d < d := by
  have r1 := tmodQ n d hd
  have r2 := Int.tmod_lt_of_pos n hd
  exact ⟨wrapI _ (by omega) (by omega), Int.tmod_nonneg _ (by omega), Int.tmod_lt_of_pos _ hd⟩
end Go.Proofs.YthcblggiojpmcaaDoor
