/- Beginnings of a link as bytes: what is used of numbers and bytes. No conditions. -/
import Derived.Test.YtgflghhffmjojaaGreatDoorHm
import Derived.Test.YtgflghhffmjojaaGreatDoorRxT
set_option linter.unusedSimpArgs false
set_option linter.unusedVariables false
set_option maxRecDepth 100000
namespace Go.Proofs.YtgflghhffmjojaaGreatDoor
open Go Go.Ab
/-- An unknown. -/
def lf (i : Nat) : AV := .clo (bigN + i) []
def ub (l : List Nat) : List UInt8 := l.map UInt8.ofNat
/-- Unknowns told one by one. -/
def Lo (vs : List AV) (i : Nat) : AV := vs.getD i (.bool false)
theorem Lo_ok {vs : List AV} (h : vs.all lfOk = true) (i : Nat) : lfOk (Lo vs i) = true := by
  unfold Lo
  rw [List.getD_eq_getElem?_getD]
  cases hq : vs[i]? with
  | none => rfl
  | some v => exact List.all_eq_true.1 h v (List.mem_of_getElem? hq)
theorem all_nil {α : Type} {P : α → Prop} : ∀ a ∈ ([] : List α), P a := fun _ h => by cases h
theorem all_cons {α : Type} {P : α → Prop} {a : α} {l : List α} (h : P a) (t : ∀ x ∈ l, P x) : ∀ x ∈ a :: l, P x := fun x hx => by
  rcases List.mem_cons.1 hx with rfl | hx
  · exact h
  · exact t x hx
theorem i8 {p : Nat} (h : p < 256) : AV.int .u8 (p : Int) = .int .u8 ((UInt8.ofNat p).toNat : Nat) := by
  rw [UInt8.toNat_ofNat']; congr 2; omega
theorem wrap_lt (k : IntKind) {p : Nat} (h : p < 128) : k.wrap (p : Int) = p := by
  have hm : ∀ m : Int, 128 ≤ m → ((p : Int) % m) = p := fun m hm => Int.emod_eq_of_lt (by omega) (by omega)
  cases k <;> (unfold IntKind.wrap; simp [IntKind.bits, IntKind.signed]; try omega)
theorem cv {k k' : IntKind} {p : Nat} (h : p < 128) : convP (.toInt k) (.int k' (p : Int)) = some (.int k (p : Int)) := by
  show some (AV.int k (k.wrap (p : Int))) = _
  rw [wrap_lt k h]
theorem tb : ∀ l : List UInt8, toBytes (bytesAV l) = some l := by
  intro l
  induction l with
  | nil => rfl
  | cons x l ih =>
    show (match toByte (.int .u8 (x.toNat : Int)), toBytes (bytesAV l) with | some b, some l => some (b :: l) | _, _ => none) = _
    rw [ih]
    show some (UInt8.ofNat (Int.toNat (x.toNat : Int)) :: l) = _
    rw [Int.toNat_natCast, UInt8.ofNat_toNat]
theorem b2s_ok (l : List UInt8) (n : Nat) (h : l.length = n) (tk : Option (Nat × Nat × Nat)) : convP .b2s (.sl (bytesAV l) n tk) = some (.str l) := by
  subst h
  show (if (bytesAV l).length = l.length then (toBytes (bytesAV l)).map AV.str else none) = _
  rw [if_pos (by simp [bytesAV]), tb]; rfl
theorem geq_ok {p c : Nat} (h : c ≤ p) : binV .geq (.int .i64 (p : Int)) (.int .i64 (c : Int)) = some (.bool true) := by
  show some (AV.bool (decide ((p : Int) ≥ (c : Int)))) = _
  rw [decide_eq_true (by omega)]
theorem leq_ok {p c : Nat} (h : p ≤ c) : binV .leq (.int .i64 (p : Int)) (.int .i64 (c : Int)) = some (.bool true) := by
  show some (AV.bool (decide ((p : Int) ≤ (c : Int)))) = _
  rw [decide_eq_true (by omega)]
theorem and1_ok {p : Nat} (h : p < 16) (ho : p % 2 = 1) : binV .and (.int .i64 (p : Int)) (.int .i64 (1 : Nat)) = some (.int .i64 (1 : Nat)) := by
  have : p = 1 ∨ p = 3 ∨ p = 5 ∨ p = 7 ∨ p = 9 ∨ p = 11 ∨ p = 13 ∨ p = 15 := by omega
  rcases this with rfl | rfl | rfl | rfl | rfl | rfl | rfl | rfl <;> rfl
/-- What one offers, as numbers. -/
structure Off (nb ns nw nz nt : Nat) : Prop where
  b1 : 1 ≤ nb
  b2 : nb ≤ 15
  bo : nb % 2 = 1
  s1 : 1 ≤ ns
  s2 : ns ≤ 7
  so : ns % 2 = 1
  w1 : 1 ≤ nw
  w2 : nw ≤ 127
  z1 : 1 ≤ nz
  z2 : nz ≤ 15
  t1 : 1 ≤ nt
  t2 : nt ≤ 7
/-- A function's answer, of known things. -/
theorem sem_to {vs : List AV} (h : vs.all lfOk = true) {f : Nat} {args args' : List AV} {t t' : AV} {orc : List AV} {U : List Nt} (hr : (fP 600 f args (FS.none' orc)).said U = some t) (hU : ∀ a ∈ U, NtOk (Sg.of (Lo vs) (Lo_ok h)) cxM a)
    (ha : svL (Sg.of (Lo vs) (Lo_ok h)) args = args') (ht : dryV (sv (Sg.of (Lo vs) (Lo_ok h)) t) = t') (hf : flatL args' = true) (hd : flat t' = true) : hSem f args' St.nil = some t' := by
  subst ha ht
  exact sem_of hr hU hf hd
/-- Of numbers alone. -/
theorem sem_lit {f : Nat} {args : List AV} {t : AV} (hr : (fP 600 f args (FS.none' [])).said [] = some t) (ha : plainL args = true) (hp : sv (Sg.of (Lo []) (Lo_ok rfl)) t = t) (hf : flatL args = true) (hd : flat (dryV t) = true) : hSem f args St.nil = some (dryV t) := by
  have := sem_of (L := Lo []) (h := Lo_ok rfl) hr all_nil (by rw [plain_svL _ _ ha]; exact hf) (by rw [hp]; exact hd)
  rw [plain_svL _ _ ha, hp] at this
  exact this
end Go.Proofs.YtgflghhffmjojaaGreatDoor
set_option linter.unusedSimpArgs false
namespace Go.Proofs.YtgflghhffmjojaaGreatDoor.wr
open Go Go.Ab
theorem crcFine_put (b : List UInt8) : crcFine (crcPut b) = true := by
  have hl : (crcPut b).length = b.length + 2 := crcPut_length b
  have ht : (crcPut b).take ((crcPut b).length - 2) = b := by rw [hl]; unfold crcPut; simp
  unfold crcFine
  rw [ht]
  simp [hl]
abbrev RxSt := RxS × List (List UInt8)
theorem rxStep_no193 (st : RxSt) (x : UInt8) (h : x ≠ 193) : (rxStep st x).2 = st.2 := by
  have hx : (x == 193) = false := beq_eq_false_iff_ne.2 h
  unfold rxStep rxPut rxMore
  simp only [hx]
  repeat' split
  all_goals first | rfl | (exfalso; simp_all; done) | simp_all
theorem rxStep_most (st : RxSt) (x : UInt8) : (rxStep st x).1.most = st.1.most := by
  unfold rxStep rxPut rxMore rxShut
  dsimp only
  repeat' split
  all_goals rfl
theorem rxFold_most (xs : List UInt8) (st : RxSt) : (xs.foldl rxStep st).1.most = st.1.most := by
  induction xs generalizing st with
  | nil => rfl
  | cons x xs ih => rw [List.foldl_cons, ih, rxStep_most]
theorem rxFold_no193 (xs : List UInt8) (st : RxSt) (h : ∀ x ∈ xs, x ≠ 193) : (xs.foldl rxStep st).2 = st.2 := by
  induction xs generalizing st with
  | nil => rfl
  | cons x xs ih => rw [List.foldl_cons, ih _ (fun y hy => h y (by simp [hy])), rxStep_no193 _ _ (h x (by simp))]
/-- The begin of a frame. -/
theorem rx_begin (st : RxSt) : rxStep st 192 = (⟨st.1.most, [], true, false⟩, st.2) := by
  unfold rxStep rxPut
  rfl
/-- A byte that is escaped if need be. -/
theorem rx_escB (m : Nat) (b : List UInt8) (fs : List (List UInt8)) (x : UInt8) (h : b.length + 1 ≤ m + 2) :
    (escB x).foldl rxStep (⟨m, b, true, false⟩, fs) = (⟨m, b ++ [x], true, false⟩, fs) := by
  have ho : ¬ b.length + 1 > m + 2 := by omega
  unfold escB
  split
  · rename_i hc
    have hx : x ^^^ 32 ≠ 192 ∧ x ^^^ 32 ≠ 193 ∧ x ^^^ 32 ^^^ 32 = x := by
      simp only [Bool.or_eq_true, beq_iff_eq] at hc
      rcases hc with (rfl | rfl) | rfl <;> decide
    have h1 : (x ^^^ 32 == 192) = false := beq_eq_false_iff_ne.2 hx.1
    have h2 : (x ^^^ 32 == 193) = false := beq_eq_false_iff_ne.2 hx.2.1
    have e1 : rxStep (⟨m, b, true, false⟩, fs) 125 = (⟨m, b, true, true⟩, fs) := rfl
    rw [List.foldl_cons, List.foldl_cons, List.foldl_nil, e1]
    unfold rxStep rxPut
    simp [h1, h2, rxMore, ho, hx.2.2]
  · rename_i hc
    simp only [Bool.or_eq_true, beq_iff_eq, not_or] at hc
    have h1 : (x == 192) = false := beq_eq_false_iff_ne.2 hc.1.1
    have h2 : (x == 193) = false := beq_eq_false_iff_ne.2 hc.1.2
    have h3 : (x == 125) = false := beq_eq_false_iff_ne.2 hc.2
    rw [List.foldl_cons, List.foldl_nil]
    unfold rxStep rxPut
    simp [h1, h2, h3, rxMore, ho]
theorem rx_esc (m : Nat) (p : List UInt8) (b : List UInt8) (fs : List (List UInt8)) (h : b.length + p.length ≤ m + 2) :
    (esc p).foldl rxStep (⟨m, b, true, false⟩, fs) = (⟨m, b ++ p, true, false⟩, fs) := by
  induction p generalizing b with
  | nil => simp [esc]
  | cons x p ih =>
    have : esc (x :: p) = escB x ++ esc p := by simp [esc]
    rw [this, List.foldl_append, rx_escB m b fs x (by simp at h; omega), ih _ (by simp at h ⊢; omega)]
    simp
theorem rx_end (m : Nat) (p : List UInt8) (fs : List (List UInt8)) :
    rxStep (⟨m, p, true, false⟩, fs) 193 = (⟨m, [], false, false⟩, if 2 < p.length ∧ crcFine p = true then fs ++ [p.take (p.length - 2)] else fs) := by
  unfold rxStep rxPut rxShut rxEnds
  by_cases h1 : p.length ≤ 2
  · have h2 : ¬ (2 < p.length ∧ crcFine p = true) := fun h => by omega
    simp [h1, h2]
  · have h3 : 2 < p.length := by omega
    cases h2 : crcFine p <;> simp [h1, h2, h3]
/-- A frame that is wrapped is found. -/
theorem rx_wrapped (st : RxSt) (b : List UInt8) (h : b.length ≤ st.1.most) :
    ([192] ++ esc (crcPut b) ++ [193]).foldl rxStep st = (⟨st.1.most, [], false, false⟩, if b = [] then st.2 else st.2 ++ [b]) := by
  simp only [List.foldl_append, List.foldl_cons, List.foldl_nil]
  rw [rx_begin, rx_esc _ _ _ _ (by rw [crcPut_length]; simp; omega), List.nil_append, rx_end]
  congr 1
  have hl := crcPut_length b
  have ht : (crcPut b).take ((crcPut b).length - 2) = b := by rw [hl]; simp [crcPut]
  rw [ht, crcFine_put]
  by_cases hb : b = []
  · subst hb
    rw [if_neg (by rw [hl]; simp), if_pos rfl]
  · have : 0 < b.length := List.length_pos_iff.2 hb
    rw [if_pos ⟨by omega, rfl⟩, if_neg hb]
theorem idle_no193 (n : Nat) : ∀ x ∈ List.replicate n (255 : UInt8), x ≠ 193 := by
  intro x hx
  have := List.eq_of_mem_replicate hx
  subst this
  decide
theorem rx_wrapB (st : RxSt) (b : List UInt8) (e : Int) (h : b.length ≤ st.1.most) :
    ∃ r, (wrapB b e).foldl rxStep st = (r, if b = [] then st.2 else st.2 ++ [b]) ∧ r.most = st.1.most ∧ r.inn = false := by
  have : wrapB b e = List.replicate (ahead e) 255 ++ ([192] ++ esc (crcPut b) ++ [193]) := by simp [wrapB]
  rw [this, List.foldl_append, rx_wrapped _ _ (by rw [rxFold_most]; exact h), rxFold_no193 _ _ (idle_no193 _), rxFold_most]
  exact ⟨_, rfl, rfl, rfl⟩
end Go.Proofs.YtgflghhffmjojaaGreatDoor.wr
set_option linter.unusedSimpArgs false
set_option linter.unusedVariables false
set_option maxRecDepth 100000
set_option maxHeartbeats 4000000
namespace Go.Proofs.YtgflghhffmjojaaGreatDoor
open Go Go.Ab
open wr
/-! ### Bytes on the air -/
theorem flat_bytes (l : List UInt8) : flatL (bytesAV l) = true := by
  induction l with
  | nil => rfl
  | cons x l ih => show (true && flatL (bytesAV l)) = true; rw [ih]; rfl
/-- Bytes, as they are handed on. -/
def slB (l : List UInt8) : AV := .sl (bytesAV l) l.length none
theorem slB_flat (l : List UInt8) : flat (slB l) = true := by show flatL (bytesAV l) = true; exact flat_bytes l
theorem slB_bys (l : List UInt8) : Bys (slB l) l := .inr ⟨none, rfl⟩
theorem sem_wrap (l : List UInt8) (h : l.length ≤ 100) : hSem 79 [slB l, .int .i64 1] St.nil = some (slB (wrapB l 1)) := by
  obtain ⟨y, s', h1, h2, _⟩ := wrap_ev (slB_bys l) 1 569 (by omega) (by omega) St.nil
  have h1 : ev2 600 79 [slB l, .int .i64 1] St.nil = some (y, s') := h1
  have hne : wrapB l 1 ≠ [] := by unfold wrapB; simp
  unfold hSem
  rw [if_pos (by show (flat (slB l) && true) = true; rw [slB_flat]; rfl), h1]
  rcases h2 with ⟨_, h2⟩ | ⟨t, v, rfl, _⟩
  · exact absurd h2 hne
  · simp only
    have e : dryV (.sl (bytesAV (wrapB l 1)) (wrapB l 1).length (some (t, v, 1))) = slB (wrapB l 1) := by
      show AV.sl ((bytesAV (wrapB l 1)).map dry1) _ none = _
      have : (bytesAV (wrapB l 1)).map dry1 = bytesAV (wrapB l 1) := by unfold bytesAV; rw [List.map_map]; rfl
      rw [this]; rfl
    rw [e, if_pos (slB_flat _)]
theorem rx_one (l : List UInt8) (h : l.length ≤ 80) (hn : l ≠ []) : rxAll 80 (wrapB l 1) = [l] := by
  obtain ⟨r, h1, _⟩ := rx_wrapB (rxNew 80, []) l 1 (by show l.length ≤ rxMost 80; exact h)
  unfold rxAll rxRun
  rw [h1, if_neg hn]; rfl
theorem sem_all (l : List UInt8) (h : l.length ≤ 80) (hn : l ≠ []) : hSem 69 [.int .i64 80, slB (wrapB l 1)] St.nil = some (.sl [slB l] 1 none) := by
  have hw : (wrapB l 1).length ≤ 300 := by
    have h1 := esc_length (crcPut l)
    have h2 := crcPut_length l
    have h3 := ahead_le 1
    simp [wrapB]; omega
  obtain ⟨o, s', ys, h1, h2, h3, _⟩ := rxAll_ev (slB_bys (wrapB l 1)) 80 565 (by omega) (by omega) St.nil
  have h1 : ev2 600 69 [.int .i64 80, slB (wrapB l 1)] St.nil = some (o, s') := h1
  rw [rx_one l h hn] at h3
  unfold hSem
  rw [if_pos (by show (true && (flat (slB (wrapB l 1)) && true)) = true; rw [slB_flat]; rfl), h1]
  have hl : ys.length = 1 := h3.length
  obtain ⟨y, rfl⟩ : ∃ y, ys = [y] := by
    cases ys with
    | nil => cases hl
    | cons y ys => cases ys with
      | nil => exact ⟨y, rfl⟩
      | cons z ys => simp at hl
  have hy : Bys y l := h3.get 0 (by simp) (by simp)
  rcases hy with ⟨_, hy⟩ | ⟨tk, rfl⟩
  · exact absurd hy hn
  · rcases h2 with ⟨_, h2⟩ | ⟨tk2, rfl⟩
    · cases h2
    · simp only
      have e : dryV (.sl [.sl (bytesAV l) l.length tk] [AV.sl (bytesAV l) l.length tk].length tk2) = .sl [slB l] 1 none := rfl
      rw [e, if_pos (by show (flat (slB l) && true) = true; rw [slB_flat]; rfl)]
/-- A copy. -/
theorem rclone : (fP 600 98 [lf 0] (FS.none' [.bool false, lf 0])).said [.eqv false .slc (lf 0) .nils (.bool false), .app 1 1 (.sl [] 0 (some (0, 0, 1))) (lf 0) (lf 0)] = some (.clo 1000000000 [.hs 1 0 1 0]) := by kernel_rfl
theorem bytes_dry (l : List UInt8) : (bytesAV l).map dry1 = bytesAV l := by unfold bytesAV; rw [List.map_map]; rfl
theorem sem_clone (l : List UInt8) (h : l.length ≤ 1000000) (hn : l ≠ []) : hSem 98 [slB l] St.nil = some (slB l) := by
  have hv : [slB l].all lfOk = true := rfl
  refine sem_to hv rclone (all_cons ⟨false, rfl, rfl⟩ (all_cons ?_ all_nil)) rfl ?_ ?_ (slB_flat l)
  · show NtOk _ _ (.app 1 1 (.sl [] 0 (some (0, 0, 1))) (lf 0) (lf 0))
    unfold NtOk
    have hl : l.length ≠ 0 := fun h => hn (List.length_eq_zero_iff.1 h)
    refine ⟨[], 0, bytesAV l, l.length, .inr ⟨_, rfl⟩, .inr (.inl ⟨none, rfl, by simp [bytesAV]⟩), hl, rfl, ?_, ?_⟩
    · simp [fits]; omega
    · show slB l = .sl ([] ++ bytesAV l) (0 + l.length) none
      rw [List.nil_append, Nat.zero_add]; rfl
  · show AV.sl ((bytesAV l).map dry1) l.length none = slB l
    rw [bytes_dry]; rfl
  · show (flat (slB l) && true) = true
    rw [slB_flat]; rfl
/-! ### How long bytes take -/
theorem lss_no {n c : Nat} (h : c ≤ n) : binV .lss (.int .i64 (n : Int)) (.int .i64 (c : Int)) = some (.bool false) := by
  show some (AV.bool (decide ((n : Int) < (c : Int)))) = _
  rw [decide_eq_false (by omega)]
theorem wrap64 {n : Nat} (h : n ≤ 1000000) : IntKind.i64.wrap (n : Int) = n := wrap_id .i64 n (by show n ≤ 9223372036854775807; omega)
theorem sub1_ok {n : Nat} (h1 : 1 ≤ n) (h : n ≤ 1000000) : binV .sub (.int .i64 (n : Int)) (.int .i64 (1 : Nat)) = some (.int .i64 ((n - 1 : Nat) : Int)) := by
  show some (AV.int .i64 (IntKind.i64.wrap ((n : Int) - ((1 : Nat) : Int)))) = _
  rw [show (n : Int) - ((1 : Nat) : Int) = ((n - 1 : Nat) : Int) by omega, wrap64 (by omega)]
theorem quo_ok {n b q : Nat} (hb : 1 ≤ b) (h : n / b = q) (hn : n ≤ 1000000) : binV .quo (.int .i64 (n : Int)) (.int .i64 (b : Int)) = some (.int .i64 (q : Int)) := by
  show (if (b : Int) = 0 then none else some (AV.int .i64 (IntKind.i64.wrap ((n : Int).tdiv (b : Int))))) = _
  rw [if_neg (by omega), ← Int.ofNat_tdiv, h, wrap64 (by rw [← h]; exact Nat.le_trans (Nat.div_le_self _ _) hn)]
def UT (q : Nat) : List Nt := [.bin .lss (lf 0) (.int .i64 1) (.bool false), .bin .lss (lf 1) (.int .i64 1) (.bool false), .bin .sub (lf 0) (.int .i64 1) (lf 2), .bin .quo (lf 2) (lf 1) (.int .i64 q)]
def OT (q : Nat) : List AV := [.bool false, .bool false, lf 2, .int .i64 q]
theorem rt0 : (fP 600 83 [lf 0, lf 1] (FS.none' (OT 0))).said (UT 0) = some (.int .i64 1) := by kernel_rfl
theorem rt1 : (fP 600 83 [lf 0, lf 1] (FS.none' (OT 1))).said (UT 1) = some (.int .i64 2) := by kernel_rfl
theorem rt2 : (fP 600 83 [lf 0, lf 1] (FS.none' (OT 2))).said (UT 2) = some (.int .i64 3) := by kernel_rfl
theorem rt3 : (fP 600 83 [lf 0, lf 1] (FS.none' (OT 3))).said (UT 3) = some (.int .i64 4) := by kernel_rfl
theorem rt4 : (fP 600 83 [lf 0, lf 1] (FS.none' (OT 4))).said (UT 4) = some (.int .i64 5) := by kernel_rfl
theorem rt5 : (fP 600 83 [lf 0, lf 1] (FS.none' (OT 5))).said (UT 5) = some (.int .i64 6) := by kernel_rfl
theorem rt6 : (fP 600 83 [lf 0, lf 1] (FS.none' (OT 6))).said (UT 6) = some (.int .i64 7) := by kernel_rfl
theorem rt7 : (fP 600 83 [lf 0, lf 1] (FS.none' (OT 7))).said (UT 7) = some (.int .i64 8) := by kernel_rfl
theorem rt8 : (fP 600 83 [lf 0, lf 1] (FS.none' (OT 8))).said (UT 8) = some (.int .i64 9) := by kernel_rfl
theorem rt9 : (fP 600 83 [lf 0, lf 1] (FS.none' (OT 9))).said (UT 9) = some (.int .i64 10) := by kernel_rfl
theorem rt10 : (fP 600 83 [lf 0, lf 1] (FS.none' (OT 10))).said (UT 10) = some (.int .i64 11) := by kernel_rfl
theorem rt11 : (fP 600 83 [lf 0, lf 1] (FS.none' (OT 11))).said (UT 11) = some (.int .i64 12) := by kernel_rfl
theorem rticks : ∀ q, q < 12 → (fP 600 83 [lf 0, lf 1] (FS.none' (OT q))).said (UT q) = some (.int .i64 ((q + 1 : Nat) : Int)) := by
  intro q hq
  match q, hq with
  | 0, _ => exact rt0
  | 1, _ => exact rt1
  | 2, _ => exact rt2
  | 3, _ => exact rt3
  | 4, _ => exact rt4
  | 5, _ => exact rt5
  | 6, _ => exact rt6
  | 7, _ => exact rt7
  | 8, _ => exact rt8
  | 9, _ => exact rt9
  | 10, _ => exact rt10
  | 11, _ => exact rt11
theorem sem_ticks (n b q : Nat) (h1 : 1 ≤ n) (h2 : n ≤ 100000) (hb : 1 ≤ b) (hq : (n - 1) / b = q) (hl : q < 12) : hSem 83 [.int .i64 (n : Int), .int .i64 (b : Int)] St.nil = some (.int .i64 ((q + 1 : Nat) : Int)) := by
  have hv : [AV.int .i64 (n : Int), .int .i64 (b : Int), .int .i64 ((n - 1 : Nat) : Int)].all lfOk = true := rfl
  refine sem_to hv (rticks q hl) (all_cons ?_ (all_cons ?_ (all_cons ?_ (all_cons ?_ all_nil)))) rfl rfl rfl rfl
  · exact lss_no h1
  · exact lss_no hb
  · exact sub1_ok h1 (by omega)
  · exact quo_ok hb hq (by omega)
/-! ### Small numbers -/
def US (r : Int) : List Nt := [.bin .rem (lf 0) (.int .i64 2) (.int .i64 r)]
theorem rsm0 : (fP 600 16 [lf 0, .int .i64 2] (FS.none' [.int .i64 0])).said (US 0) = some (.int .i64 0) := by kernel_rfl
theorem rsm1 : (fP 600 16 [lf 0, .int .i64 2] (FS.none' [.int .i64 1])).said (US 1) = some (.int .i64 1) := by kernel_rfl
theorem rsm2 : (fP 600 16 [lf 0, .int .i64 2] (FS.none' [.int .i64 (-1)])).said (US (-1)) = some (.int .i64 1) := by kernel_rfl
theorem rem2 (x : Int) : x.tmod 2 = 0 ∨ x.tmod 2 = 1 ∨ x.tmod 2 = -1 := by
  rcases Int.le_total 0 x with h | h
  · have := Int.tmod_nonneg 2 h
    have := Int.tmod_lt_of_pos x (show (0 : Int) < 2 by omega)
    omega
  · have h1 := Int.tmod_nonneg 2 (show 0 ≤ -x by omega)
    have h2 := Int.tmod_lt_of_pos (-x) (show (0 : Int) < 2 by omega)
    rw [Int.neg_tmod] at h1 h2
    omega
theorem sem_small (x : Int) : ∃ r : Nat, (r = 0 ∨ r = 1) ∧ hSem 16 [.int .i64 x, .int .i64 2] St.nil = some (.int .i64 (r : Int)) := by
  have hv : [AV.int .i64 x].all lfOk = true := rfl
  have nt : ∀ r : Int, x.tmod 2 = r → NtOk (Sg.of (Lo [AV.int .i64 x]) (Lo_ok hv)) cxM (.bin .rem (lf 0) (.int .i64 2) (.int .i64 r)) := by
    intro r hr
    show binV .rem (.int .i64 x) (.int .i64 2) = some (.int .i64 r)
    show (if (2 : Int) = 0 then none else some (AV.int .i64 (x.tmod 2))) = _
    rw [if_neg (by decide), hr]
  rcases rem2 x with h | h | h
  · exact ⟨0, .inl rfl, sem_to hv rsm0 (all_cons (nt 0 h) all_nil) rfl rfl rfl rfl⟩
  · exact ⟨1, .inr rfl, sem_to hv rsm1 (all_cons (nt 1 h) all_nil) rfl rfl rfl rfl⟩
  · exact ⟨1, .inr rfl, sem_to hv rsm2 (all_cons (nt (-1) h) all_nil) rfl rfl rfl rfl⟩
/-! ### What one may offer -/
def andI (x m : Int) : Int := IntKind.i64.wrap (BitVec.ofInt 64 x &&& BitVec.ofInt 64 m).toNat
def or1 (x : Int) : Int := IntKind.i64.wrap (BitVec.ofInt 64 x ||| BitVec.ofInt 64 1).toNat
def mx1 (x : Int) : Int := if 1 > x then 1 else x
def val0 (r : Option (AV × St)) : Option AV := r.map fun p => dryV p.1
theorem fine_val (b s w z t : Int) : val0 (ev2 600 38 [.agg [.int .i64 b, .int .i64 s, .int .i64 w, .int .i64 z, .int .i64 t]] St.nil) = some (.agg [.int .i64 (or1 (andI b 15)), .int .i64 (or1 (andI s 7)), .int .i64 (mx1 (andI w 127)), .int .i64 (mx1 (andI z 15)), .int .i64 (mx1 (andI t 7))]) := by kernel_rfl
theorem and_nat (x : Int) (m : Nat) (hm : m < 1000) : ∃ k : Nat, k ≤ m ∧ andI x (m : Int) = k := by
  refine ⟨(BitVec.ofInt 64 x).toNat &&& m, Nat.and_le_right, ?_⟩
  have e : (BitVec.ofInt 64 (m : Int)).toNat = m := ofInt_nat 64 m (by omega)
  unfold andI
  rw [BitVec.toNat_and, e, wrap64 (Nat.le_of_lt_succ (Nat.lt_of_le_of_lt Nat.and_le_right (by omega)))]
theorem or_nat (m : Nat) (h : m < 100) : or1 (m : Int) = ((m ||| 1 : Nat) : Int) := by
  unfold or1
  have h1 : m ||| 1 < 128 := Nat.or_lt_two_pow (n := 7) (by omega) (by omega)
  have e : (BitVec.ofInt 64 (m : Int)).toNat = m := ofInt_nat 64 m (by omega)
  rw [BitVec.toNat_or, e, show (BitVec.ofInt 64 1).toNat = 1 from rfl, wrap64 (by omega)]
theorem fin16 : ∀ m, m < 16 → 1 ≤ (m ||| 1) ∧ (m ||| 1) ≤ 15 ∧ (m ||| 1) % 2 = 1 := by decide
theorem fin8 : ∀ m, m < 8 → 1 ≤ (m ||| 1) ∧ (m ||| 1) ≤ 7 ∧ (m ||| 1) % 2 = 1 := by decide
theorem mx_nat (x : Int) (m : Nat) (hm : m < 1000) (h1 : 1 ≤ m) : ∃ k : Nat, 1 ≤ k ∧ k ≤ m ∧ mx1 (andI x (m : Int)) = k := by
  obtain ⟨k, hk, e⟩ := and_nat x m hm
  rw [e]
  unfold mx1
  split
  · exact ⟨1, Nat.le_refl _, h1, rfl⟩
  · exact ⟨k, by omega, hk, rfl⟩
theorem sem_fine (b s w z t : Int) : ∃ nb ns nw nz nt : Nat, Off nb ns nw nz nt ∧ hSem 38 [.agg [.int .i64 b, .int .i64 s, .int .i64 w, .int .i64 z, .int .i64 t]] St.nil = some (.agg [.int .i64 nb, .int .i64 ns, .int .i64 nw, .int .i64 nz, .int .i64 nt]) := by
  obtain ⟨kb, hb, eb⟩ := and_nat b 15 (by omega)
  obtain ⟨ks, hs, es⟩ := and_nat s 7 (by omega)
  obtain ⟨kw, w1, w2, ew⟩ := mx_nat w 127 (by omega) (by omega)
  obtain ⟨kz, z1, z2, ez⟩ := mx_nat z 15 (by omega) (by omega)
  obtain ⟨kt, t1, t2, et⟩ := mx_nat t 7 (by omega) (by omega)
  have eb' : andI b 15 = (kb : Int) := eb
  have es' : andI s 7 = (ks : Int) := es
  have ew' : mx1 (andI w 127) = (kw : Int) := ew
  have ez' : mx1 (andI z 15) = (kz : Int) := ez
  have et' : mx1 (andI t 7) = (kt : Int) := et
  obtain ⟨b1, b2, b3⟩ := fin16 kb (by omega)
  obtain ⟨s1, s2, s3⟩ := fin8 ks (by omega)
  have hv := fine_val b s w z t
  rw [eb', es', ew', ez', et', or_nat kb (by omega), or_nat ks (by omega)] at hv
  refine ⟨kb ||| 1, ks ||| 1, kw, kz, kt, ⟨b1, b2, b3, s1, s2, s3, w1, w2, z1, z2, t1, t2⟩, ?_⟩
  obtain ⟨⟨v0, s'⟩, h1, h2⟩ := Option.map_eq_some_iff.1 hv
  have h2 : dryV v0 = _ := h2
  have hf : flatL [AV.agg [.int .i64 b, .int .i64 s, .int .i64 w, .int .i64 z, .int .i64 t]] = true := rfl
  unfold hSem
  rw [if_pos hf, h1]
  simp only
  rw [h2]
  rfl
end Go.Proofs.YtgflghhffmjojaaGreatDoor
