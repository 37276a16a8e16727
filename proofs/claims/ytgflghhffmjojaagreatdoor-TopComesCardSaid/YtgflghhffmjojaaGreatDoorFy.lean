/- The quick evaluator of the whole program, and what it answers of. No conditions. -/
import Derived.Test.YtgflghhffmjojaaGreatDoorFx
set_option linter.unusedSimpArgs false
set_option linter.unusedVariables false
set_option maxRecDepth 100000
namespace Go.Proofs.YtgflghhffmjojaaGreatDoor
open Go Go.Ab
def hMay : List AV → St → Option AV
  | [.agg [.int .i64 b, .int .i64 s, .int .i64 w, .int .i64 z, .int .i64 t]], _ => if MayT b s w z t then some (.bool true) else none
  | _, _ => none
theorem may_pure : PureOk (ev2 600) 135 hMay := by
  intro args s v h
  unfold hMay at h
  split at h
  · rename_i b q w z t
    split at h
    · rename_i hm
      cases h
      obtain ⟨q', hq⟩ := may_ev b q w z t hm 598 St.nil
      exact ⟨rfl, .inl ⟨rfl, _, q', hq, rfl⟩⟩
    · cases h
  · cases h
def andI (x m : Int) : Int := IntKind.i64.wrap (BitVec.ofInt 64 x &&& BitVec.ofInt 64 m).toNat
def or1 (x : Int) : Int := IntKind.i64.wrap (BitVec.ofInt 64 x ||| BitVec.ofInt 64 1).toNat
def mx1 (x : Int) : Int := if 1 > x then 1 else x
def hFine : List AV → St → Option AV
  | [.agg [.int .i64 b, .int .i64 s, .int .i64 w, .int .i64 z, .int .i64 t]], _ => some (.agg [.int .i64 (or1 (andI b 15)), .int .i64 (or1 (andI s 7)), .int .i64 (mx1 (andI w 127)), .int .i64 (mx1 (andI z 15)), .int .i64 (mx1 (andI t 7))])
  | _, _ => none
def val0 (r : Option (AV × St)) : Option AV := r.map fun p => dryV p.1
theorem fine_val (b s w z t : Int) : val0 (ev2 600 38 [.agg [.int .i64 b, .int .i64 s, .int .i64 w, .int .i64 z, .int .i64 t]] St.nil) = some (.agg [.int .i64 (or1 (andI b 15)), .int .i64 (or1 (andI s 7)), .int .i64 (mx1 (andI w 127)), .int .i64 (mx1 (andI z 15)), .int .i64 (mx1 (andI t 7))]) := by kernel_rfl
theorem fine_pure : PureOk (ev2 600) 38 hFine := by
  intro args s v h
  unfold hFine at h
  split at h
  · rename_i b q w z t
    cases h
    obtain ⟨⟨v0, s'⟩, h1, h2⟩ := Option.map_eq_some_iff.1 (fine_val b q w z t)
    exact ⟨rfl, .inl ⟨rfl, v0, s', h1, h2⟩⟩
  · cases h
def lst3 (f : Nat) : Option (List AV → St → Option AV) := if f = 135 then some hMay else if f = 38 then some hFine else none
noncomputable def ext3 : Nat → Option (List AV → St → Option (AV × St)) := extWith ext2 lst3
theorem ext3_ok : ∀ w0, ExtOk Tryz.prog tabGl w0 ext3 := extOk_add (tableOf_ok _) mixed tab_flat ext2_ok lst3 (by
  intro f h hf
  unfold lst3 at hf
  split at hf
  · rename_i e
    subst e
    cases hf
    exact ⟨by rw [tab135]; rfl, 600, may_pure⟩
  · split at hf
    · rename_i e
      subst e
      cases hf
      exact ⟨by rw [tab38]; rfl, 600, fine_pure⟩
    · cases hf)
noncomputable def ev3 : Nat → Calls' := evF tabGl (tableOf Tryz.prog) ext3
theorem ev3_ok (w0 : World) (k : Nat) : CallOk Tryz.prog tabGl w0 (ev3 k) := evF_sound (tableOf_ok _) (ext3_ok w0) mixed k
/-! ### The quick one -/
noncomputable def mayF (args : List AV) (S : FS) : FR := match args with
  | [.agg [.int .i64 b, .int .i64 s, .int .i64 w, .int .i64 z, .int .i64 t]] => bK (decide (MayT b s w z t)) (.ok (.bool true) S 2) .bad
  | _ => .bad
/-- Taken for granted, and noted. -/
noncomputable def mayO (args : List AV) (S : FS) : FR := .ok (.bool true) ⟨S.h, S.nx, S.ck, args :: S.log⟩ 2
noncomputable def fineF (args : List AV) (S : FS) : FR := match args with
  | [.agg [.int .i64 b, .int .i64 s, .int .i64 w, .int .i64 z, .int .i64 t]] => .ok (.agg [.int .i64 (or1 (andI b 15)), .int .i64 (or1 (andI s 7)), .int .i64 (mx1 (andI w 127)), .int .i64 (mx1 (andI z 15)), .int .i64 (mx1 (andI t 7))]) S 2
  | _ => .bad
noncomputable def fX3 (f : Nat) : Option (List AV → FS → FR) := orX f 135 mayF (orX f 38 fineF (fX f))
noncomputable def fXo (f : Nat) : Option (List AV → FS → FR) := orX f 135 mayO (orX f 38 fineF (fX f))
def GoodA (args : List AV) : Prop := ∃ b s w z t, args = [.agg [.int .i64 b, .int .i64 s, .int .i64 w, .int .i64 z, .int .i64 t]] ∧ MayT b s w z t
section
variable {G : List AV → Prop}
theorem orX_eq {f g : Nat} {h : List AV → FS → FR} {r : Option (List AV → FS → FR)} : orX f g h r = if f = g then some h else r := by
  show @Bool.rec (fun _ => Option (List AV → FS → FR)) r (some h) (Nat.beq f g) = _
  cases hb : Nat.beq f g with
  | true => rw [if_pos (beq_n hb)]
  | false => rw [if_neg (Nat.ne_of_beq_eq_false hb)]
/-- One function more. -/
theorem x_or {X : Nat → Option (List AV → FS → FR)} {ext : Nat → Option (List AV → St → Option (AV × St))} (hX : XSim G X ext) {g : Nat} {h : List AV → FS → FR} {h' : List AV → St → Option (AV × St)}
    (hh : ∀ args S v S' k, h args S = .ok v S' k → Evo S S' ∧ ∀ s, GoodL G S' → RS S s → ∃ s', h' args s = some (v, s') ∧ RS S' s') :
    XSim G (fun f => orX f g h (X f)) (fun f => if f = g then some h' else ext f) := by
  intro f
  simp only [orX_eq]
  by_cases e : f = g
  · simp only [if_pos e]
    exact ⟨(fun q => by cases q), fun x hx => by cases hx; exact ⟨h', rfl, hh⟩⟩
  · simp only [if_neg e]
    exact hX f
theorem x0_sim : XSim G fX0 ext := by
  intro f
  show (@Bool.rec (fun _ => Option (List AV → FS → FR)) none (some growF) (Nat.beq f 160) = none → _) ∧ ∀ h, @Bool.rec (fun _ => Option (List AV → FS → FR)) none (some growF) (Nat.beq f 160) = some h → _
  cases hb : Nat.beq f 160 with
  | false =>
    have : f ≠ 160 := Nat.ne_of_beq_eq_false hb
    exact ⟨fun _ => by unfold ext; exact if_neg this, fun h hh => by cases hh⟩
  | true =>
    have : f = 160 := beq_n hb
    refine ⟨(fun q => by cases q), fun h hh => ?_⟩
    cases hh
    refine ⟨growX, by unfold ext; exact if_pos this, fun args S v S' k h => ?_⟩
    unfold growF at h
    split at h
    · rename_i n
      rcases bK_ok h with ⟨q, h1⟩ | ⟨q, h1⟩
      · cases h1
        exact ⟨Evo.refl _, fun s _ hS => ⟨s, by simp only [growX]; rw [if_pos (of_decide_eq_true q)], hS⟩⟩
      · obtain ⟨h2, h3⟩ := bK_t h1
        have h4 := new_ok h3
        cases h4
        rw [Bool.and_eq_true, decide_eq_true_eq, decide_eq_true_eq] at h2
        exact ⟨Evo.mk' _ _, fun s _ hS => ⟨_, by simp only [growX]; rw [if_neg (of_decide_eq_false q), if_pos h2, hS.nx], hS.new _⟩⟩
    · cases h
theorem x1_sim : XSim G fX1 ext1 := by
  have c0 : CallSim G (fF tabGl fTab fX0 600) (ev0 600) := fun_sim fTab_ok x0_sim 600
  have r : ∀ m, ∀ args S v S' k, raw0 m args S = .ok v S' k → Evo S S' ∧ ∀ s, GoodL G S' → RS S s → ∃ s', rw0 m args s = some (v, s') ∧ RS S' s' := fun m args S v S' k h => raw_sim c0 m 600 h
  exact x_or (x_or x0_sim (g := 158) (r M158)) (g := 91) (r M91)
theorem x2_sim : XSim G fX ext2 := by
  have c1 : CallSim G (fF tabGl fTab fX1 600) (ev1' 600) := fun_sim fTab_ok x1_sim 600
  have r : ∀ m, ∀ args S v S' k, raw1 m args S = .ok v S' k → Evo S S' ∧ ∀ s, GoodL G S' → RS S s → ∃ s', rw1 m args s = some (v, s') ∧ RS S' s' := fun m args S v S' k h => raw_sim c1 m 600 h
  exact x_or (x_or x1_sim (g := 82) (r M82s)) (g := 58) (r M58s)
noncomputable def pMay (args : List AV) (s : St) : Option (AV × St) := (hMay (args.map dry1) s).map (·, s)
noncomputable def pFine (args : List AV) (s : St) : Option (AV × St) := (hFine (args.map dry1) s).map (·, s)
theorem ext3_eq : ext3 = fun f => if f = 135 then some pMay else (fun f => if f = 38 then some pFine else ext2 f) f := by
  funext f
  unfold ext3 extWith lst3
  by_cases e : f = 135
  · subst e; rfl
  · simp only [if_neg e]
    by_cases e : f = 38
    · subst e; rfl
    · simp only [if_neg e]
theorem xf_sim : XSim G (fun f => orX f 38 fineF (fX f)) (fun f => if f = 38 then some pFine else ext2 f) := by
  refine x_or x2_sim (g := 38) fun args S v S' k h => ?_
  unfold fineF at h
  split at h
  · cases h
    exact ⟨Evo.refl _, fun s _ hS => ⟨s, rfl, hS⟩⟩
  · cases h
theorem x3_sim : XSim G fX3 ext3 := by
  rw [ext3_eq]
  refine x_or xf_sim (g := 135) fun args S v S' k h => ?_
  unfold mayF at h
  split at h
  · rename_i b q w z t
    obtain ⟨h1, h2⟩ := bK_t h
    cases h2
    exact ⟨Evo.refl _, fun s _ hS => ⟨s, by simp only [pMay, List.map_cons, List.map_nil, dry1, hMay]; rw [if_pos (of_decide_eq_true h1)]; rfl, hS⟩⟩
  · cases h
theorem xo_sim : XSim GoodA fXo ext3 := by
  rw [ext3_eq]
  refine x_or xf_sim (g := 135) fun args S v S' k h => ?_
  cases h
  refine ⟨⟨Nat.le_refl _, Nat.le_refl _, fun b x hx _ => hx, fun a ha => List.mem_cons_of_mem _ ha⟩, fun s hG hS => ⟨s, ?_, ⟨hS.nx, hS.at_, hS.wf, hS.ts⟩⟩⟩
  obtain ⟨b, q, w, z, t, rfl, hm⟩ := hG args (by simp)
  simp only [pMay, List.map_cons, List.map_nil, dry1, hMay]
  rw [if_pos hm]
  rfl
end
/-- The quick evaluator of all. -/
noncomputable def fQ (k : Nat) : FCall := fF tabGl fTab fX3 k
noncomputable def fQo (k : Nat) : FCall := fF tabGl fTab fXo k
theorem fQ_sim {G : List AV → Prop} (k : Nat) : CallSim G (fQ k) (ev3 k) := fun_sim fTab_ok x3_sim k
theorem fQo_sim (k : Nat) : CallSim GoodA (fQo k) (ev3 k) := fun_sim fTab_ok xo_sim k
/-! ### What is left -/
theorem fin16 : ∀ m, m < 16 → 1 ≤ (m ||| 1) ∧ (m ||| 1) ≤ 15 ∧ (m ||| 1) &&& 1 = 1 := by decide
theorem fin8 : ∀ m, m < 8 → 1 ≤ (m ||| 1) ∧ (m ||| 1) ≤ 7 ∧ (m ||| 1) &&& 1 = 1 := by decide
theorem wrap_nat (m : Nat) (h : m < 1000) : IntKind.i64.wrap (m : Int) = m := wrap_id .i64 m (by show m ≤ 9223372036854775807; omega)
theorem ofInt_lit (m : Nat) (h : m < 1000) : (BitVec.ofInt 64 (m : Int)).toNat = m := ofInt_nat 64 m (by omega)
theorem and_nat (x : Int) (m : Nat) (hm : m < 1000) : ∃ k : Nat, k ≤ m ∧ andI x (m : Int) = k := by
  refine ⟨(BitVec.ofInt 64 x).toNat &&& m, Nat.and_le_right, ?_⟩
  unfold andI
  rw [BitVec.toNat_and, ofInt_lit m hm, wrap_nat _ (Nat.lt_of_le_of_lt Nat.and_le_right hm)]
theorem or_nat (m : Nat) (h : m < 100) : or1 (m : Int) = ((m ||| 1 : Nat) : Int) := by
  unfold or1
  have h1 : m ||| 1 < 128 := Nat.or_lt_two_pow (n := 7) (by omega) (by omega)
  rw [BitVec.toNat_or, ofInt_lit m (by omega), show (BitVec.ofInt 64 1).toNat = 1 from rfl, wrap_nat _ (by omega)]
theorem bit_nat (m : Nat) (h : m < 1000) : bit1 (m : Int) = ((m &&& 1 : Nat) : Int) := by
  unfold bit1
  have h1 : m &&& 1 ≤ 1 := Nat.and_le_right
  rw [BitVec.toNat_and, ofInt_lit m h, show (BitVec.ofInt 64 1).toNat = 1 from rfl, wrap_nat _ (by omega)]
theorem mx_nat (x : Int) (m : Nat) (h1 : 1 ≤ m) (hm : m < 1000) : 1 ≤ mx1 (andI x (m : Int)) ∧ mx1 (andI x (m : Int)) ≤ m := by
  obtain ⟨k, hk, e⟩ := and_nat x m hm
  rw [e]
  unfold mx1
  split <;> omega
theorem fine_may (b s w z t : Int) : MayT (or1 (andI b 15)) (or1 (andI s 7)) (mx1 (andI w 127)) (mx1 (andI z 15)) (mx1 (andI t 7)) := by
  obtain ⟨kb, hb, eb⟩ := and_nat b 15 (by omega)
  obtain ⟨ks, hs, es⟩ := and_nat s 7 (by omega)
  have eb' : andI b 15 = (kb : Int) := eb
  have es' : andI s 7 = (ks : Int) := es
  obtain ⟨b1, b2, b3⟩ := fin16 kb (by omega)
  obtain ⟨s1, s2, s3⟩ := fin8 ks (by omega)
  rw [eb', es', or_nat kb (by omega), or_nat ks (by omega)]
  refine ⟨?_, ?_, ⟨by omega, by omega⟩, ⟨by omega, by omega⟩, mx_nat w 127 (by omega) (by omega), mx_nat z 15 (by omega) (by omega), mx_nat t 7 (by omega) (by omega)⟩
  · rw [bit_nat _ (by omega), b3]; rfl
  · rw [bit_nat _ (by omega), s3]; rfl
end Go.Proofs.YtgflghhffmjojaaGreatDoor
