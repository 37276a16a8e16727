/- Numbers of offers as what they answer. No conditions. -/
import Derived.Test.YtbeimfhodgmjhaaDoorQ4
import Derived.Test.YtbeimfhodgmjhaaDoorTupFind
set_option linter.unusedSimpArgs false
set_option linter.unusedVariables false
set_option maxRecDepth 100000
namespace Go.Proofs.YtbeimfhodgmjhaaDoor
open Go Go.Ab
theorem tab_flat (g : Nat) : Ab.flat (tabGl g) = true := by
  unfold tabGl
  split
  · decide +kernel
  · split
    · decide +kernel
    · split
      · decide +kernel
      · rfl
theorem some_of {P : Prop} [Decidable P] {α : Type} {a : α} {x : Option α} {y : α} (h : (if P then some a else x) = some y) : (P ∧ a = y) ∨ x = some y := by
  split at h
  · rename_i hp; cases h; exact .inl ⟨hp, rfl⟩
  · exact .inr h
def hTrue : List AV → St → Option AV
  | [], _ => some (.bool true)
  | _, _ => none
theorem begun_pure : PureOk (evT 999) 21 hTrue := pureOk_of (by
  intro args s v h
  unfold hTrue at h
  split at h
  · cases h
    obtain ⟨s1, h1⟩ := begunT_ev
    exact ⟨rfl, rfl, by rw [h1]; rfl⟩
  · cases h)
/-- A number of a number. -/
def h1 (f : Int → Int) : List AV → St → Option AV
  | [.int .i64 n], _ => some (.int .i64 (f n))
  | _, _ => none
theorem pure1 {call : Calls'} {F : Nat} {f : Int → Int} (h : ∀ n, valR (call F [.int .i64 n] St.nil) = some (.int .i64 (f n))) : PureOk call F (h1 f) := pureOk_of (by
  intro args s v hv
  unfold h1 at hv
  split at hv
  · cases hv; exact ⟨rfl, rfl, h _⟩
  · cases hv)
/-- A number of two numbers, on some conditions. -/
def h2 (c : Int → Int → Prop) [∀ a b, Decidable (c a b)] (f : Int → Int → Int) : List AV → St → Option AV
  | [.int .i64 a, .int .i64 b], _ => if c a b then some (.int .i64 (f a b)) else none
  | _, _ => none
theorem pure2 {call : Calls'} {F : Nat} {c : Int → Int → Prop} [∀ a b, Decidable (c a b)] {f : Int → Int → Int} (h : ∀ a b, c a b → valR (call F [.int .i64 a, .int .i64 b] St.nil) = some (.int .i64 (f a b))) : PureOk call F (h2 c f) := pureOk_of (by
  intro args s v hv
  unfold h2 at hv
  split at hv
  · split at hv
    · rename_i hc; cases hv; exact ⟨rfl, rfl, h _ _ hc⟩
    · cases hv
  · cases hv)
/-- An offer, read out of a value. -/
structure Of5 where
  b : Int
  s : Int
  w : Int
  z : Int
  t : Int
  deriving DecidableEq
def Of5.cells (o : Of5) : List AV := ofC o.b o.s o.w o.z o.t
def Of5.may (o : Of5) : Prop := mayP o.b o.s o.w o.z o.t
instance (o : Of5) : Decidable o.may := inferInstanceAs (Decidable (mayP _ _ _ _ _))
def toOf : AV → Option Of5
  | .agg [.int .i64 b, .int .i64 s, .int .i64 w, .int .i64 z, .int .i64 t] => some ⟨b, s, w, z, t⟩
  | _ => none
theorem toOf_of {v : AV} {o : Of5} (h : toOf v = some o) : v = .agg o.cells := by
  unfold toOf at h
  split at h
  · cases h; rfl
  · cases h
theorem toOf_cells (o : Of5) : toOf (.agg o.cells) = some o := rfl
theorem Of5.flat (o : Of5) : Ab.flat (.agg o.cells) = true := rfl
def hMayO : List AV → St → Option AV
  | [v], _ => (toOf v).map fun o => .bool (decide o.may)
  | _, _ => none
theorem pureMayO {call : Calls'} {F : Nat} (h : ∀ o : Of5, valR (call F [.agg o.cells] St.nil) = some (.bool (decide o.may))) : PureOk call F hMayO := pureOk_of (by
  intro args s v hv
  unfold hMayO at hv
  split at hv
  · obtain ⟨o, ho, rfl⟩ := Option.map_eq_some_iff.1 hv
    rw [toOf_of ho]
    exact ⟨rfl, by simp [flatL, o.flat], h o⟩
  · cases hv)
/-- A bit of any number. -/
def tbit (n : Int) (i : Nat) : Bool := (n % 65536).toNat.testBit i
def hAt : List AV → St → Option AV
  | [.int .i64 n, .int .i64 i], _ => if 0 ≤ i ∧ i < 16 then some (.bool (tbit n i.toNat)) else none
  | _, _ => none
theorem puA64 : PureOk (evT 1000) 64 hAt := pureOk_of (by
  intro args s v hv
  unfold hAt at hv
  split at hv
  · rename_i n i
    split at hv
    · rename_i hc
      cases hv
      refine ⟨rfl, rfl, ?_⟩
      have h := at_ev 999 n i.toNat (by omega) St.nil
      rw [Int.toNat_of_nonneg hc.1] at h
      rw [show (1000 : Nat) = 999 + 1 from rfl, h]; rfl
    · cases hv
  · cases hv)
def has1 (a b : Int) : Prop := -9223372036854775808 ≤ a ∧ a ≤ 9223372036854775807
instance (a b : Int) : Decidable (has1 a b) := inferInstanceAs (Decidable (_ ∧ _))
def small1 (a b : Int) : Prop := 0 ≤ a ∧ a ≤ 1000000
instance (a b : Int) : Decidable (small1 a b) := inferInstanceAs (Decidable (_ ∧ _))
def frameZ (size baud : Int) : Int := ticksZ (2 * (size + 5) + 2) baud
theorem has1_has {a b : Int} (h : has1 a b) : IntKind.i64.has a := ⟨by simp [IntKind.min, IntKind.bits, IntKind.signed]; exact h.1, by simp [IntKind.max, IntKind.bits, IntKind.signed]; have := h.2; omega⟩
theorem puA26 : PureOk (evT 1000) 26 (h1 highZ) := (pure1 fun n => by rw [show (1000 : Nat) = 998 + 2 from rfl, high_ev]; rfl)
theorem puA27 : PureOk (evT 1000) 27 (h1 highZ) := (pure1 fun n => by rw [show (1000 : Nat) = 970 + 30 from rfl, rhigh_ev]; rfl)
theorem puA28 : PureOk (evT 1000) 28 (h1 lowZ) := (pure1 fun n => by rw [show (1000 : Nat) = 998 + 2 from rfl, low_ev]; rfl)
theorem puA29 : PureOk (evT 1000) 29 (h1 lowZ) := (pure1 fun n => by rw [show (1000 : Nat) = 970 + 30 from rfl, rlow_ev]; rfl)
theorem puA30 : PureOk (evT 1000) 30 (h1 baudZ) := (pure1 fun n => baud_val n St.nil)
theorem puA31 : PureOk (evT 1000) 31 (h1 baudZ) := (pure1 fun n => rbaud_val n St.nil)
theorem puA32 : PureOk (evT 1000) 32 (h1 silentZ) := (pure1 fun n => silent_val n St.nil)
theorem puA33 : PureOk (evT 1000) 33 (h1 silentZ) := (pure1 fun n => rsilent_val n St.nil)
theorem puA34 : PureOk (evT 1000) 34 (h1 sizeZ) := (pure1 fun n => size_val n St.nil)
theorem puA35 : PureOk (evT 1000) 35 (h1 sizeZ) := (pure1 fun n => rsize_val n St.nil)
theorem puA36 : PureOk (evT 1000) 36 (h2 has1 ticksZ) := (pure2 fun a b hc => by rw [show (1000 : Nat) = 999 + 1 from rfl, ticks_ev _ _ _ (has1_has hc)]; rfl)
theorem puA37 : PureOk (evT 1000) 37 (h2 has1 ticksZ) := (pure2 fun a b hc => by rw [show (1000 : Nat) = 999 + 1 from rfl, rticks_ev _ _ _ (has1_has hc)]; rfl)
theorem puA44 : PureOk (evT 1000) 44 (h2 small1 frameZ) := (pure2 fun a b hc => by rw [show (1000 : Nat) = 998 + 2 from rfl, frame_ev _ _ _ hc.1 hc.2]; rfl)
theorem puA45 : PureOk (evT 1000) 45 (h2 small1 frameZ) := (pure2 fun a b hc => by rw [show (1000 : Nat) = 998 + 2 from rfl, rframe_ev _ _ _ hc.1 hc.2]; rfl)
theorem puA25 : PureOk (evT 1000) 25 (hMayO) := (pureMayO fun o => may_val 998 _ _ _ _ _ St.nil)
theorem puA58 : PureOk (evT 1000) 58 (hMayO) := (pureMayO fun o => rmay_val 999 _ _ _ _ _ St.nil)
theorem puC_put : PureOk (evT 1000) 41 hTPut := pureTPut fun v l h hl => put_val h hl
theorem puC_rput : PureOk (evT 1000) 60 hTPut := pureTPut fun v l h hl => rput_val h hl
theorem puC_get : PureOk (evT 1000) 67 hTGet := pureTGet fun s => get67_val s
theorem puC_rget : PureOk (evT 1000) 40 hTGet := pureTGet fun s => get40_val s
theorem puC_find : PureOk (evT 1000) 68 hFind := pureFind fun v l id h hl => find_val h id hl
def lstA (f : Nat) : Option (List AV → St → Option AV) := if f = 21 then some (hTrue) else if f = 26 then some (h1 highZ) else if f = 27 then some (h1 highZ) else if f = 28 then some (h1 lowZ) else if f = 29 then some (h1 lowZ) else if f = 30 then some (h1 baudZ) else if f = 31 then some (h1 baudZ) else if f = 32 then some (h1 silentZ) else if f = 33 then some (h1 silentZ) else if f = 34 then some (h1 sizeZ) else if f = 35 then some (h1 sizeZ) else if f = 36 then some (h2 has1 ticksZ) else if f = 37 then some (h2 has1 ticksZ) else if f = 44 then some (h2 small1 frameZ) else if f = 45 then some (h2 small1 frameZ) else if f = 25 then some (hMayO) else if f = 58 then some (hMayO) else if f = 64 then some (hAt) else if f = 41 then some (hTPut) else if f = 60 then some (hTPut) else if f = 67 then some (hTGet) else if f = 40 then some (hTGet) else if f = 68 then some (hFind) else none
noncomputable def extA := extWith ext lstA
theorem extA_ok : ∀ w0, ExtOk Tryd.prog tabGl w0 extA := extOk_add (tableOf_ok _) mixed tab_flat (fun w0 => extOk _ w0) lstA (by
  intro f h hf
  unfold lstA at hf
  rcases some_of hf with ⟨rfl, rfl⟩ | hf
  · exact ⟨by kernel_rfl, 999, begun_pure⟩
  rcases some_of hf with ⟨rfl, rfl⟩ | hf
  · exact ⟨by rw [tab26]; rfl, 1000, puA26⟩
  rcases some_of hf with ⟨rfl, rfl⟩ | hf
  · exact ⟨by rw [tab27]; rfl, 1000, puA27⟩
  rcases some_of hf with ⟨rfl, rfl⟩ | hf
  · exact ⟨by rw [tab28]; rfl, 1000, puA28⟩
  rcases some_of hf with ⟨rfl, rfl⟩ | hf
  · exact ⟨by rw [tab29]; rfl, 1000, puA29⟩
  rcases some_of hf with ⟨rfl, rfl⟩ | hf
  · exact ⟨by rw [tab30]; rfl, 1000, puA30⟩
  rcases some_of hf with ⟨rfl, rfl⟩ | hf
  · exact ⟨by rw [tab31]; rfl, 1000, puA31⟩
  rcases some_of hf with ⟨rfl, rfl⟩ | hf
  · exact ⟨by rw [tab32]; rfl, 1000, puA32⟩
  rcases some_of hf with ⟨rfl, rfl⟩ | hf
  · exact ⟨by rw [tab33]; rfl, 1000, puA33⟩
  rcases some_of hf with ⟨rfl, rfl⟩ | hf
  · exact ⟨by rw [tab34]; rfl, 1000, puA34⟩
  rcases some_of hf with ⟨rfl, rfl⟩ | hf
  · exact ⟨by rw [tab35]; rfl, 1000, puA35⟩
  rcases some_of hf with ⟨rfl, rfl⟩ | hf
  · exact ⟨by rw [tab36]; rfl, 1000, puA36⟩
  rcases some_of hf with ⟨rfl, rfl⟩ | hf
  · exact ⟨by rw [tab37]; rfl, 1000, puA37⟩
  rcases some_of hf with ⟨rfl, rfl⟩ | hf
  · exact ⟨by rw [tab44]; rfl, 1000, puA44⟩
  rcases some_of hf with ⟨rfl, rfl⟩ | hf
  · exact ⟨by rw [tab45]; rfl, 1000, puA45⟩
  rcases some_of hf with ⟨rfl, rfl⟩ | hf
  · exact ⟨by rw [tab25]; rfl, 1000, puA25⟩
  rcases some_of hf with ⟨rfl, rfl⟩ | hf
  · exact ⟨by rw [tab58]; rfl, 1000, puA58⟩
  rcases some_of hf with ⟨rfl, rfl⟩ | hf
  · exact ⟨by rw [tab64]; rfl, 1000, puA64⟩
  rcases some_of hf with ⟨rfl, rfl⟩ | hf
  · exact ⟨by rw [tab41]; rfl, 1000, puC_put⟩
  rcases some_of hf with ⟨rfl, rfl⟩ | hf
  · exact ⟨by rw [tab60]; rfl, 1000, puC_rput⟩
  rcases some_of hf with ⟨rfl, rfl⟩ | hf
  · exact ⟨by rw [tab67]; rfl, 1000, puC_get⟩
  rcases some_of hf with ⟨rfl, rfl⟩ | hf
  · exact ⟨by rw [tab40]; rfl, 1000, puC_rget⟩
  rcases some_of hf with ⟨rfl, rfl⟩ | hf
  · exact ⟨by rw [tab68]; rfl, 1000, puC_find⟩
  cases hf)
noncomputable def evA : Nat → Calls' := evF tabGl (tableOf Tryd.prog) extA
theorem evA_ok (w0 : World) (k : Nat) : CallOk Tryd.prog tabGl w0 (evA k) := evF_sound (tableOf_ok _) (extA_ok w0) mixed k
theorem evA_in {k f : Nat} {m : MFun} (hx : extA f = none) (hF : tableOf Tryd.prog f = some m) (args : List AV) (s : St) :
    evA (k + 1) f args s = outR m.res (evC tabGl (evA k) k m.body (env0 m.ntmps args) s) := evF_in hx hF args s
theorem p21 (k : Nat) (s : St) : evA (k + 1) 21 [] s = some (.bool true, s) := evF_ext (H := hTrue) rfl rfl
theorem p26 (k : Nat) (n : Int) (s : St) : evA (k + 1) 26 [.int .i64 n] s = some (.int .i64 (highZ n), s) := evF_ext (H := h1 highZ) rfl rfl
theorem p27 (k : Nat) (n : Int) (s : St) : evA (k + 1) 27 [.int .i64 n] s = some (.int .i64 (highZ n), s) := evF_ext (H := h1 highZ) rfl rfl
theorem p28 (k : Nat) (n : Int) (s : St) : evA (k + 1) 28 [.int .i64 n] s = some (.int .i64 (lowZ n), s) := evF_ext (H := h1 lowZ) rfl rfl
theorem p29 (k : Nat) (n : Int) (s : St) : evA (k + 1) 29 [.int .i64 n] s = some (.int .i64 (lowZ n), s) := evF_ext (H := h1 lowZ) rfl rfl
theorem p30 (k : Nat) (n : Int) (s : St) : evA (k + 1) 30 [.int .i64 n] s = some (.int .i64 (baudZ n), s) := evF_ext (H := h1 baudZ) rfl rfl
theorem p31 (k : Nat) (n : Int) (s : St) : evA (k + 1) 31 [.int .i64 n] s = some (.int .i64 (baudZ n), s) := evF_ext (H := h1 baudZ) rfl rfl
theorem p32 (k : Nat) (n : Int) (s : St) : evA (k + 1) 32 [.int .i64 n] s = some (.int .i64 (silentZ n), s) := evF_ext (H := h1 silentZ) rfl rfl
theorem p33 (k : Nat) (n : Int) (s : St) : evA (k + 1) 33 [.int .i64 n] s = some (.int .i64 (silentZ n), s) := evF_ext (H := h1 silentZ) rfl rfl
theorem p34 (k : Nat) (n : Int) (s : St) : evA (k + 1) 34 [.int .i64 n] s = some (.int .i64 (sizeZ n), s) := evF_ext (H := h1 sizeZ) rfl rfl
theorem p35 (k : Nat) (n : Int) (s : St) : evA (k + 1) 35 [.int .i64 n] s = some (.int .i64 (sizeZ n), s) := evF_ext (H := h1 sizeZ) rfl rfl
theorem p36 (k : Nat) (a b : Int) (h : has1 a b) (s : St) : evA (k + 1) 36 [.int .i64 a, .int .i64 b] s = some (.int .i64 (ticksZ a b), s) := evF_ext (H := h2 has1 ticksZ) rfl (if_pos h)
theorem p37 (k : Nat) (a b : Int) (h : has1 a b) (s : St) : evA (k + 1) 37 [.int .i64 a, .int .i64 b] s = some (.int .i64 (ticksZ a b), s) := evF_ext (H := h2 has1 ticksZ) rfl (if_pos h)
theorem p44 (k : Nat) (a b : Int) (h : small1 a b) (s : St) : evA (k + 1) 44 [.int .i64 a, .int .i64 b] s = some (.int .i64 (frameZ a b), s) := evF_ext (H := h2 small1 frameZ) rfl (if_pos h)
theorem p45 (k : Nat) (a b : Int) (h : small1 a b) (s : St) : evA (k + 1) 45 [.int .i64 a, .int .i64 b] s = some (.int .i64 (frameZ a b), s) := evF_ext (H := h2 small1 frameZ) rfl (if_pos h)
theorem p25 (k : Nat) (o : Of5) (s : St) : evA (k + 1) 25 [.agg o.cells] s = some (.bool (decide o.may), s) := evF_ext (H := hMayO) rfl rfl
theorem p64 (k : Nat) (n : Int) (i : Nat) (hi : i < 16) (s : St) : evA (k + 1) 64 [.int .i64 n, .int .i64 (i : Int)] s = some (.bool (tbit n i), s) := evF_ext (H := hAt) rfl (if_pos ⟨by omega, by omega⟩)
theorem p58 (k : Nat) (o : Of5) (s : St) : evA (k + 1) 58 [.agg o.cells] s = some (.bool (decide o.may), s) := evF_ext (H := hMayO) rfl rfl
end Go.Proofs.YtbeimfhodgmjhaaDoor
/- meet.Deal, as the evaluator answers it. No conditions. -/
set_option linter.unusedSimpArgs false
set_option linter.unusedVariables false
set_option maxRecDepth 100000
set_option maxHeartbeats 4000000
namespace Go.Proofs.YtbeimfhodgmjhaaDoor
open Go Go.Ab
def andZ (a b : Int) : Int := ((a.toNat &&& b.toNat : Nat) : Int)
theorem and_nn (a b : Int) (ha : 0 ≤ a) (ha2 : a < 1000000) (hb : 0 ≤ b) (hb2 : b < 1000000) : binV .and (.int .i64 a) (.int .i64 b) = some (.int .i64 (andZ a b)) := by
  show some (AV.int .i64 (IntKind.i64.wrap ((BitVec.ofInt 64 a &&& BitVec.ofInt 64 b).toNat : Int))) = _
  have hx : (BitVec.ofInt 64 a &&& BitVec.ofInt 64 b).toNat = a.toNat &&& b.toNat := by
    rw [BitVec.toNat_and, BitVec.toNat_ofInt, BitVec.toNat_ofInt]
    have q1 : (a % ((2 ^ 64 : Nat) : Int)).toNat = a.toNat := by omega
    have q2 : (b % ((2 ^ 64 : Nat) : Int)).toNat = b.toNat := by omega
    rw [q1, q2]
  have hle := Nat.and_le_left (n := a.toNat) (m := b.toNat)
  rw [hx, wrapI _ (by omega) (by omega)]
  rfl
/-- The widest window that fits. -/
def winZ (F : Int) : Nat → Int
  | 0 => 0
  | w + 1 => if ((w + 1 : Nat) : Int) > 1 ∧ ((w + 1 : Nat) : Int) * F > 30 then winZ F w else ((w + 1 : Nat) : Int)
def dealO (m o : Of5) : Of5 := ⟨baudZ (highZ (andZ m.b o.b)), silentZ (lowZ (andZ m.s o.s)), winZ (frameZ (sizeZ (highZ o.z)) (baudZ (highZ (andZ m.b o.b)))) (highZ o.w + 1).toNat, sizeZ (highZ o.z), lowZ o.t⟩
theorem high_w : ((List.range 128).all fun n => decide (n = 0 ∨ (0 ≤ highZ n ∧ highZ n ≤ 6))) = true := by kernel_rfl
theorem high_at (w : Int) (h0 : 1 ≤ w) (h1 : w ≤ 127) : 0 ≤ highZ w ∧ highZ w ≤ 6 := by
  have h := of_decide_eq_true (List.all_eq_true.1 high_w w.toNat (List.mem_range.2 (by omega)))
  rw [Int.toNat_of_nonneg (by omega)] at h
  omega
theorem size_le (i : Int) : 0 ≤ sizeZ i ∧ sizeZ i ≤ 64 := by unfold sizeZ; repeat' split <;> omega
theorem baud_le (i : Int) : 0 ≤ baudZ i ∧ baudZ i ≤ 256 := by unfold baudZ; repeat' split <;> omega
theorem frame_le (i j : Int) : 0 ≤ frameZ (sizeZ i) (baudZ j) ∧ frameZ (sizeZ i) (baudZ j) ≤ 1000 := by
  have h1 := size_le i
  have h2 := baud_le j
  unfold frameZ ticksZ
  split
  · omega
  · have q0 : 0 ≤ (2 * (sizeZ i + 5) + 2 - 1) / baudZ j := Int.ediv_nonneg (by omega) (by omega)
    have q1 : (2 * (sizeZ i + 5) + 2 - 1) / baudZ j ≤ 2 * (sizeZ i + 5) + 2 - 1 := Int.ediv_le_self _ (by omega)
    omega
def E42 : Env := [.undef, .undef, .undef, .undef, .ptr (St.nil.next + 2) 0, .undef, .ptr (St.nil.next + 3) 0, .undef, .undef, .undef, .undef, .undef, .undef, .undef, .undef, .undef, .undef, .undef, .undef, .undef, .undef, .undef, .undef, .undef, .undef, .undef, .undef, .undef, .undef, .undef, .undef, .undef, .undef, .undef, .undef, .undef, .undef, .undef, .undef, .undef, .undef, .undef, .undef, .undef, .undef, .undef, .undef, .undef, .undef, .undef, .undef, .undef, .undef, .undef, .undef, .undef, .undef, .undef, .undef, .undef, .undef]
def S42 (m o : Of5) (r : AV) (d : Of5) : St := St.nil.pl [.cells 0 m.cells, .cells 0 o.cells, .cells 0 [.int .i64 0, .int .i64 0, .int .i64 0, .int .i64 0, .int .i64 0], .cells 0 d.cells]
theorem deal_loop (k : Nat) (m o : Of5) (b s z t : Int) (w0 : Nat) (hw : w0 ≤ 7) (i j : Int) (hz : z = sizeZ i) (hb : b = baudZ j) (R : AV) :
    valR (outR M42.res (seqR (blockR 0 (iter (evC tabGl (evA (k + 19)) (k + 19) M42b0) M42b0l (k + 19) E42 (S42 m o R ⟨b, s, w0, z, t⟩))) (evC tabGl (evA (k + 19)) (k + 19) M42r0))) = some (.tup [.agg (ofC b s (winZ (frameZ z b) w0) z t), .bool true]) := by
  have hf := frame_le i j
  rw [← hz, ← hb] at hf
  have h44 := p44 (k + 18) z b ⟨by rw [hz]; exact (size_le i).1, by rw [hz]; have := (size_le i).2; omega⟩
  obtain ⟨F, hF⟩ : ∃ F, frameZ z b = F := ⟨_, rfl⟩
  rw [hF] at h44 hf ⊢
  obtain ⟨W, hW⟩ : ∃ W, winZ F w0 = W := ⟨_, rfl⟩
  rw [hW]
  refine iter_leave (evC tabGl (evA (k + 19)) (k + 19) M42b0) M42b0l (fun i e st => maskE M42b0l e = E42 ∧ st = S42 m o R ⟨b, s, ((w0 - i : Nat) : Int), z, t⟩ ∧ W = winZ F (w0 - i))
    (fun out => valR (outR M42.res (seqR (blockR 0 out) (evC tabGl (evA (k + 19)) (k + 19) M42r0))) = some (.tup [.agg (ofC b s W z t), .bool true])) w0 ?_ ?_ w0 0 _ _ (k + 19) (by omega) ⟨rfl, rfl, hW.symm⟩ (by omega)
  · rintro i e st hi ⟨h1, rfl, h3⟩
    rw [h1]
    obtain ⟨w, hw'⟩ : ∃ w, w0 - i = w + 1 := ⟨w0 - i - 1, by omega⟩
    rw [hw'] at h3 ⊢
    unfold winZ at h3
    have wm : IntKind.i64.wrap (((w + 1 : Nat) : Int) * F) = ((w + 1 : Nat) : Int) * F := by
      obtain ⟨f, rfl⟩ : ∃ f : Nat, F = f := ⟨F.toNat, by omega⟩
      have : (w + 1) * f ≤ 7 * 1000 := Nat.mul_le_mul (by omega) (by omega)
      refine wrapI _ ?_ ?_
      · have : (0 : Int) ≤ (((w + 1) * f : Nat) : Int) := Int.natCast_nonneg _
        rw [Int.natCast_mul] at this; omega
      · have : (((w + 1) * f : Nat) : Int) ≤ 7000 := by omega
        rw [Int.natCast_mul] at this; omega
    by_cases g1 : ((w + 1 : Nat) : Int) > 1
    · have d1 : decide (((w + 1 : Nat) : Int) > 1) = true := decide_eq_true g1
      by_cases g2 : ((w + 1 : Nat) : Int) * F > 30
      · left
        have d2 : decide (((w + 1 : Nat) : Int) * F > 30) = true := decide_eq_true g2
        have ws : IntKind.i64.wrap (((w + 1 : Nat) : Int) - 1) = (w : Int) := (wrapI _ (by omega) (by omega)).trans (by omega)
        rw [if_pos ⟨g1, g2⟩] at h3
        simp only [M42b0, E42, S42, ofC, Of5.cells, d1, d2, wm, ws, h44, i64_mul, qES0, qES1, qES2, env0, List.length_cons, List.length_nil, Nat.reduceAdd, Nat.reduceSub, List.replicate, List.cons_append, List.nil_append, opd, Env.put, Env.at, List.set_cons_zero, List.set_cons_succ, List.getD_cons_zero, List.getD_cons_succ, freezeL, resVs, oneOr, Option.map_some, Option.map_none, List.map_cons, List.map_nil, if_true, if_false, Bool.not_true, Bool.not_false, Bool.false_eq_true, reduceIte, decide_true, decide_false, Int.reduceLT, Int.reduceLE, Int.reduceGT, Int.reduceGE, Int.reduceEq, Int.reduceBEq, Int.reduceBNe, load_ptr, ldV_some, cellAt_cells, List.getElem?_cons_zero, List.getElem?_cons_succ, store_ptr, stO_some, setAt_0, setAt_1, setAt_2, setAt_3, setAt_4, setAt_5, setAt_6, setAt_7, setAt_8, setAt_9, setAt_10, setAt_11, setAt_12, cells_int, cells_bool, cells_str, cells_nils, cells_nilp, cells_ptr, cells_sl, cells_u8, cells_u16, cells_agg, get_upd_is, Option.isSome_some, upd_upd, ev1_nchkV, ev1_faV, nchkV_ptr, faV_ptr, ev1_extV, extV_tup, eqptr_nil, eqptr_ptr, Nat.zero_add, Nat.add_zero, qPL0, qPL1, qPL2, qPL3, qPL4, qPL5, beq_self_eq_true, qED0, qED1, placeR]
        rw [drawR_ok]; case h => simp (config := { decide := true }) [calm, calmPair, calmTwo, List.range, List.range.loop, sameO_refl, plg0, plg1, plg2, plg3, plg4, plg5, plg6, plg7, plg8, plg9, plg10, plg11, plg12, plg13]
        simp only [M42b0, E42, S42, ofC, Of5.cells, d1, d2, wm, ws, h44, i64_mul, qES0, qES1, qES2, env0, List.length_cons, List.length_nil, Nat.reduceAdd, Nat.reduceSub, List.replicate, List.cons_append, List.nil_append, opd, Env.put, Env.at, List.set_cons_zero, List.set_cons_succ, List.getD_cons_zero, List.getD_cons_succ, freezeL, resVs, oneOr, Option.map_some, Option.map_none, List.map_cons, List.map_nil, if_true, if_false, Bool.not_true, Bool.not_false, Bool.false_eq_true, reduceIte, decide_true, decide_false, Int.reduceLT, Int.reduceLE, Int.reduceGT, Int.reduceGE, Int.reduceEq, Int.reduceBEq, Int.reduceBNe, load_ptr, ldV_some, cellAt_cells, List.getElem?_cons_zero, List.getElem?_cons_succ, store_ptr, stO_some, setAt_0, setAt_1, setAt_2, setAt_3, setAt_4, setAt_5, setAt_6, setAt_7, setAt_8, setAt_9, setAt_10, setAt_11, setAt_12, cells_int, cells_bool, cells_str, cells_nils, cells_nilp, cells_ptr, cells_sl, cells_u8, cells_u16, cells_agg, get_upd_is, Option.isSome_some, upd_upd, ev1_nchkV, ev1_faV, nchkV_ptr, faV_ptr, ev1_extV, extV_tup, eqptr_nil, eqptr_ptr, Nat.zero_add, Nat.add_zero, qPL0, qPL1, qPL2, qPL3, qPL4, qPL5, beq_self_eq_true, qED0, qED1, placeR]
        exact ⟨_, _, rfl, rfl, by rw [show w0 - (i + 1) = w by omega], by rw [show w0 - (i + 1) = w by omega]; exact h3⟩
      · right
        have d2 : decide (((w + 1 : Nat) : Int) * F > 30) = false := decide_eq_false g2
        rw [if_neg (by omega)] at h3
        rw [h3]
        simp only [M42, M42r0, M42b0, E42, S42, ofC, Of5.cells, d1, d2, wm, h44, i64_mul, qES0, qES1, qES2, env0, List.length_cons, List.length_nil, Nat.reduceAdd, Nat.reduceSub, List.replicate, List.cons_append, List.nil_append, opd, Env.put, Env.at, List.set_cons_zero, List.set_cons_succ, List.getD_cons_zero, List.getD_cons_succ, freezeL, resVs, oneOr, Option.map_some, Option.map_none, List.map_cons, List.map_nil, if_true, if_false, Bool.not_true, Bool.not_false, Bool.false_eq_true, reduceIte, decide_true, decide_false, Int.reduceLT, Int.reduceLE, Int.reduceGT, Int.reduceGE, Int.reduceEq, Int.reduceBEq, Int.reduceBNe, load_ptr, ldV_some, cellAt_cells, List.getElem?_cons_zero, List.getElem?_cons_succ, store_ptr, stO_some, setAt_0, setAt_1, setAt_2, setAt_3, setAt_4, setAt_5, setAt_6, setAt_7, setAt_8, setAt_9, setAt_10, setAt_11, setAt_12, cells_int, cells_bool, cells_str, cells_nils, cells_nilp, cells_ptr, cells_sl, cells_u8, cells_u16, cells_agg, get_upd_is, Option.isSome_some, upd_upd, ev1_nchkV, ev1_faV, nchkV_ptr, faV_ptr, ev1_extV, extV_tup, eqptr_nil, eqptr_ptr, Nat.zero_add, Nat.add_zero, qPL0, qPL1, qPL2, qPL3, qPL4, qPL5, beq_self_eq_true, qED0, qED1, placeR]
        rw [drawR_ok]; case h => simp (config := { decide := true }) [calm, calmPair, calmTwo, List.range, List.range.loop, sameO_refl, plg0, plg1, plg2, plg3, plg4, plg5, plg6, plg7, plg8, plg9, plg10, plg11, plg12, plg13]
        simp only [d1, d2, wm, h44, i64_mul, qES0, qES1, qES2, env0, List.length_cons, List.length_nil, Nat.reduceAdd, Nat.reduceSub, List.replicate, List.cons_append, List.nil_append, opd, Env.put, Env.at, List.set_cons_zero, List.set_cons_succ, List.getD_cons_zero, List.getD_cons_succ, freezeL, resVs, oneOr, Option.map_some, Option.map_none, List.map_cons, List.map_nil, if_true, if_false, Bool.not_true, Bool.not_false, Bool.false_eq_true, reduceIte, decide_true, decide_false, Int.reduceLT, Int.reduceLE, Int.reduceGT, Int.reduceGE, Int.reduceEq, Int.reduceBEq, Int.reduceBNe, load_ptr, ldV_some, cellAt_cells, List.getElem?_cons_zero, List.getElem?_cons_succ, store_ptr, stO_some, setAt_0, setAt_1, setAt_2, setAt_3, setAt_4, setAt_5, setAt_6, setAt_7, setAt_8, setAt_9, setAt_10, setAt_11, setAt_12, cells_int, cells_bool, cells_str, cells_nils, cells_nilp, cells_ptr, cells_sl, cells_u8, cells_u16, cells_agg, get_upd_is, Option.isSome_some, upd_upd, ev1_nchkV, ev1_faV, nchkV_ptr, faV_ptr, ev1_extV, extV_tup, eqptr_nil, eqptr_ptr, Nat.zero_add, Nat.add_zero, qPL0, qPL1, qPL2, qPL3, qPL4, qPL5, beq_self_eq_true, qED0, qED1, placeR]
        exact ⟨by first | trivial | rfl, fun _ _ h => by cases h⟩
    · right
      have d1 : decide (((w + 1 : Nat) : Int) > 1) = false := decide_eq_false g1
      rw [if_neg (by omega)] at h3
      rw [h3]
      simp only [M42, M42r0, M42b0, E42, S42, ofC, Of5.cells, d1, wm, h44, i64_mul, qES0, qES1, qES2, env0, List.length_cons, List.length_nil, Nat.reduceAdd, Nat.reduceSub, List.replicate, List.cons_append, List.nil_append, opd, Env.put, Env.at, List.set_cons_zero, List.set_cons_succ, List.getD_cons_zero, List.getD_cons_succ, freezeL, resVs, oneOr, Option.map_some, Option.map_none, List.map_cons, List.map_nil, if_true, if_false, Bool.not_true, Bool.not_false, Bool.false_eq_true, reduceIte, decide_true, decide_false, Int.reduceLT, Int.reduceLE, Int.reduceGT, Int.reduceGE, Int.reduceEq, Int.reduceBEq, Int.reduceBNe, load_ptr, ldV_some, cellAt_cells, List.getElem?_cons_zero, List.getElem?_cons_succ, store_ptr, stO_some, setAt_0, setAt_1, setAt_2, setAt_3, setAt_4, setAt_5, setAt_6, setAt_7, setAt_8, setAt_9, setAt_10, setAt_11, setAt_12, cells_int, cells_bool, cells_str, cells_nils, cells_nilp, cells_ptr, cells_sl, cells_u8, cells_u16, cells_agg, get_upd_is, Option.isSome_some, upd_upd, ev1_nchkV, ev1_faV, nchkV_ptr, faV_ptr, ev1_extV, extV_tup, eqptr_nil, eqptr_ptr, Nat.zero_add, Nat.add_zero, qPL0, qPL1, qPL2, qPL3, qPL4, qPL5, beq_self_eq_true, qED0, qED1, placeR]
      rw [drawR_ok]; case h => simp (config := { decide := true }) [calm, calmPair, calmTwo, List.range, List.range.loop, sameO_refl, plg0, plg1, plg2, plg3, plg4, plg5, plg6, plg7, plg8, plg9, plg10, plg11, plg12, plg13]
      simp only [d1, wm, h44, i64_mul, qES0, qES1, qES2, env0, List.length_cons, List.length_nil, Nat.reduceAdd, Nat.reduceSub, List.replicate, List.cons_append, List.nil_append, opd, Env.put, Env.at, List.set_cons_zero, List.set_cons_succ, List.getD_cons_zero, List.getD_cons_succ, freezeL, resVs, oneOr, Option.map_some, Option.map_none, List.map_cons, List.map_nil, if_true, if_false, Bool.not_true, Bool.not_false, Bool.false_eq_true, reduceIte, decide_true, decide_false, Int.reduceLT, Int.reduceLE, Int.reduceGT, Int.reduceGE, Int.reduceEq, Int.reduceBEq, Int.reduceBNe, load_ptr, ldV_some, cellAt_cells, List.getElem?_cons_zero, List.getElem?_cons_succ, store_ptr, stO_some, setAt_0, setAt_1, setAt_2, setAt_3, setAt_4, setAt_5, setAt_6, setAt_7, setAt_8, setAt_9, setAt_10, setAt_11, setAt_12, cells_int, cells_bool, cells_str, cells_nils, cells_nilp, cells_ptr, cells_sl, cells_u8, cells_u16, cells_agg, get_upd_is, Option.isSome_some, upd_upd, ev1_nchkV, ev1_faV, nchkV_ptr, faV_ptr, ev1_extV, extV_tup, eqptr_nil, eqptr_ptr, Nat.zero_add, Nat.add_zero, qPL0, qPL1, qPL2, qPL3, qPL4, qPL5, beq_self_eq_true, qED0, qED1, placeR]
      exact ⟨by first | trivial | rfl, fun _ _ h => by cases h⟩
  · rintro e st ⟨h1, rfl, h3⟩
    rw [h1, Nat.sub_self]
    rw [Nat.sub_self] at h3
    have d1 : decide (((0 : Nat) : Int) > 1) = false := rfl
    rw [h3]
    simp only [M42, M42r0, M42b0, E42, S42, ofC, Of5.cells, d1, h44, i64_mul, qES0, qES1, qES2, env0, List.length_cons, List.length_nil, Nat.reduceAdd, Nat.reduceSub, List.replicate, List.cons_append, List.nil_append, opd, Env.put, Env.at, List.set_cons_zero, List.set_cons_succ, List.getD_cons_zero, List.getD_cons_succ, freezeL, resVs, oneOr, Option.map_some, Option.map_none, List.map_cons, List.map_nil, if_true, if_false, Bool.not_true, Bool.not_false, Bool.false_eq_true, reduceIte, decide_true, decide_false, Int.reduceLT, Int.reduceLE, Int.reduceGT, Int.reduceGE, Int.reduceEq, Int.reduceBEq, Int.reduceBNe, load_ptr, ldV_some, cellAt_cells, List.getElem?_cons_zero, List.getElem?_cons_succ, store_ptr, stO_some, setAt_0, setAt_1, setAt_2, setAt_3, setAt_4, setAt_5, setAt_6, setAt_7, setAt_8, setAt_9, setAt_10, setAt_11, setAt_12, cells_int, cells_bool, cells_str, cells_nils, cells_nilp, cells_ptr, cells_sl, cells_u8, cells_u16, cells_agg, get_upd_is, Option.isSome_some, upd_upd, ev1_nchkV, ev1_faV, nchkV_ptr, faV_ptr, ev1_extV, extV_tup, eqptr_nil, eqptr_ptr, Nat.zero_add, Nat.add_zero, qPL0, qPL1, qPL2, qPL3, qPL4, qPL5, beq_self_eq_true, qED0, qED1, placeR]
    rw [drawR_ok]; case h => simp (config := { decide := true }) [calm, calmPair, calmTwo, List.range, List.range.loop, sameO_refl, plg0, plg1, plg2, plg3, plg4, plg5, plg6, plg7, plg8, plg9, plg10, plg11, plg12, plg13]
    simp only [d1, h44, i64_mul, qES0, qES1, qES2, env0, List.length_cons, List.length_nil, Nat.reduceAdd, Nat.reduceSub, List.replicate, List.cons_append, List.nil_append, opd, Env.put, Env.at, List.set_cons_zero, List.set_cons_succ, List.getD_cons_zero, List.getD_cons_succ, freezeL, resVs, oneOr, Option.map_some, Option.map_none, List.map_cons, List.map_nil, if_true, if_false, Bool.not_true, Bool.not_false, Bool.false_eq_true, reduceIte, decide_true, decide_false, Int.reduceLT, Int.reduceLE, Int.reduceGT, Int.reduceGE, Int.reduceEq, Int.reduceBEq, Int.reduceBNe, load_ptr, ldV_some, cellAt_cells, List.getElem?_cons_zero, List.getElem?_cons_succ, store_ptr, stO_some, setAt_0, setAt_1, setAt_2, setAt_3, setAt_4, setAt_5, setAt_6, setAt_7, setAt_8, setAt_9, setAt_10, setAt_11, setAt_12, cells_int, cells_bool, cells_str, cells_nils, cells_nilp, cells_ptr, cells_sl, cells_u8, cells_u16, cells_agg, get_upd_is, Option.isSome_some, upd_upd, ev1_nchkV, ev1_faV, nchkV_ptr, faV_ptr, ev1_extV, extV_tup, eqptr_nil, eqptr_ptr, Nat.zero_add, Nat.add_zero, qPL0, qPL1, qPL2, qPL3, qPL4, qPL5, beq_self_eq_true, qED0, qED1, placeR]
    exact ⟨by first | trivial | rfl, fun _ _ h => by cases h⟩
theorem deal_val (m o : Of5) : valR (evA 1000 42 [.agg m.cells, .agg o.cells] St.nil) = some (if m.may ∧ o.may then .tup [.agg (dealO m o).cells, .bool true] else .tup [.agg (ofC 0 0 0 0 0), .bool false]) := by
  rw [show (1000 : Nat) = 999 + 1 from rfl, evA_in rfl tab42, show St.nil = St.nil.pl [] from rfl]
  have hm := p25 998 m
  have ho := p25 998 o
  obtain ⟨mb, ms, mw, mz, mt⟩ := m
  obtain ⟨ob, os, ow, oz, ot⟩ := o
  by_cases gm : Of5.may ⟨mb, ms, mw, mz, mt⟩
  · rw [decide_eq_true gm] at hm
    by_cases go : Of5.may ⟨ob, os, ow, oz, ot⟩
    · rw [decide_eq_true go] at ho
      rw [if_pos ⟨gm, go⟩]
      have gm' : mayP mb ms mw mz mt := gm
      have go' : mayP ob os ow oz ot := go
      unfold mayP at gm' go'
      have a1 := and_nn mb ob (by omega) (by omega) (by omega) (by omega)
      have a2 := and_nn ms os (by omega) (by omega) (by omega) (by omega)
      have hw := high_at ow (by omega) (by omega)
      have w1 : IntKind.i64.wrap (highZ ow + 1) = ((highZ ow + 1).toNat : Int) := (wrapI _ (by omega) (by omega)).trans (by omega)
      have q26 := p26 998
      have q28 := p28 998
      have q30 := p30 998
      have q32 := p32 998
      have q34 := p34 998
      have hl := deal_loop 980 ⟨mb, ms, mw, mz, mt⟩ ⟨ob, os, ow, oz, ot⟩ (baudZ (highZ (andZ mb ob))) (silentZ (lowZ (andZ ms os))) (sizeZ (highZ oz)) (lowZ ot) (highZ ow + 1).toNat (by omega) _ _ rfl rfl .undef
      simp only [Of5.cells, ofC] at hm ho
      simp only [M42, Of5.cells, ofC, hm, ho, a1, a2, w1, q26, q28, q30, q32, q34, evC_loop, qES0, qES1, qES2, env0, List.length_cons, List.length_nil, Nat.reduceAdd, Nat.reduceSub, List.replicate, List.cons_append, List.nil_append, opd, Env.put, Env.at, List.set_cons_zero, List.set_cons_succ, List.getD_cons_zero, List.getD_cons_succ, freezeL, resVs, oneOr, Option.map_some, Option.map_none, List.map_cons, List.map_nil, if_true, if_false, Bool.not_true, Bool.not_false, Bool.false_eq_true, reduceIte, decide_true, decide_false, Int.reduceLT, Int.reduceLE, Int.reduceGT, Int.reduceGE, Int.reduceEq, Int.reduceBEq, Int.reduceBNe, load_ptr, ldV_some, cellAt_cells, List.getElem?_cons_zero, List.getElem?_cons_succ, store_ptr, stO_some, setAt_0, setAt_1, setAt_2, setAt_3, setAt_4, setAt_5, setAt_6, setAt_7, setAt_8, setAt_9, setAt_10, setAt_11, setAt_12, cells_int, cells_bool, cells_str, cells_nils, cells_nilp, cells_ptr, cells_sl, cells_u8, cells_u16, cells_agg, get_upd_is, Option.isSome_some, upd_upd, ev1_nchkV, ev1_faV, nchkV_ptr, faV_ptr, ev1_extV, extV_tup, eqptr_nil, eqptr_ptr, Nat.zero_add, Nat.add_zero, qPL0, qPL1, qPL2, qPL3, qPL4, qPL5, beq_self_eq_true, qED0, qED1, placeR]
      rw [drawR_ok]; case h => simp (config := { decide := true }) [calm, calmPair, calmTwo, List.range, List.range.loop, sameO_refl, plg0, plg1, plg2, plg3, plg4, plg5, plg6, plg7, plg8, plg9, plg10, plg11, plg12, plg13]
      simp only [hm, ho, a1, a2, w1, q26, q28, q30, q32, q34, evC_loop, qES0, qES1, qES2, env0, List.length_cons, List.length_nil, Nat.reduceAdd, Nat.reduceSub, List.replicate, List.cons_append, List.nil_append, opd, Env.put, Env.at, List.set_cons_zero, List.set_cons_succ, List.getD_cons_zero, List.getD_cons_succ, freezeL, resVs, oneOr, Option.map_some, Option.map_none, List.map_cons, List.map_nil, if_true, if_false, Bool.not_true, Bool.not_false, Bool.false_eq_true, reduceIte, decide_true, decide_false, Int.reduceLT, Int.reduceLE, Int.reduceGT, Int.reduceGE, Int.reduceEq, Int.reduceBEq, Int.reduceBNe, load_ptr, ldV_some, cellAt_cells, List.getElem?_cons_zero, List.getElem?_cons_succ, store_ptr, stO_some, setAt_0, setAt_1, setAt_2, setAt_3, setAt_4, setAt_5, setAt_6, setAt_7, setAt_8, setAt_9, setAt_10, setAt_11, setAt_12, cells_int, cells_bool, cells_str, cells_nils, cells_nilp, cells_ptr, cells_sl, cells_u8, cells_u16, cells_agg, get_upd_is, Option.isSome_some, upd_upd, ev1_nchkV, ev1_faV, nchkV_ptr, faV_ptr, ev1_extV, extV_tup, eqptr_nil, eqptr_ptr, Nat.zero_add, Nat.add_zero, qPL0, qPL1, qPL2, qPL3, qPL4, qPL5, beq_self_eq_true, qED0, qED1, placeR]
      exact Eq.trans (congrArg (fun x => valR (outR _ (seqR (blockR 0 x) _))) (iter_mask _ _ _ _ E42 _ rfl)) hl
    · rw [decide_eq_false go] at ho
      rw [if_neg (fun h => go h.2)]
      simp only [Of5.cells, ofC] at hm ho
      simp only [M42, Of5.cells, ofC, hm, ho, ev1_build, fill_nil, qES0, qES1, qES2, env0, List.length_cons, List.length_nil, Nat.reduceAdd, Nat.reduceSub, List.replicate, List.cons_append, List.nil_append, opd, Env.put, Env.at, List.set_cons_zero, List.set_cons_succ, List.getD_cons_zero, List.getD_cons_succ, freezeL, resVs, oneOr, Option.map_some, Option.map_none, List.map_cons, List.map_nil, if_true, if_false, Bool.not_true, Bool.not_false, Bool.false_eq_true, reduceIte, decide_true, decide_false, Int.reduceLT, Int.reduceLE, Int.reduceGT, Int.reduceGE, Int.reduceEq, Int.reduceBEq, Int.reduceBNe, load_ptr, ldV_some, cellAt_cells, List.getElem?_cons_zero, List.getElem?_cons_succ, store_ptr, stO_some, setAt_0, setAt_1, setAt_2, setAt_3, setAt_4, setAt_5, setAt_6, setAt_7, setAt_8, setAt_9, setAt_10, setAt_11, setAt_12, cells_int, cells_bool, cells_str, cells_nils, cells_nilp, cells_ptr, cells_sl, cells_u8, cells_u16, cells_agg, get_upd_is, Option.isSome_some, upd_upd, ev1_nchkV, ev1_faV, nchkV_ptr, faV_ptr, ev1_extV, extV_tup, eqptr_nil, eqptr_ptr, Nat.zero_add, Nat.add_zero, qPL0, qPL1, qPL2, qPL3, qPL4, qPL5, beq_self_eq_true, qED0, qED1, placeR]
  · rw [decide_eq_false gm] at hm
    rw [if_neg (fun h => gm h.1)]
    simp only [Of5.cells, ofC] at hm ho
    simp only [M42, Of5.cells, ofC, hm, ev1_build, fill_nil, qES0, qES1, qES2, env0, List.length_cons, List.length_nil, Nat.reduceAdd, Nat.reduceSub, List.replicate, List.cons_append, List.nil_append, opd, Env.put, Env.at, List.set_cons_zero, List.set_cons_succ, List.getD_cons_zero, List.getD_cons_succ, freezeL, resVs, oneOr, Option.map_some, Option.map_none, List.map_cons, List.map_nil, if_true, if_false, Bool.not_true, Bool.not_false, Bool.false_eq_true, reduceIte, decide_true, decide_false, Int.reduceLT, Int.reduceLE, Int.reduceGT, Int.reduceGE, Int.reduceEq, Int.reduceBEq, Int.reduceBNe, load_ptr, ldV_some, cellAt_cells, List.getElem?_cons_zero, List.getElem?_cons_succ, store_ptr, stO_some, setAt_0, setAt_1, setAt_2, setAt_3, setAt_4, setAt_5, setAt_6, setAt_7, setAt_8, setAt_9, setAt_10, setAt_11, setAt_12, cells_int, cells_bool, cells_str, cells_nils, cells_nilp, cells_ptr, cells_sl, cells_u8, cells_u16, cells_agg, get_upd_is, Option.isSome_some, upd_upd, ev1_nchkV, ev1_faV, nchkV_ptr, faV_ptr, ev1_extV, extV_tup, eqptr_nil, eqptr_ptr, Nat.zero_add, Nat.add_zero, qPL0, qPL1, qPL2, qPL3, qPL4, qPL5, beq_self_eq_true, qED0, qED1, placeR]
end Go.Proofs.YtbeimfhodgmjhaaDoor
/- The document's Deal, as the evaluator answers it. No conditions. -/
set_option linter.unusedSimpArgs false
set_option linter.unusedVariables false
set_option maxRecDepth 100000
set_option maxHeartbeats 4000000
namespace Go.Proofs.YtbeimfhodgmjhaaDoor
open Go Go.Ab
def bAcc (t : Nat → Bool) : Nat → Int
  | 0 => 0
  | i + 1 => if t i = true then baudZ ((i : Nat) : Int) else bAcc t i
def sAcc (t : Nat → Bool) : Nat → Int
  | 0 => 0
  | i + 1 => if t (2 - i) = true then silentZ ((2 - i : Nat) : Int) else sAcc t i
def wAcc (F : Int) : Nat → Int
  | 0 => 1
  | i + 1 => if ((i + 1 : Nat) : Int) * F ≤ 30 then ((i + 1 : Nat) : Int) else wAcc F i
theorem wAcc_eq (F : Int) : ∀ n, 1 ≤ n → wAcc F n = winZ F n := by
  intro n
  induction n with
  | zero => intro h; omega
  | succ n ih =>
    intro _
    unfold wAcc winZ
    by_cases h : n = 0
    · subst h
      rw [if_neg (show ¬ (((0 + 1 : Nat) : Int) > 1 ∧ ((0 + 1 : Nat) : Int) * F > 30) by omega)]
      unfold wAcc
      split <;> rfl
    · by_cases g : ((n + 1 : Nat) : Int) * F ≤ 30
      · rw [if_pos g, if_neg (by omega)]
      · rw [if_neg g, if_pos (by omega), ih (by omega)]
theorem b_chk : ((List.range 16).all fun a => (List.range 16).all fun b => decide (bAcc (fun i => tbit (a : Int) i && tbit (b : Int) i) 4 = baudZ (highZ (andZ a b)))) = true := by kernel_rfl
theorem s_chk : ((List.range 8).all fun a => (List.range 8).all fun b => decide (sAcc (fun i => tbit (a : Int) i && tbit (b : Int) i) 3 = silentZ (lowZ (andZ a b)))) = true := by kernel_rfl
theorem b_at (a b : Int) (h0 : 0 ≤ a) (h1 : a < 16) (g0 : 0 ≤ b) (g1 : b < 16) : bAcc (fun i => tbit a i && tbit b i) 4 = baudZ (highZ (andZ a b)) := by
  have h := of_decide_eq_true (List.all_eq_true.1 (List.all_eq_true.1 b_chk a.toNat (List.mem_range.2 (by omega))) b.toNat (List.mem_range.2 (by omega)))
  rw [Int.toNat_of_nonneg h0, Int.toNat_of_nonneg g0] at h
  exact h
theorem s_at (a b : Int) (h0 : 0 ≤ a) (h1 : a < 8) (g0 : 0 ≤ b) (g1 : b < 8) : sAcc (fun i => tbit a i && tbit b i) 3 = silentZ (lowZ (andZ a b)) := by
  have h := of_decide_eq_true (List.all_eq_true.1 (List.all_eq_true.1 s_chk a.toNat (List.mem_range.2 (by omega))) b.toNat (List.mem_range.2 (by omega)))
  rw [Int.toNat_of_nonneg h0, Int.toNat_of_nonneg g0] at h
  exact h
def E43c (w : Int) : Env := [.undef, .undef, .undef, .ptr (St.nil.next + 1) 0, .ptr (St.nil.next + 2) 0, .undef, .ptr (St.nil.next + 3) 0, .undef, .undef, .int .i64 w, .undef, .undef, .undef, .undef, .undef, .undef, .undef, .undef, .undef, .undef, .undef, .undef, .undef, .undef, .undef, .undef, .undef, .undef, .undef, .undef, .undef, .undef, .undef, .undef, .undef, .undef, .undef, .undef, .undef, .undef, .undef, .undef, .undef, .undef, .undef, .undef, .undef, .undef, .undef, .undef, .undef, .undef, .undef, .undef, .undef, .undef, .undef, .undef, .undef, .undef, .undef, .undef, .undef, .undef, .undef, .undef, .undef, .undef, .undef, .undef, .undef, .undef, .undef, .undef, .undef, .undef, .undef, .undef, .undef, .undef]
def E43b (j : Int) : Env := [.undef, .undef, .ptr St.nil.next 0, .ptr (St.nil.next + 1) 0, .ptr (St.nil.next + 2) 0, .undef, .ptr (St.nil.next + 3) 0, .undef, .int .i64 j, .undef, .undef, .undef, .undef, .undef, .undef, .undef, .undef, .undef, .undef, .undef, .undef, .undef, .undef, .undef, .undef, .undef, .undef, .undef, .undef, .undef, .undef, .undef, .undef, .undef, .undef, .undef, .undef, .undef, .undef, .undef, .undef, .undef, .undef, .undef, .undef, .undef, .undef, .undef, .undef, .undef, .undef, .undef, .undef, .undef, .undef, .undef, .undef, .undef, .undef, .undef, .undef, .undef, .undef, .undef, .undef, .undef, .undef, .undef, .undef, .undef, .undef, .undef, .undef, .undef, .undef, .undef, .undef, .undef, .undef, .undef]
def E43a (j : Int) : Env := [.undef, .undef, .ptr St.nil.next 0, .ptr (St.nil.next + 1) 0, .ptr (St.nil.next + 2) 0, .undef, .ptr (St.nil.next + 3) 0, .int .i64 j, .undef, .undef, .undef, .undef, .undef, .undef, .undef, .undef, .undef, .undef, .undef, .undef, .undef, .undef, .undef, .undef, .undef, .undef, .undef, .undef, .undef, .undef, .undef, .undef, .undef, .undef, .undef, .undef, .undef, .undef, .undef, .undef, .undef, .undef, .undef, .undef, .undef, .undef, .undef, .undef, .undef, .undef, .undef, .undef, .undef, .undef, .undef, .undef, .undef, .undef, .undef, .undef, .undef, .undef, .undef, .undef, .undef, .undef, .undef, .undef, .undef, .undef, .undef, .undef, .undef, .undef, .undef, .undef, .undef, .undef, .undef, .undef]
section
variable (k : Nat) (m o : Of5) (b s z t : Int) (N : Nat) (i j : Int)
theorem rdeal_c (hN : highZ o.w + 1 = (N : Int)) (hN7 : N ≤ 7) (hz : z = sizeZ i) (hb : b = baudZ j) :
    valR (outR M43.res (seqR (blockR 4 (iter (evC tabGl (evA (k + 19)) (k + 19) M43b0) M43b0l (k + 19) (E43c 1) (S42 m o .undef ⟨b, s, 1, z, t⟩))) (evC tabGl (evA (k + 19)) (k + 19) M43r0))) = some (.tup [.agg (ofC b s (wAcc (frameZ z b) N) z t), .bool true]) := by
  have hf := frame_le i j
  rw [← hz, ← hb] at hf
  have h45 := p45 (k + 18) z b ⟨by rw [hz]; exact (size_le i).1, by rw [hz]; have := (size_le i).2; omega⟩
  obtain ⟨F, hF⟩ : ∃ F, frameZ z b = F := ⟨_, rfl⟩
  rw [hF] at h45 hf ⊢
  have h27 := p27 (k + 18) o.w
  have wN : IntKind.i64.wrap (highZ o.w + 1) = (N : Int) := (wrapI _ (by omega) (by omega)).trans hN
  refine iter_leave (evC tabGl (evA (k + 19)) (k + 19) M43b0) M43b0l (fun i e st => maskE M43b0l e = E43c ((i + 1 : Nat) : Int) ∧ st = S42 m o .undef ⟨b, s, wAcc F i, z, t⟩)
    (fun out => valR (outR M43.res (seqR (blockR 4 out) (evC tabGl (evA (k + 19)) (k + 19) M43r0))) = some (.tup [.agg (ofC b s (wAcc F N) z t), .bool true])) N ?_ ?_ N 0 _ _ (k + 19) (by omega) ⟨rfl, rfl⟩ (by omega)
  · rintro i e st hi ⟨h1, rfl⟩
    rw [h1]
    have wm : IntKind.i64.wrap (((i + 1 : Nat) : Int) * F) = ((i + 1 : Nat) : Int) * F := by
      obtain ⟨f, rfl⟩ : ∃ f : Nat, F = f := ⟨F.toNat, by omega⟩
      have : (i + 1) * f ≤ 7 * 1000 := Nat.mul_le_mul (by omega) (by omega)
      refine wrapI _ ?_ ?_
      · have : (0 : Int) ≤ (((i + 1) * f : Nat) : Int) := Int.natCast_nonneg _
        rw [Int.natCast_mul] at this; omega
      · have : (((i + 1) * f : Nat) : Int) ≤ 7000 := by omega
        rw [Int.natCast_mul] at this; omega
    have w2 : IntKind.i64.wrap (((i + 1 : Nat) : Int) + 1) = ((i + 1 + 1 : Nat) : Int) := (wrapI _ (by omega) (by omega)).trans (by omega)
    have d1 : decide (((i + 1 : Nat) : Int) ≤ (N : Int)) = true := decide_eq_true (by omega)
    left
    by_cases g : ((i + 1 : Nat) : Int) * F ≤ 30
    · have d2 : decide (((i + 1 : Nat) : Int) * F ≤ 30) = true := decide_eq_true g
      simp only [M43b0, E43c, S42, ofC, Of5.cells, h27, wN, d1, d2, wm, w2, h45, i64_mul, qES0, qES1, qES2, env0, List.length_cons, List.length_nil, Nat.reduceAdd, Nat.reduceSub, List.replicate, List.cons_append, List.nil_append, opd, Env.put, Env.at, List.set_cons_zero, List.set_cons_succ, List.getD_cons_zero, List.getD_cons_succ, freezeL, resVs, oneOr, Option.map_some, Option.map_none, List.map_cons, List.map_nil, if_true, if_false, Bool.not_true, Bool.not_false, Bool.false_eq_true, reduceIte, decide_true, decide_false, Int.reduceLT, Int.reduceLE, Int.reduceGT, Int.reduceGE, Int.reduceEq, Int.reduceBEq, Int.reduceBNe, load_ptr, ldV_some, cellAt_cells, List.getElem?_cons_zero, List.getElem?_cons_succ, store_ptr, stO_some, setAt_0, setAt_1, setAt_2, setAt_3, setAt_4, setAt_5, setAt_6, setAt_7, setAt_8, setAt_9, setAt_10, setAt_11, setAt_12, cells_int, cells_bool, cells_str, cells_nils, cells_nilp, cells_ptr, cells_sl, cells_u8, cells_u16, cells_agg, get_upd_is, Option.isSome_some, upd_upd, ev1_nchkV, ev1_faV, nchkV_ptr, faV_ptr, ev1_extV, extV_tup, eqptr_nil, eqptr_ptr, Nat.zero_add, Nat.add_zero, qPL0, qPL1, qPL2, qPL3, qPL4, qPL5, beq_self_eq_true]
      refine ⟨_, _, rfl, rfl, ?_⟩
      unfold wAcc
      rw [if_pos g]
    · have d2 : decide (((i + 1 : Nat) : Int) * F ≤ 30) = false := decide_eq_false g
      simp only [M43b0, E43c, S42, ofC, Of5.cells, h27, wN, d1, d2, wm, w2, h45, i64_mul, qES0, qES1, qES2, env0, List.length_cons, List.length_nil, Nat.reduceAdd, Nat.reduceSub, List.replicate, List.cons_append, List.nil_append, opd, Env.put, Env.at, List.set_cons_zero, List.set_cons_succ, List.getD_cons_zero, List.getD_cons_succ, freezeL, resVs, oneOr, Option.map_some, Option.map_none, List.map_cons, List.map_nil, if_true, if_false, Bool.not_true, Bool.not_false, Bool.false_eq_true, reduceIte, decide_true, decide_false, Int.reduceLT, Int.reduceLE, Int.reduceGT, Int.reduceGE, Int.reduceEq, Int.reduceBEq, Int.reduceBNe, load_ptr, ldV_some, cellAt_cells, List.getElem?_cons_zero, List.getElem?_cons_succ, store_ptr, stO_some, setAt_0, setAt_1, setAt_2, setAt_3, setAt_4, setAt_5, setAt_6, setAt_7, setAt_8, setAt_9, setAt_10, setAt_11, setAt_12, cells_int, cells_bool, cells_str, cells_nils, cells_nilp, cells_ptr, cells_sl, cells_u8, cells_u16, cells_agg, get_upd_is, Option.isSome_some, upd_upd, ev1_nchkV, ev1_faV, nchkV_ptr, faV_ptr, ev1_extV, extV_tup, eqptr_nil, eqptr_ptr, Nat.zero_add, Nat.add_zero, qPL0, qPL1, qPL2, qPL3, qPL4, qPL5, beq_self_eq_true]
      refine ⟨_, _, rfl, rfl, ?_⟩
      rw [show wAcc F (i + 1) = wAcc F i by show (if ((i + 1 : Nat) : Int) * F ≤ 30 then ((i + 1 : Nat) : Int) else wAcc F i) = _; rw [if_neg g]]
  · rintro e st ⟨h1, rfl⟩
    rw [h1]
    have d1 : decide (((N + 1 : Nat) : Int) ≤ (N : Int)) = false := decide_eq_false (by omega)
    simp only [M43, M43r0, M43b0, E43c, S42, ofC, Of5.cells, h27, wN, d1, i64_mul, qES0, qES1, qES2, env0, List.length_cons, List.length_nil, Nat.reduceAdd, Nat.reduceSub, List.replicate, List.cons_append, List.nil_append, opd, Env.put, Env.at, List.set_cons_zero, List.set_cons_succ, List.getD_cons_zero, List.getD_cons_succ, freezeL, resVs, oneOr, Option.map_some, Option.map_none, List.map_cons, List.map_nil, if_true, if_false, Bool.not_true, Bool.not_false, Bool.false_eq_true, reduceIte, decide_true, decide_false, Int.reduceLT, Int.reduceLE, Int.reduceGT, Int.reduceGE, Int.reduceEq, Int.reduceBEq, Int.reduceBNe, load_ptr, ldV_some, cellAt_cells, List.getElem?_cons_zero, List.getElem?_cons_succ, store_ptr, stO_some, setAt_0, setAt_1, setAt_2, setAt_3, setAt_4, setAt_5, setAt_6, setAt_7, setAt_8, setAt_9, setAt_10, setAt_11, setAt_12, cells_int, cells_bool, cells_str, cells_nils, cells_nilp, cells_ptr, cells_sl, cells_u8, cells_u16, cells_agg, get_upd_is, Option.isSome_some, upd_upd, ev1_nchkV, ev1_faV, nchkV_ptr, faV_ptr, ev1_extV, extV_tup, eqptr_nil, eqptr_ptr, Nat.zero_add, Nat.add_zero, qPL0, qPL1, qPL2, qPL3, qPL4, qPL5, beq_self_eq_true]
    exact ⟨by first | trivial | rfl, fun _ _ h => by cases h⟩
theorem rdeal_b (hN : highZ o.w + 1 = (N : Int)) (hN7 : N ≤ 7) (hz : z = sizeZ i) (hb : b = baudZ j) :
    valR (outR M43.res (seqR (blockR 2 (iter (evC tabGl (evA (k + 19)) (k + 19) M43b1) M43b1l (k + 19) (E43b 2) (S42 m o .undef ⟨b, 0, 1, z, t⟩))) (evC tabGl (evA (k + 19)) (k + 19) M43r1))) = some (.tup [.agg (ofC b (sAcc (fun i => tbit m.s i && tbit o.s i) 3) (wAcc (frameZ z b) N) z t), .bool true]) := by
  have hc := rdeal_c k m o b (sAcc (fun i => tbit m.s i && tbit o.s i) 3) z t N i j hN hN7 hz hb
  refine iter_leave (evC tabGl (evA (k + 19)) (k + 19) M43b1) M43b1l (fun i e st => maskE M43b1l e = E43b (2 - (i : Int)) ∧ st = S42 m o .undef ⟨b, sAcc (fun i => tbit m.s i && tbit o.s i) i, 1, z, t⟩)
    (fun out => valR (outR M43.res (seqR (blockR 2 out) (evC tabGl (evA (k + 19)) (k + 19) M43r1))) = some (.tup [.agg (ofC b (sAcc (fun i => tbit m.s i && tbit o.s i) 3) (wAcc (frameZ z b) N) z t), .bool true])) 3 ?_ ?_ 3 0 _ _ (k + 19) (by omega) ⟨rfl, rfl⟩ (by omega)
  · rintro i e st hi ⟨h1, rfl⟩
    rw [h1]
    obtain ⟨l, hl⟩ : ∃ l : Nat, 2 - i = l := ⟨_, rfl⟩
    have hl2 : 2 - (i : Int) = (l : Int) := by omega
    have h64 := p64 (k + 18) m.s l (by omega)
    have h64' := p64 (k + 18) o.s l (by omega)
    have h33 := p33 (k + 18) (l : Int)
    have w2 : IntKind.i64.wrap ((l : Int) - 1) = 2 - ((i + 1 : Nat) : Int) := (wrapI _ (by omega) (by omega)).trans (by omega)
    have d1 : decide ((l : Int) ≥ 0) = true := decide_eq_true (by omega)
    have hs : sAcc (fun i => tbit m.s i && tbit o.s i) (i + 1) = if (tbit m.s l && tbit o.s l) = true then silentZ (l : Int) else sAcc (fun i => tbit m.s i && tbit o.s i) i := by
      rw [← hl]; rfl
    rw [hl2, hs]
    left
    cases ht : tbit m.s l <;> cases hu : tbit o.s l <;> rw [ht] at h64 <;> rw [hu] at h64' <;>
      (simp only [M43b1, E43b, S42, ofC, Of5.cells, h64, h64', h33, d1, w2, Bool.and_self, Bool.and_false, Bool.and_true, Bool.false_and, qES0, qES1, qES2, env0, List.length_cons, List.length_nil, Nat.reduceAdd, Nat.reduceSub, List.replicate, List.cons_append, List.nil_append, opd, Env.put, Env.at, List.set_cons_zero, List.set_cons_succ, List.getD_cons_zero, List.getD_cons_succ, freezeL, resVs, oneOr, Option.map_some, Option.map_none, List.map_cons, List.map_nil, if_true, if_false, Bool.not_true, Bool.not_false, Bool.false_eq_true, reduceIte, decide_true, decide_false, Int.reduceLT, Int.reduceLE, Int.reduceGT, Int.reduceGE, Int.reduceEq, Int.reduceBEq, Int.reduceBNe, load_ptr, ldV_some, cellAt_cells, List.getElem?_cons_zero, List.getElem?_cons_succ, store_ptr, stO_some, setAt_0, setAt_1, setAt_2, setAt_3, setAt_4, setAt_5, setAt_6, setAt_7, setAt_8, setAt_9, setAt_10, setAt_11, setAt_12, cells_int, cells_bool, cells_str, cells_nils, cells_nilp, cells_ptr, cells_sl, cells_u8, cells_u16, cells_agg, get_upd_is, Option.isSome_some, upd_upd, ev1_nchkV, ev1_faV, nchkV_ptr, faV_ptr, ev1_extV, extV_tup, eqptr_nil, eqptr_ptr, Nat.zero_add, Nat.add_zero, qPL0, qPL1, qPL2, qPL3, qPL4, qPL5, beq_self_eq_true]; exact ⟨_, _, rfl, rfl, rfl⟩)
  · rintro e st ⟨h1, rfl⟩
    rw [h1]
    have d1 : decide (2 - ((3 : Nat) : Int) ≥ 0) = false := rfl
    simp only [M43r1, M43b1, E43b, S42, ofC, Of5.cells, d1, evC_loop, qES0, qES1, qES2, env0, List.length_cons, List.length_nil, Nat.reduceAdd, Nat.reduceSub, List.replicate, List.cons_append, List.nil_append, opd, Env.put, Env.at, List.set_cons_zero, List.set_cons_succ, List.getD_cons_zero, List.getD_cons_succ, freezeL, resVs, oneOr, Option.map_some, Option.map_none, List.map_cons, List.map_nil, if_true, if_false, Bool.not_true, Bool.not_false, Bool.false_eq_true, reduceIte, decide_true, decide_false, Int.reduceLT, Int.reduceLE, Int.reduceGT, Int.reduceGE, Int.reduceEq, Int.reduceBEq, Int.reduceBNe, load_ptr, ldV_some, cellAt_cells, List.getElem?_cons_zero, List.getElem?_cons_succ, store_ptr, stO_some, setAt_0, setAt_1, setAt_2, setAt_3, setAt_4, setAt_5, setAt_6, setAt_7, setAt_8, setAt_9, setAt_10, setAt_11, setAt_12, cells_int, cells_bool, cells_str, cells_nils, cells_nilp, cells_ptr, cells_sl, cells_u8, cells_u16, cells_agg, get_upd_is, Option.isSome_some, upd_upd, ev1_nchkV, ev1_faV, nchkV_ptr, faV_ptr, ev1_extV, extV_tup, eqptr_nil, eqptr_ptr, Nat.zero_add, Nat.add_zero, qPL0, qPL1, qPL2, qPL3, qPL4, qPL5, beq_self_eq_true]
    refine ⟨?_, fun _ _ h => by cases h⟩
    exact Eq.trans (congrArg (fun x => valR (outR _ (seqR (blockR 4 x) _))) (iter_mask _ _ _ _ (E43c 1) _ rfl)) hc
theorem rdeal_a (hN : highZ o.w + 1 = (N : Int)) (hN7 : N ≤ 7) (hz : z = sizeZ i) (hb : bAcc (fun i => tbit m.b i && tbit o.b i) 4 = baudZ j) :
    valR (outR M43.res (seqR (blockR 0 (iter (evC tabGl (evA (k + 19)) (k + 19) M43b2) M43b2l (k + 19) (E43a 0) (S42 m o .undef ⟨0, 0, 1, z, t⟩))) (evC tabGl (evA (k + 19)) (k + 19) M43r2))) = some (.tup [.agg (ofC (bAcc (fun i => tbit m.b i && tbit o.b i) 4) (sAcc (fun i => tbit m.s i && tbit o.s i) 3) (wAcc (frameZ z (bAcc (fun i => tbit m.b i && tbit o.b i) 4)) N) z t), .bool true]) := by
  have hc := rdeal_b k m o (bAcc (fun i => tbit m.b i && tbit o.b i) 4) z t N i j hN hN7 hz hb
  refine iter_leave (evC tabGl (evA (k + 19)) (k + 19) M43b2) M43b2l (fun i e st => maskE M43b2l e = E43a (i : Int) ∧ st = S42 m o .undef ⟨bAcc (fun i => tbit m.b i && tbit o.b i) i, 0, 1, z, t⟩)
    (fun out => valR (outR M43.res (seqR (blockR 0 out) (evC tabGl (evA (k + 19)) (k + 19) M43r2))) = some (.tup [.agg (ofC (bAcc (fun i => tbit m.b i && tbit o.b i) 4) (sAcc (fun i => tbit m.s i && tbit o.s i) 3) (wAcc (frameZ z (bAcc (fun i => tbit m.b i && tbit o.b i) 4)) N) z t), .bool true])) 4 ?_ ?_ 4 0 _ _ (k + 19) (by omega) ⟨rfl, rfl⟩ (by omega)
  · rintro i e st hi ⟨h1, rfl⟩
    rw [h1]
    have h64 := p64 (k + 18) m.b i (by omega)
    have h64' := p64 (k + 18) o.b i (by omega)
    have h31 := p31 (k + 18) (i : Int)
    have w2 : IntKind.i64.wrap ((i : Int) + 1) = ((i + 1 : Nat) : Int) := (wrapI _ (by omega) (by omega)).trans (by omega)
    have d1 : decide ((i : Int) < 4) = true := decide_eq_true (by omega)
    have hs : bAcc (fun i => tbit m.b i && tbit o.b i) (i + 1) = if (tbit m.b i && tbit o.b i) = true then baudZ (i : Int) else bAcc (fun i => tbit m.b i && tbit o.b i) i := rfl
    rw [hs]
    left
    cases ht : tbit m.b i <;> cases hu : tbit o.b i <;> rw [ht] at h64 <;> rw [hu] at h64' <;>
      (simp only [M43b2, E43a, S42, ofC, Of5.cells, h64, h64', h31, d1, w2, Bool.and_self, Bool.and_false, Bool.and_true, Bool.false_and, qES0, qES1, qES2, env0, List.length_cons, List.length_nil, Nat.reduceAdd, Nat.reduceSub, List.replicate, List.cons_append, List.nil_append, opd, Env.put, Env.at, List.set_cons_zero, List.set_cons_succ, List.getD_cons_zero, List.getD_cons_succ, freezeL, resVs, oneOr, Option.map_some, Option.map_none, List.map_cons, List.map_nil, if_true, if_false, Bool.not_true, Bool.not_false, Bool.false_eq_true, reduceIte, decide_true, decide_false, Int.reduceLT, Int.reduceLE, Int.reduceGT, Int.reduceGE, Int.reduceEq, Int.reduceBEq, Int.reduceBNe, load_ptr, ldV_some, cellAt_cells, List.getElem?_cons_zero, List.getElem?_cons_succ, store_ptr, stO_some, setAt_0, setAt_1, setAt_2, setAt_3, setAt_4, setAt_5, setAt_6, setAt_7, setAt_8, setAt_9, setAt_10, setAt_11, setAt_12, cells_int, cells_bool, cells_str, cells_nils, cells_nilp, cells_ptr, cells_sl, cells_u8, cells_u16, cells_agg, get_upd_is, Option.isSome_some, upd_upd, ev1_nchkV, ev1_faV, nchkV_ptr, faV_ptr, ev1_extV, extV_tup, eqptr_nil, eqptr_ptr, Nat.zero_add, Nat.add_zero, qPL0, qPL1, qPL2, qPL3, qPL4, qPL5, beq_self_eq_true]; exact ⟨_, _, rfl, rfl, rfl⟩)
  · rintro e st ⟨h1, rfl⟩
    rw [h1]
    have d1 : decide (((4 : Nat) : Int) < 4) = false := rfl
    simp only [M43r2, M43b2, E43a, S42, ofC, Of5.cells, d1, evC_loop, qES0, qES1, qES2, env0, List.length_cons, List.length_nil, Nat.reduceAdd, Nat.reduceSub, List.replicate, List.cons_append, List.nil_append, opd, Env.put, Env.at, List.set_cons_zero, List.set_cons_succ, List.getD_cons_zero, List.getD_cons_succ, freezeL, resVs, oneOr, Option.map_some, Option.map_none, List.map_cons, List.map_nil, if_true, if_false, Bool.not_true, Bool.not_false, Bool.false_eq_true, reduceIte, decide_true, decide_false, Int.reduceLT, Int.reduceLE, Int.reduceGT, Int.reduceGE, Int.reduceEq, Int.reduceBEq, Int.reduceBNe, load_ptr, ldV_some, cellAt_cells, List.getElem?_cons_zero, List.getElem?_cons_succ, store_ptr, stO_some, setAt_0, setAt_1, setAt_2, setAt_3, setAt_4, setAt_5, setAt_6, setAt_7, setAt_8, setAt_9, setAt_10, setAt_11, setAt_12, cells_int, cells_bool, cells_str, cells_nils, cells_nilp, cells_ptr, cells_sl, cells_u8, cells_u16, cells_agg, get_upd_is, Option.isSome_some, upd_upd, ev1_nchkV, ev1_faV, nchkV_ptr, faV_ptr, ev1_extV, extV_tup, eqptr_nil, eqptr_ptr, Nat.zero_add, Nat.add_zero, qPL0, qPL1, qPL2, qPL3, qPL4, qPL5, beq_self_eq_true]
    refine ⟨?_, fun _ _ h => by cases h⟩
    exact Eq.trans (congrArg (fun x => valR (outR _ (seqR (blockR 2 x) _))) (iter_mask _ _ _ _ (E43b 2) _ rfl)) hc
end
theorem rdeal_val (m o : Of5) : valR (evA 1000 43 [.agg m.cells, .agg o.cells] St.nil) = some (if m.may ∧ o.may then .tup [.agg (dealO m o).cells, .bool true] else .tup [.agg (ofC 0 0 0 0 0), .bool false]) := by
  rw [show (1000 : Nat) = 999 + 1 from rfl, evA_in rfl tab43, show St.nil = St.nil.pl [] from rfl]
  have hm := p58 998 m
  have ho := p58 998 o
  obtain ⟨mb, ms, mw, mz, mt⟩ := m
  obtain ⟨ob, os, ow, oz, ot⟩ := o
  by_cases gm : Of5.may ⟨mb, ms, mw, mz, mt⟩
  · rw [decide_eq_true gm] at hm
    by_cases go : Of5.may ⟨ob, os, ow, oz, ot⟩
    · rw [decide_eq_true go] at ho
      rw [if_pos ⟨gm, go⟩]
      have gm' : mayP mb ms mw mz mt := gm
      have go' : mayP ob os ow oz ot := go
      unfold mayP at gm' go'
      have hw := high_at ow (by omega) (by omega)
      have q27 := p27 998
      have q29 := p29 998
      have q35 := p35 998
      have eb := b_at mb ob (by omega) (by omega) (by omega) (by omega)
      have es := s_at ms os (by omega) (by omega) (by omega) (by omega)
      have hl := rdeal_a 980 ⟨mb, ms, mw, mz, mt⟩ ⟨ob, os, ow, oz, ot⟩ (sizeZ (highZ oz)) (lowZ ot) (highZ ow + 1).toNat _ _ (by show highZ ow + 1 = _; omega) (by omega) rfl eb
      simp only [Of5.cells, ofC] at hm ho
      simp only [M43, Of5.cells, ofC, hm, ho, q27, q29, q35, evC_loop, qES0, qES1, qES2, env0, List.length_cons, List.length_nil, Nat.reduceAdd, Nat.reduceSub, List.replicate, List.cons_append, List.nil_append, opd, Env.put, Env.at, List.set_cons_zero, List.set_cons_succ, List.getD_cons_zero, List.getD_cons_succ, freezeL, resVs, oneOr, Option.map_some, Option.map_none, List.map_cons, List.map_nil, if_true, if_false, Bool.not_true, Bool.not_false, Bool.false_eq_true, reduceIte, decide_true, decide_false, Int.reduceLT, Int.reduceLE, Int.reduceGT, Int.reduceGE, Int.reduceEq, Int.reduceBEq, Int.reduceBNe, load_ptr, ldV_some, cellAt_cells, List.getElem?_cons_zero, List.getElem?_cons_succ, store_ptr, stO_some, setAt_0, setAt_1, setAt_2, setAt_3, setAt_4, setAt_5, setAt_6, setAt_7, setAt_8, setAt_9, setAt_10, setAt_11, setAt_12, cells_int, cells_bool, cells_str, cells_nils, cells_nilp, cells_ptr, cells_sl, cells_u8, cells_u16, cells_agg, get_upd_is, Option.isSome_some, upd_upd, ev1_nchkV, ev1_faV, nchkV_ptr, faV_ptr, ev1_extV, extV_tup, eqptr_nil, eqptr_ptr, Nat.zero_add, Nat.add_zero, qPL0, qPL1, qPL2, qPL3, qPL4, qPL5, beq_self_eq_true, qED0, qED1, placeR]
      rw [drawR_ok]; case h => simp (config := { decide := true }) [calm, calmPair, calmTwo, List.range, List.range.loop, sameO_refl, plg0, plg1, plg2, plg3, plg4, plg5, plg6, plg7, plg8, plg9, plg10, plg11, plg12, plg13]
      simp only [hm, ho, q27, q29, q35, evC_loop, qES0, qES1, qES2, env0, List.length_cons, List.length_nil, Nat.reduceAdd, Nat.reduceSub, List.replicate, List.cons_append, List.nil_append, opd, Env.put, Env.at, List.set_cons_zero, List.set_cons_succ, List.getD_cons_zero, List.getD_cons_succ, freezeL, resVs, oneOr, Option.map_some, Option.map_none, List.map_cons, List.map_nil, if_true, if_false, Bool.not_true, Bool.not_false, Bool.false_eq_true, reduceIte, decide_true, decide_false, Int.reduceLT, Int.reduceLE, Int.reduceGT, Int.reduceGE, Int.reduceEq, Int.reduceBEq, Int.reduceBNe, load_ptr, ldV_some, cellAt_cells, List.getElem?_cons_zero, List.getElem?_cons_succ, store_ptr, stO_some, setAt_0, setAt_1, setAt_2, setAt_3, setAt_4, setAt_5, setAt_6, setAt_7, setAt_8, setAt_9, setAt_10, setAt_11, setAt_12, cells_int, cells_bool, cells_str, cells_nils, cells_nilp, cells_ptr, cells_sl, cells_u8, cells_u16, cells_agg, get_upd_is, Option.isSome_some, upd_upd, ev1_nchkV, ev1_faV, nchkV_ptr, faV_ptr, ev1_extV, extV_tup, eqptr_nil, eqptr_ptr, Nat.zero_add, Nat.add_zero, qPL0, qPL1, qPL2, qPL3, qPL4, qPL5, beq_self_eq_true, qED0, qED1, placeR]
      refine Eq.trans (congrArg (fun x => valR (outR _ (seqR (blockR 0 x) _))) (iter_mask _ _ _ _ (E43a 0) _ rfl)) (hl.trans ?_)
      simp only [dealO]
      rw [eb, es, wAcc_eq _ _ (by omega)]
      rfl
    · rw [decide_eq_false go] at ho
      rw [if_neg (fun h => go h.2)]
      simp only [Of5.cells, ofC] at hm ho
      simp only [M43, Of5.cells, ofC, hm, ho, ev1_build, fill_nil, qES0, qES1, qES2, env0, List.length_cons, List.length_nil, Nat.reduceAdd, Nat.reduceSub, List.replicate, List.cons_append, List.nil_append, opd, Env.put, Env.at, List.set_cons_zero, List.set_cons_succ, List.getD_cons_zero, List.getD_cons_succ, freezeL, resVs, oneOr, Option.map_some, Option.map_none, List.map_cons, List.map_nil, if_true, if_false, Bool.not_true, Bool.not_false, Bool.false_eq_true, reduceIte, decide_true, decide_false, Int.reduceLT, Int.reduceLE, Int.reduceGT, Int.reduceGE, Int.reduceEq, Int.reduceBEq, Int.reduceBNe, load_ptr, ldV_some, cellAt_cells, List.getElem?_cons_zero, List.getElem?_cons_succ, store_ptr, stO_some, setAt_0, setAt_1, setAt_2, setAt_3, setAt_4, setAt_5, setAt_6, setAt_7, setAt_8, setAt_9, setAt_10, setAt_11, setAt_12, cells_int, cells_bool, cells_str, cells_nils, cells_nilp, cells_ptr, cells_sl, cells_u8, cells_u16, cells_agg, get_upd_is, Option.isSome_some, upd_upd, ev1_nchkV, ev1_faV, nchkV_ptr, faV_ptr, ev1_extV, extV_tup, eqptr_nil, eqptr_ptr, Nat.zero_add, Nat.add_zero, qPL0, qPL1, qPL2, qPL3, qPL4, qPL5, beq_self_eq_true, qED0, qED1, placeR]
  · rw [decide_eq_false gm] at hm
    rw [if_neg (fun h => gm h.1)]
    simp only [Of5.cells, ofC] at hm ho
    simp only [M43, Of5.cells, ofC, hm, ev1_build, fill_nil, qES0, qES1, qES2, env0, List.length_cons, List.length_nil, Nat.reduceAdd, Nat.reduceSub, List.replicate, List.cons_append, List.nil_append, opd, Env.put, Env.at, List.set_cons_zero, List.set_cons_succ, List.getD_cons_zero, List.getD_cons_succ, freezeL, resVs, oneOr, Option.map_some, Option.map_none, List.map_cons, List.map_nil, if_true, if_false, Bool.not_true, Bool.not_false, Bool.false_eq_true, reduceIte, decide_true, decide_false, Int.reduceLT, Int.reduceLE, Int.reduceGT, Int.reduceGE, Int.reduceEq, Int.reduceBEq, Int.reduceBNe, load_ptr, ldV_some, cellAt_cells, List.getElem?_cons_zero, List.getElem?_cons_succ, store_ptr, stO_some, setAt_0, setAt_1, setAt_2, setAt_3, setAt_4, setAt_5, setAt_6, setAt_7, setAt_8, setAt_9, setAt_10, setAt_11, setAt_12, cells_int, cells_bool, cells_str, cells_nils, cells_nilp, cells_ptr, cells_sl, cells_u8, cells_u16, cells_agg, get_upd_is, Option.isSome_some, upd_upd, ev1_nchkV, ev1_faV, nchkV_ptr, faV_ptr, ev1_extV, extV_tup, eqptr_nil, eqptr_ptr, Nat.zero_add, Nat.add_zero, qPL0, qPL1, qPL2, qPL3, qPL4, qPL5, beq_self_eq_true, qED0, qED1, placeR]
/-- Two offers, and what two agree on. -/
def hDeal : List AV → St → Option AV
  | [v, u], _ => match toOf v, toOf u with
    | some m, some o => some (if m.may ∧ o.may then .tup [.agg (dealO m o).cells, .bool true] else .tup [.agg (ofC 0 0 0 0 0), .bool false])
    | _, _ => none
  | _, _ => none
theorem pureDeal {call : Calls'} {F : Nat} (h : ∀ m o : Of5, valR (call F [.agg m.cells, .agg o.cells] St.nil) = some (if m.may ∧ o.may then .tup [.agg (dealO m o).cells, .bool true] else .tup [.agg (ofC 0 0 0 0 0), .bool false])) : PureOk call F hDeal := pureOk_of (by
  intro args s v hv
  unfold hDeal at hv
  split at hv
  · split at hv
    · rename_i m o hm ho
      cases hv
      rw [toOf_of hm, toOf_of ho]
      refine ⟨?_, by simp [flatL, Of5.flat], h m o⟩
      split <;> rfl
    · cases hv
  · cases hv)
theorem puB42 : PureOk (evA 1000) 42 (hDeal) := (pureDeal deal_val)
theorem puB43 : PureOk (evA 1000) 43 (hDeal) := (pureDeal rdeal_val)
def lstB (f : Nat) : Option (List AV → St → Option AV) := if f = 42 then some (hDeal) else if f = 43 then some (hDeal) else none
noncomputable def extB := extWith extA lstB
theorem extB_ok : ∀ w0, ExtOk Tryd.prog tabGl w0 extB := extOk_add (tableOf_ok _) mixed tab_flat (extA_ok) lstB (by
  intro f h hf
  unfold lstB at hf
  rcases some_of hf with ⟨rfl, rfl⟩ | hf
  · exact ⟨by rw [tab42]; rfl, 1000, puB42⟩
  rcases some_of hf with ⟨rfl, rfl⟩ | hf
  · exact ⟨by rw [tab43]; rfl, 1000, puB43⟩
  cases hf)
noncomputable def evB : Nat → Calls' := evF tabGl (tableOf Tryd.prog) extB
theorem evB_ok (w0 : World) (k : Nat) : CallOk Tryd.prog tabGl w0 (evB k) := evF_sound (tableOf_ok _) (extB_ok w0) mixed k
theorem evB_in {k f : Nat} {m : MFun} (hx : extB f = none) (hF : tableOf Tryd.prog f = some m) (args : List AV) (s : St) :
    evB (k + 1) f args s = outR m.res (evC tabGl (evB k) k m.body (env0 m.ntmps args) s) := evF_in hx hF args s
theorem b42 (k : Nat) (m o : Of5) (s : St) : evB (k + 1) 42 [.agg m.cells, .agg o.cells] s = some (if m.may ∧ o.may then .tup [.agg (dealO m o).cells, .bool true] else .tup [.agg (ofC 0 0 0 0 0), .bool false], s) := evF_ext (H := hDeal) rfl rfl
theorem b43 (k : Nat) (m o : Of5) (s : St) : evB (k + 1) 43 [.agg m.cells, .agg o.cells] s = some (if m.may ∧ o.may then .tup [.agg (dealO m o).cells, .bool true] else .tup [.agg (ofC 0 0 0 0 0), .bool false], s) := evF_ext (H := hDeal) rfl rfl
theorem b26 (k : Nat) (n : Int) (s : St) : evB (k + 1) 26 [.int .i64 n] s = some (.int .i64 (highZ n), s) := evF_ext (H := h1 highZ) rfl rfl
theorem b27 (k : Nat) (n : Int) (s : St) : evB (k + 1) 27 [.int .i64 n] s = some (.int .i64 (highZ n), s) := evF_ext (H := h1 highZ) rfl rfl
theorem b28 (k : Nat) (n : Int) (s : St) : evB (k + 1) 28 [.int .i64 n] s = some (.int .i64 (lowZ n), s) := evF_ext (H := h1 lowZ) rfl rfl
theorem b29 (k : Nat) (n : Int) (s : St) : evB (k + 1) 29 [.int .i64 n] s = some (.int .i64 (lowZ n), s) := evF_ext (H := h1 lowZ) rfl rfl
theorem b30 (k : Nat) (n : Int) (s : St) : evB (k + 1) 30 [.int .i64 n] s = some (.int .i64 (baudZ n), s) := evF_ext (H := h1 baudZ) rfl rfl
theorem b31 (k : Nat) (n : Int) (s : St) : evB (k + 1) 31 [.int .i64 n] s = some (.int .i64 (baudZ n), s) := evF_ext (H := h1 baudZ) rfl rfl
theorem b32 (k : Nat) (n : Int) (s : St) : evB (k + 1) 32 [.int .i64 n] s = some (.int .i64 (silentZ n), s) := evF_ext (H := h1 silentZ) rfl rfl
theorem b33 (k : Nat) (n : Int) (s : St) : evB (k + 1) 33 [.int .i64 n] s = some (.int .i64 (silentZ n), s) := evF_ext (H := h1 silentZ) rfl rfl
theorem b34 (k : Nat) (n : Int) (s : St) : evB (k + 1) 34 [.int .i64 n] s = some (.int .i64 (sizeZ n), s) := evF_ext (H := h1 sizeZ) rfl rfl
theorem b35 (k : Nat) (n : Int) (s : St) : evB (k + 1) 35 [.int .i64 n] s = some (.int .i64 (sizeZ n), s) := evF_ext (H := h1 sizeZ) rfl rfl
theorem b36 (k : Nat) (a b : Int) (h : has1 a b) (s : St) : evB (k + 1) 36 [.int .i64 a, .int .i64 b] s = some (.int .i64 (ticksZ a b), s) := evF_ext (H := h2 has1 ticksZ) rfl (if_pos h)
theorem b37 (k : Nat) (a b : Int) (h : has1 a b) (s : St) : evB (k + 1) 37 [.int .i64 a, .int .i64 b] s = some (.int .i64 (ticksZ a b), s) := evF_ext (H := h2 has1 ticksZ) rfl (if_pos h)
theorem b44 (k : Nat) (a b : Int) (h : small1 a b) (s : St) : evB (k + 1) 44 [.int .i64 a, .int .i64 b] s = some (.int .i64 (frameZ a b), s) := evF_ext (H := h2 small1 frameZ) rfl (if_pos h)
theorem b45 (k : Nat) (a b : Int) (h : small1 a b) (s : St) : evB (k + 1) 45 [.int .i64 a, .int .i64 b] s = some (.int .i64 (frameZ a b), s) := evF_ext (H := h2 small1 frameZ) rfl (if_pos h)
theorem b21 (k : Nat) (s : St) : evB (k + 1) 21 [] s = some (.bool true, s) := evF_ext (H := hTrue) rfl rfl
theorem b25 (k : Nat) (o : Of5) (s : St) : evB (k + 1) 25 [.agg o.cells] s = some (.bool (decide o.may), s) := evF_ext (H := hMayO) rfl rfl
theorem b58 (k : Nat) (o : Of5) (s : St) : evB (k + 1) 58 [.agg o.cells] s = some (.bool (decide o.may), s) := evF_ext (H := hMayO) rfl rfl
theorem b64 (k : Nat) (n : Int) (i : Nat) (hi : i < 16) (s : St) : evB (k + 1) 64 [.int .i64 n, .int .i64 (i : Int)] s = some (.bool (tbit n i), s) := evF_ext (H := hAt) rfl (if_pos ⟨by omega, by omega⟩)
end Go.Proofs.YtbeimfhodgmjhaaDoor
/- What two agree on: helpers for the laws. No conditions. -/
set_option linter.unusedSimpArgs false
set_option linter.unusedVariables false
set_option maxRecDepth 100000
namespace Go.Proofs.YtbeimfhodgmjhaaDoor
open Go Go.Ab
theorem eq5 (a b c d e : Int) : eqAV (.flat (.many [SK.i, SK.i, SK.i, SK.i, SK.i])) (.agg [.int .i64 a, .int .i64 b, .int .i64 c, .int .i64 d, .int .i64 e]) (.agg [.int .i64 a, .int .i64 b, .int .i64 c, .int .i64 d, .int .i64 e]) = some true := by
  simp [eqAV, eqFl, eqScL, eqSc]
theorem eqB (a : Bool) : eqAV (.flat (.one SK.b)) (.bool a) (.bool a) = some true := by cases a <;> rfl
theorem ieq (a : Int) : binV .eql (.int .i64 a) (.int .i64 a) = some (.bool true) := by
  show some (AV.bool (a == a)) = _
  simp
/-- What a deal comes to, whatever the offers. -/
theorem deal_some (m o : Of5) : ∃ (D : Of5) (t : Bool), (if m.may ∧ o.may then AV.tup [.agg (dealO m o).cells, .bool true] else .tup [.agg (ofC 0 0 0 0 0), .bool false]) = .tup [.agg D.cells, .bool t] ∧ (t = true → m.may ∧ o.may ∧ D = dealO m o) ∧ (t = false → ¬ (m.may ∧ o.may)) := by
  by_cases h : m.may ∧ o.may
  · exact ⟨dealO m o, true, if_pos h, fun _ => ⟨h.1, h.2, rfl⟩, fun h => by cases h⟩
  · exact ⟨⟨0, 0, 0, 0, 0⟩, false, if_neg h, fun h => (by cases h), fun _ => h⟩
theorem deal_ev (k : Nat) (m o : Of5) : ∃ (D : Of5) (t : Bool), (∀ s, evB (k + 1) 42 [.agg m.cells, .agg o.cells] s = some (.tup [.agg D.cells, .bool t], s)) ∧ (∀ s, evB (k + 1) 43 [.agg m.cells, .agg o.cells] s = some (.tup [.agg D.cells, .bool t], s)) ∧ (t = true → m.may ∧ o.may ∧ D = dealO m o) ∧ (t = false → ¬ (m.may ∧ o.may)) := by
  obtain ⟨D, t, h1, h2, h3⟩ := deal_some m o
  refine ⟨D, t, fun s => ?_, fun s => ?_, h2, h3⟩
  · rw [b42, h1]
  · rw [b43, h1]
theorem says_of {r : Option (AV × St)} (hv : valR r = some (.bool true)) : Ab.saysTrue r = true := by
  obtain ⟨v0, s', h1, h2⟩ := valR_of hv
  have : v0 = .bool true := by
    cases v0 with
    | bool b => exact h2
    | tup l => cases h2
    | _ => cases h2
  rw [this] at h1
  exact (congrArg Ab.saysTrue h1)
theorem and1_chk : ((List.range 16).all fun a => decide (a % 2 = 0 ∨ (andZ (a : Int) 1 = 1 ∧ andZ 1 (a : Int) = 1))) = true := by kernel_rfl
theorem and1_at (a : Int) (h0 : 0 ≤ a) (h1 : a < 16) (h2 : a % 2 = 1) : andZ a 1 = 1 ∧ andZ 1 a = 1 := by
  have h := of_decide_eq_true (List.all_eq_true.1 and1_chk a.toNat (List.mem_range.2 (by omega)))
  rw [Int.toNat_of_nonneg h0] at h
  omega
end Go.Proofs.YtbeimfhodgmjhaaDoor
