/- Numbers of offers as what they answer. No conditions. -/
import Derived.Test.YtbeimfhodgmjhaaDoorQ4
import Derived.Test.YtbeimfhodgmjhaaDoorTupFind
set_option linter.unusedSimpArgs false
set_option linter.unusedVariables false
set_option maxRecDepth 100000
namespace Go.Proofs.YtbeimfhodgmjhaaDoor
open Go Go.Ab
theorem tab_flat (g : Nat) : Ab.flat (tabGl g) = true := by
  unfold tabGl
  split
  · decide +kernel
  · split
    · decide +kernel
    · split
      · decide +kernel
      · rfl
theorem some_of {P : Prop} [Decidable P] {α : Type} {a : α} {x : Option α} {y : α} (h : (if P then some a else x) = some y) : (P ∧ a = y) ∨ x = some y := by
  split at h
  · rename_i hp; cases h; exact .inl ⟨hp, rfl⟩
  · exact .inr h
def hTrue : List AV → St → Option AV
  | [], _ => some (.bool true)
  | _, _ => none
theorem begun_pure : PureOk (evT 999) 21 hTrue := pureOk_of (by
  intro args s v h
  unfold hTrue at h
  split at h
  · cases h
    obtain ⟨s1, h1⟩ := begunT_ev
    exact ⟨rfl, rfl, by rw [h1]; rfl⟩
  · cases h)
/-- A number of a number. -/
def h1 (f : Int → Int) : List AV → St → Option AV
  | [.int .i64 n], _ => some (.int .i64 (f n))
  | _, _ => none
theorem pure1 {call : Calls'} {F : Nat} {f : Int → Int} (h : ∀ n, valR (call F [.int .i64 n] St.nil) = some (.int .i64 (f n))) : PureOk call F (h1 f) := pureOk_of (by
  intro args s v hv
  unfold h1 at hv
  split at hv
  · cases hv; exact ⟨rfl, rfl, h _⟩
  · cases hv)
/-- A number of two numbers, on some conditions. -/
def h2 (c : Int → Int → Prop) [∀ a b, Decidable (c a b)] (f : Int → Int → Int) : List AV → St → Option AV
  | [.int .i64 a, .int .i64 b], _ => if c a b then some (.int .i64 (f a b)) else none
  | _, _ => none
theorem pure2 {call : Calls'} {F : Nat} {c : Int → Int → Prop} [∀ a b, Decidable (c a b)] {f : Int → Int → Int} (h : ∀ a b, c a b → valR (call F [.int .i64 a, .int .i64 b] St.nil) = some (.int .i64 (f a b))) : PureOk call F (h2 c f) := pureOk_of (by
  intro args s v hv
  unfold h2 at hv
  split at hv
  · split at hv
    · rename_i hc; cases hv; exact ⟨rfl, rfl, h _ _ hc⟩
    · cases hv
  · cases hv)
/-- An offer, read out of a value. -/
structure Of5 where
  b : Int
  s : Int
  w : Int
  z : Int
  t : Int
  deriving DecidableEq
def Of5.cells (o : Of5) : List AV := ofC o.b o.s o.w o.z o.t
def Of5.may (o : Of5) : Prop := mayP o.b o.s o.w o.z o.t
instance (o : Of5) : Decidable o.may := inferInstanceAs (Decidable (mayP _ _ _ _ _))
def toOf : AV → Option Of5
  | .agg [.int .i64 b, .int .i64 s, .int .i64 w, .int .i64 z, .int .i64 t] => some ⟨b, s, w, z, t⟩
  | _ => none
theorem toOf_of {v : AV} {o : Of5} (h : toOf v = some o) : v = .agg o.cells := by
  unfold toOf at h
  split at h
  · cases h; rfl
  · cases h
theorem toOf_cells (o : Of5) : toOf (.agg o.cells) = some o := rfl
theorem Of5.flat (o : Of5) : Ab.flat (.agg o.cells) = true := rfl
def hMayO : List AV → St → Option AV
  | [v], _ => (toOf v).map fun o => .bool (decide o.may)
  | _, _ => none
theorem pureMayO {call : Calls'} {F : Nat} (h : ∀ o : Of5, valR (call F [.agg o.cells] St.nil) = some (.bool (decide o.may))) : PureOk call F hMayO := pureOk_of (by
  intro args s v hv
  unfold hMayO at hv
  split at hv
  · obtain ⟨o, ho, rfl⟩ := Option.map_eq_some_iff.1 hv
    rw [toOf_of ho]
    exact ⟨rfl, by simp [flatL, o.flat], h o⟩
  · cases hv)
/-- A bit of any number. -/
def tbit (n : Int) (i : Nat) : Bool := (n % 65536).toNat.testBit i
def hAt : List AV → St → Option AV
  | [.int .i64 n, .int .i64 i], _ => if 0 ≤ i ∧ i < 16 then some (.bool (tbit n i.toNat)) else none
  | _, _ => none
theorem puA64 : PureOk (evT 1000) 64 hAt := pureOk_of (by
  intro args s v hv
  unfold hAt at hv
  split at hv
  · rename_i n i
    split at hv
    · rename_i hc
      cases hv
      refine ⟨rfl, rfl, ?_⟩
      have h := at_ev 999 n i.toNat (by omega) St.nil
      rw [Int.toNat_of_nonneg hc.1] at h
      rw [show (1000 : Nat) = 999 + 1 from rfl, h]; rfl
    · cases hv
  · cases hv)
def has1 (a b : Int) : Prop := -9223372036854775808 ≤ a ∧ a ≤ 9223372036854775807
instance (a b : Int) : Decidable (has1 a b) := inferInstanceAs (Decidable (_ ∧ _))
def small1 (a b : Int) : Prop := 0 ≤ a ∧ a ≤ 1000000
instance (a b : Int) : Decidable (small1 a b) := inferInstanceAs (Decidable (_ ∧ _))
def frameZ (size baud : Int) : Int := ticksZ (2 * (size + 5) + 2) baud
theorem has1_has {a b : Int} (h : has1 a b) : IntKind.i64.has a := ⟨by simp [IntKind.min, IntKind.bits, IntKind.signed]; exact h.1, by simp [IntKind.max, IntKind.bits, IntKind.signed]; have := h.2; omega⟩
theorem puA26 : PureOk (evT 1000) 26 (h1 highZ) := (pure1 fun n => by rw [show (1000 : Nat) = 998 + 2 from rfl, high_ev]; rfl)
theorem puA27 : PureOk (evT 1000) 27 (h1 highZ) := (pure1 fun n => by rw [show (1000 : Nat) = 970 + 30 from rfl, rhigh_ev]; rfl)
theorem puA28 : PureOk (evT 1000) 28 (h1 lowZ) := (pure1 fun n => by rw [show (1000 : Nat) = 998 + 2 from rfl, low_ev]; rfl)
theorem puA29 : PureOk (evT 1000) 29 (h1 lowZ) := (pure1 fun n => by rw [show (1000 : Nat) = 970 + 30 from rfl, rlow_ev]; rfl)
theorem puA30 : PureOk (evT 1000) 30 (h1 baudZ) := (pure1 fun n => baud_val n St.nil)
theorem puA31 : PureOk (evT 1000) 31 (h1 baudZ) := (pure1 fun n => rbaud_val n St.nil)
theorem puA32 : PureOk (evT 1000) 32 (h1 silentZ) := (pure1 fun n => silent_val n St.nil)
theorem puA33 : PureOk (evT 1000) 33 (h1 silentZ) := (pure1 fun n => rsilent_val n St.nil)
theorem puA34 : PureOk (evT 1000) 34 (h1 sizeZ) := (pure1 fun n => size_val n St.nil)
theorem puA35 : PureOk (evT 1000) 35 (h1 sizeZ) := (pure1 fun n => rsize_val n St.nil)
theorem puA36 : PureOk (evT 1000) 36 (h2 has1 ticksZ) := (pure2 fun a b hc => by rw [show (1000 : Nat) = 999 + 1 from rfl, ticks_ev _ _ _ (has1_has hc)]; rfl)
theorem puA37 : PureOk (evT 1000) 37 (h2 has1 ticksZ) := (pure2 fun a b hc => by rw [show (1000 : Nat) = 999 + 1 from rfl, rticks_ev _ _ _ (has1_has hc)]; rfl)
theorem puA44 : PureOk (evT 1000) 44 (h2 small1 frameZ) := (pure2 fun a b hc => by rw [show (1000 : Nat) = 998 + 2 from rfl, frame_ev _ _ _ hc.1 hc.2]; rfl)
theorem puA45 : PureOk (evT 1000) 45 (h2 small1 frameZ) := (pure2 fun a b hc => by rw [show (1000 : Nat) = 998 + 2 from rfl, rframe_ev _ _ _ hc.1 hc.2]; rfl)
theorem puA25 : PureOk (evT 1000) 25 (hMayO) := (pureMayO fun o => may_val 998 _ _ _ _ _ St.nil)
theorem puA58 : PureOk (evT 1000) 58 (hMayO) := (pureMayO fun o => rmay_val 999 _ _ _ _ _ St.nil)
theorem puC_put : PureOk (evT 1000) 41 hTPut := pureTPut fun v l h hl => put_val h hl
theorem puC_rput : PureOk (evT 1000) 60 hTPut := pureTPut fun v l h hl => rput_val h hl
theorem puC_get : PureOk (evT 1000) 67 hTGet := pureTGet fun s => get67_val s
theorem puC_rget : PureOk (evT 1000) 40 hTGet := pureTGet fun s => get40_val s
theorem puC_find : PureOk (evT 1000) 68 hFind := pureFind fun v l id h hl => find_val h id hl
def lstA (f : Nat) : Option (List AV → St → Option AV) := if f = 21 then some (hTrue) else if f = 26 then some (h1 highZ) else if f = 27 then some (h1 highZ) else if f = 28 then some (h1 lowZ) else if f = 29 then some (h1 lowZ) else if f = 30 then some (h1 baudZ) else if f = 31 then some (h1 baudZ) else if f = 32 then some (h1 silentZ) else if f = 33 then some (h1 silentZ) else if f = 34 then some (h1 sizeZ) else if f = 35 then some (h1 sizeZ) else if f = 36 then some (h2 has1 ticksZ) else if f = 37 then some (h2 has1 ticksZ) else if f = 44 then some (h2 small1 frameZ) else if f = 45 then some (h2 small1 frameZ) else if f = 25 then some (hMayO) else if f = 58 then some (hMayO) else if f = 64 then some (hAt) else if f = 41 then some (hTPut) else if f = 60 then some (hTPut) else if f = 67 then some (hTGet) else if f = 40 then some (hTGet) else if f = 68 then some (hFind) else none
noncomputable def extA := extWith ext lstA
theorem extA_ok : ∀ w0, ExtOk Tryd.prog tabGl w0 extA := extOk_add (tableOf_ok _) mixed tab_flat (fun w0 => extOk _ w0) lstA (by
  intro f h hf
  unfold lstA at hf
  rcases some_of hf with ⟨rfl, rfl⟩ | hf
  · exact ⟨by kernel_rfl, 999, begun_pure⟩
  rcases some_of hf with ⟨rfl, rfl⟩ | hf
  · exact ⟨by rw [tab26]; rfl, 1000, puA26⟩
  rcases some_of hf with ⟨rfl, rfl⟩ | hf
  · exact ⟨by rw [tab27]; rfl, 1000, puA27⟩
  rcases some_of hf with ⟨rfl, rfl⟩ | hf
  · exact ⟨by rw [tab28]; rfl, 1000, puA28⟩
  rcases some_of hf with ⟨rfl, rfl⟩ | hf
  · exact ⟨by rw [tab29]; rfl, 1000, puA29⟩
  rcases some_of hf with ⟨rfl, rfl⟩ | hf
  · exact ⟨by rw [tab30]; rfl, 1000, puA30⟩
  rcases some_of hf with ⟨rfl, rfl⟩ | hf
  · exact ⟨by rw [tab31]; rfl, 1000, puA31⟩
  rcases some_of hf with ⟨rfl, rfl⟩ | hf
  · exact ⟨by rw [tab32]; rfl, 1000, puA32⟩
  rcases some_of hf with ⟨rfl, rfl⟩ | hf
  · exact ⟨by rw [tab33]; rfl, 1000, puA33⟩
  rcases some_of hf with ⟨rfl, rfl⟩ | hf
  · exact ⟨by rw [tab34]; rfl, 1000, puA34⟩
  rcases some_of hf with ⟨rfl, rfl⟩ | hf
  · exact ⟨by rw [tab35]; rfl, 1000, puA35⟩
  rcases some_of hf with ⟨rfl, rfl⟩ | hf
  · exact ⟨by rw [tab36]; rfl, 1000, puA36⟩
  rcases some_of hf with ⟨rfl, rfl⟩ | hf
  · exact ⟨by rw [tab37]; rfl, 1000, puA37⟩
  rcases some_of hf with ⟨rfl, rfl⟩ | hf
  · exact ⟨by rw [tab44]; rfl, 1000, puA44⟩
  rcases some_of hf with ⟨rfl, rfl⟩ | hf
  · exact ⟨by rw [tab45]; rfl, 1000, puA45⟩
  rcases some_of hf with ⟨rfl, rfl⟩ | hf
  · exact ⟨by rw [tab25]; rfl, 1000, puA25⟩
  rcases some_of hf with ⟨rfl, rfl⟩ | hf
  · exact ⟨by rw [tab58]; rfl, 1000, puA58⟩
  rcases some_of hf with ⟨rfl, rfl⟩ | hf
  · exact ⟨by rw [tab64]; rfl, 1000, puA64⟩
  rcases some_of hf with ⟨rfl, rfl⟩ | hf
  · exact ⟨by rw [tab41]; rfl, 1000, puC_put⟩
  rcases some_of hf with ⟨rfl, rfl⟩ | hf
  · exact ⟨by rw [tab60]; rfl, 1000, puC_rput⟩
  rcases some_of hf with ⟨rfl, rfl⟩ | hf
  · exact ⟨by rw [tab67]; rfl, 1000, puC_get⟩
  rcases some_of hf with ⟨rfl, rfl⟩ | hf
  · exact ⟨by rw [tab40]; rfl, 1000, puC_rget⟩
  rcases some_of hf with ⟨rfl, rfl⟩ | hf
  · exact ⟨by rw [tab68]; rfl, 1000, puC_find⟩
  cases hf)
noncomputable def evA : Nat → Calls' := evF tabGl (tableOf Tryd.prog) extA
theorem evA_ok (w0 : World) (k : Nat) : CallOk Tryd.prog tabGl w0 (evA k) := evF_sound (tableOf_ok _) (extA_ok w0) mixed k
theorem evA_in {k f : Nat} {m : MFun} (hx : extA f = none) (hF : tableOf Tryd.prog f = some m) (args : List AV) (s : St) :
    evA (k + 1) f args s = outR m.res (evC tabGl (evA k) k m.body (env0 m.ntmps args) s) := evF_in hx hF args s
theorem p21 (k : Nat) (s : St) : evA (k + 1) 21 [] s = some (.bool true, s) := evF_ext (H := hTrue) rfl rfl
theorem p26 (k : Nat) (n : Int) (s : St) : evA (k + 1) 26 [.int .i64 n] s = some (.int .i64 (highZ n), s) := evF_ext (H := h1 highZ) rfl rfl
theorem p27 (k : Nat) (n : Int) (s : St) : evA (k + 1) 27 [.int .i64 n] s = some (.int .i64 (highZ n), s) := evF_ext (H := h1 highZ) rfl rfl
theorem p28 (k : Nat) (n : Int) (s : St) : evA (k + 1) 28 [.int .i64 n] s = some (.int .i64 (lowZ n), s) := evF_ext (H := h1 lowZ) rfl rfl
theorem p29 (k : Nat) (n : Int) (s : St) : evA (k + 1) 29 [.int .i64 n] s = some (.int .i64 (lowZ n), s) := evF_ext (H := h1 lowZ) rfl rfl
theorem p30 (k : Nat) (n : Int) (s : St) : evA (k + 1) 30 [.int .i64 n] s = some (.int .i64 (baudZ n), s) := evF_ext (H := h1 baudZ) rfl rfl
theorem p31 (k : Nat) (n : Int) (s : St) : evA (k + 1) 31 [.int .i64 n] s = some (.int .i64 (baudZ n), s) := evF_ext (H := h1 baudZ) rfl rfl
theorem p32 (k : Nat) (n : Int) (s : St) : evA (k + 1) 32 [.int .i64 n] s = some (.int .i64 (silentZ n), s) := evF_ext (H := h1 silentZ) rfl rfl
theorem p33 (k : Nat) (n : Int) (s : St) : evA (k + 1) 33 [.int .i64 n] s = some (.int .i64 (silentZ n), s) := evF_ext (H := h1 silentZ) rfl rfl
theorem p34 (k : Nat) (n : Int) (s : St) : evA (k + 1) 34 [.int .i64 n] s = some (.int .i64 (sizeZ n), s) := evF_ext (H := h1 sizeZ) rfl rfl
theorem p35 (k : Nat) (n : Int) (s : St) : evA (k + 1) 35 [.int .i64 n] s = some (.int .i64 (sizeZ n), s) := evF_ext (H := h1 sizeZ) rfl rfl
theorem p36 (k : Nat) (a b : Int) (h : has1 a b) (s : St) : evA (k + 1) 36 [.int .i64 a, .int .i64 b] s = some (.int .i64 (ticksZ a b), s) := evF_ext (H := h2 has1 ticksZ) rfl (if_pos h)
theorem p37 (k : Nat) (a b : Int) (h : has1 a b) (s : St) : evA (k + 1) 37 [.int .i64 a, .int .i64 b] s = some (.int .i64 (ticksZ a b), s) := evF_ext (H := h2 has1 ticksZ) rfl (if_pos h)
theorem p44 (k : Nat) (a b : Int) (h : small1 a b) (s : St) : evA (k + 1) 44 [.int .i64 a, .int .i64 b] s = some (.int .i64 (frameZ a b), s) := evF_ext (H := h2 small1 frameZ) rfl (if_pos h)
theorem p45 (k : Nat) (a b : Int) (h : small1 a b) (s : St) : evA (k + 1) 45 [.int .i64 a, .int .i64 b] s = some (.int .i64 (frameZ a b), s) := evF_ext (H := h2 small1 frameZ) rfl (if_pos h)
theorem p25 (k : Nat) (o : Of5) (s : St) : evA (k + 1) 25 [.agg o.cells] s = some (.bool (decide o.may), s) := evF_ext (H := hMayO) rfl rfl
theorem p64 (k : Nat) (n : Int) (i : Nat) (hi : i < 16) (s : St) : evA (k + 1) 64 [.int .i64 n, .int .i64 (i : Int)] s = some (.bool (tbit n i), s) := evF_ext (H := hAt) rfl (if_pos ⟨by omega, by omega⟩)
theorem p58 (k : Nat) (o : Of5) (s : St) : evA (k + 1) 58 [.agg o.cells] s = some (.bool (decide o.may), s) := evF_ext (H := hMayO) rfl rfl
end Go.Proofs.YtbeimfhodgmjhaaDoor
