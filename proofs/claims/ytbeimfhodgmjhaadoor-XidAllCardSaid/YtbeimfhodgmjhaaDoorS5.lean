/- Beginnings as bytes, and back, as what they answer. No conditions. -/
import Derived.Test.YtbeimfhodgmjhaaDoorS4
set_option linter.unusedSimpArgs false
set_option linter.unusedVariables false
set_option maxRecDepth 100000
set_option maxHeartbeats 4000000
namespace Go.Proofs.YtbeimfhodgmjhaaDoor
open Go Go.Ab
def toSu : AV → Option Su
  | .agg [.int .u32 f, .int .u32 t, .int .i64 a, .int .i64 c, .int .i64 b, .int .i64 s, .int .i64 w, .int .i64 z, .int .i64 ti] => if (Su.mk f t a c ⟨b, s, w, z, ti⟩).ok then some ⟨f, t, a, c, ⟨b, s, w, z, ti⟩⟩ else none
  | _ => none
theorem toSu_of {v : AV} {x : Su} (h : toSu v = some x) : v = .agg x.cells ∧ x.ok := by
  unfold toSu at h
  split at h
  · split at h
    · rename_i ho; cases h; exact ⟨rfl, ho⟩
    · cases h
  · cases h
theorem toSu_cells (x : Su) (h : x.ok) : toSu (.agg x.cells) = some x := if_pos h
theorem Su.flat (x : Su) : Ab.flat (.agg x.cells) = true := rfl
def hSPut : List AV → St → Option AV
  | [v], _ => (toSu v).map fun x => .tup [.str (if x.may then setB x else []), .bool (decide x.may)]
  | _, _ => none
def hSGet : List AV → St → Option AV
  | [.str s], _ => some (getSV (getS s))
  | _, _ => none
theorem pureSPut {call : Calls'} {F : Nat} (h : ∀ x : Su, x.ok → valR (call F [.agg x.cells] St.nil) = some (.tup [.str (if x.may then setB x else []), .bool (decide x.may)])) : PureOk call F hSPut := pureOk_of (by
  intro args s v hv
  unfold hSPut at hv
  split at hv
  · obtain ⟨x, hx, rfl⟩ := Option.map_eq_some_iff.1 hv
    obtain ⟨rfl, ho⟩ := toSu_of hx
    exact ⟨rfl, by simp [flatL, x.flat], h x ho⟩
  · cases hv)
theorem pureSGet {call : Calls'} {F : Nat} (h : ∀ s, valR (call F [.str s] St.nil) = some (getSV (getS s))) : PureOk call F hSGet := pureOk_of (by
  intro args s v hv
  unfold hSGet at hv
  split at hv
  · cases hv
    refine ⟨?_, rfl, h _⟩
    cases getS _ <;> rfl
  · cases hv)
theorem puS54 : PureOk (evK 1000) 54 (hSPut) := (pureSPut sput_val)
theorem puS56 : PureOk (evK 1000) 56 (hSGet) := (pureSGet sget_val)
def lstS (f : Nat) : Option (List AV → St → Option AV) := if f = 54 then some (hSPut) else if f = 56 then some (hSGet) else none
noncomputable def extS := extWith extK lstS
theorem extS_ok : ∀ w0, ExtOk Tryd.prog tabGl w0 extS := extOk_add (tableOf_ok _) mixed tab_flat (extK_ok) lstS (by
  intro f h hf
  unfold lstS at hf
  rcases some_of hf with ⟨rfl, rfl⟩ | hf
  · exact ⟨by rw [tab54]; rfl, 1000, puS54⟩
  rcases some_of hf with ⟨rfl, rfl⟩ | hf
  · exact ⟨by rw [tab56]; rfl, 1000, puS56⟩
  cases hf)
noncomputable def evS : Nat → Calls' := evF tabGl (tableOf Tryd.prog) extS
theorem evS_ok (w0 : World) (k : Nat) : CallOk Tryd.prog tabGl w0 (evS k) := evF_sound (tableOf_ok _) (extS_ok w0) mixed k
theorem evS_in {k f : Nat} {m : MFun} (hx : extS f = none) (hF : tableOf Tryd.prog f = some m) (args : List AV) (s : St) :
    evS (k + 1) f args s = outR m.res (evC tabGl (evS k) k m.body (env0 m.ntmps args) s) := evF_in hx hF args s
theorem s21 (k : Nat) (s : St) : evS (k + 1) 21 [] s = some (.bool true, s) := evF_ext (H := hTrue) rfl rfl
theorem s22 (k : Nat) (l : List UInt8) (n : Nat) (s : St) : evS (k + 1) 22 [.str l, .int .i64 (n : Int)] s = some (.str (l.take n), s) := evF_ext (H := hText) rfl (by
  show (if (0 : Int) ≤ (n : Int) then some (AV.str (l.take ((n : Int)).toNat)) else none) = _
  rw [if_pos (by omega), Int.toNat_natCast])
theorem s54 (k : Nat) (x : Su) (h : x.ok) (s : St) : evS (k + 1) 54 [.agg x.cells] s = some (.tup [.str (if x.may then setB x else []), .bool (decide x.may)], s) := evF_ext (H := hSPut) rfl (by
  show (toSu (.agg x.cells)).map _ = _
  rw [toSu_cells x h]; rfl)
theorem s56 (k : Nat) (t : List UInt8) (s : St) : evS (k + 1) 56 [.str t] s = some (getSV (getS t), s) := evF_ext (H := hSGet) rfl rfl
theorem s60 (k : Nat) {v : AV} {l : List Tp} (h : IsTp v l) (hl : l.length ≤ 100) (s : St) : evS (k + 1) 60 [v] s = some (.tup [.str (if putOk l then encL l else []), .bool (decide (putOk l))], s) := evF_ext (H := hTPut) rfl (by
  simp only [List.map_cons, List.map_nil, hTPut, toTp_is h]; rw [if_pos hl])
/-! Bytes of a beginning, read. -/
theorem getS_setB (x : Su) (hx : x.ok) (h : x.may) (t : List UInt8) (hg : getO (offB x.o ++ t) = some x.o) : getS (setB x ++ t) = some x := by
  obtain ⟨f, g, a, c, o⟩ := x
  have ha : 0 ≤ a ∧ a ≤ 255 := by have := h.1.2.2; simp only at this; omega
  have hc : 0 ≤ c ∧ c ≤ 255 := by have := h.1.2.2; simp only at this; omega
  have e : setB ⟨f, g, a, c, o⟩ ++ t = UInt8.ofNat f.toNat :: UInt8.ofNat (f / 256).toNat :: UInt8.ofNat (f / 65536).toNat :: UInt8.ofNat (f / 16777216).toNat :: UInt8.ofNat g.toNat :: UInt8.ofNat (g / 256).toNat :: UInt8.ofNat (g / 65536).toNat :: UInt8.ofNat (g / 16777216).toNat :: u8n a :: u8n c :: (offB o ++ t) := by
    simp [setB, four]
  rw [e, getS_cons]
  simp only at hg
  rw [hg]
  have n1 : num4 (UInt8.ofNat f.toNat) (UInt8.ofNat (f / 256).toNat) (UInt8.ofNat (f / 65536).toNat) (UInt8.ofNat (f / 16777216).toNat) = f := num4_four f hx.1
  have n2 : num4 (UInt8.ofNat g.toNat) (UInt8.ofNat (g / 256).toNat) (UInt8.ofNat (g / 65536).toNat) (UInt8.ofNat (g / 16777216).toNat) = g := num4_four g hx.2
  simp only [n1, n2, u8n_val a ha.1 ha.2, u8n_val c hc.1 hc.2]
  exact if_pos h
end Go.Proofs.YtbeimfhodgmjhaaDoor
