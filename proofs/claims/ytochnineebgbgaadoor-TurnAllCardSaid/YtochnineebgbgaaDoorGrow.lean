/- slices.Grow at bytes, of nothing: what the evaluator is told of it. No conditions. -/
import Derived.Test.YtochnineebgbgaaDoorAbE
import Derived.Test.YtochnineebgbgaaDoorProg
import Derived.Shelf.Spec.SlicesGrow
import Derived.KernelRfl
set_option linter.unusedSimpArgs false
set_option linter.unusedVariables false
namespace Go.Proofs.YtochnineebgbgaaDoor
open Go Go.Ab Go.Shelf
def growRen : Go.Shelf.Ren := ⟨fun n => if n = 4 then 114 else n, fun n => if n = 22 then 66 else if n = 25 then 5 else n, fun n => n⟩
theorem growLaid : Lays8.n4 Tryd.prog growRen where
  mixed := by kernel_rfl
  f4 := ⟨Tryd.f114.name, by decide, Tryd.func114.trans (congrArg some (by kernel_rfl))⟩
  t0 := Tryd.underlying0
  a0 := Tryd.isAgg0
  z0 := Tryd.sizeOf0
  v0 := Tryd.zeroValue0
  t3 := Tryd.underlying3
  a3 := Tryd.isAgg3
  z3 := Tryd.sizeOf3
  v3 := Tryd.zeroValue3
  t4 := Tryd.underlying4
  a4 := Tryd.isAgg4
  z4 := Tryd.sizeOf4
  v4 := Tryd.zeroValue4
  t9 := Tryd.underlying9
  a9 := Tryd.isAgg9
  z9 := Tryd.sizeOf9
  v9 := Tryd.zeroValue9
  t20 := Tryd.underlying20
  a20 := Tryd.isAgg20
  z20 := Tryd.sizeOf20
  v20 := Tryd.zeroValue20
  t22 := Tryd.underlying66
  a22 := Tryd.isAgg66
  z22 := Tryd.sizeOf66
  v22 := Tryd.zeroValue66

theorem mixed : Tryd.prog.follows .mixedOrders = true := by kernel_rfl
def ext (i : Nat) : Option (List AV → St → Option (AV × St)) := if i = 114 then some growX else none
def bareInfo (o : Option TypeInfo) : Bool := match o with
  | some i => i.size == 1 && i.bytes == 1 && (match i.zero with
    | some (.int .u8 0) => true
    | _ => false)
  | none => false
theorem info5 : ∃ i, Tryd.prog.info? 5 = some i ∧ i.size = 1 ∧ i.bytes = 1 ∧ i.zero = some (.int .u8 0) := by
  have h : bareInfo (Tryd.prog.info? 5) = true := by kernel_rfl
  unfold bareInfo at h
  split at h
  · rename_i i hi
    simp only [Bool.and_eq_true, beq_iff_eq] at h
    obtain ⟨⟨h1, h2⟩, h3⟩ := h
    refine ⟨i, hi, h1, h2, ?_⟩
    split at h3
    · assumption
    · cases h3
  · cases h

theorem grow_goes {G : Gh} {w0 w : World} {s s' : St} {args : List AV} {vals : List Value} {v : AV} (h : growX args s = some (v, s')) (hr : RelT G args vals) (hS : RelS G w0 s w) :
    Calls Tryd.prog 114 vals.toArray w fun e w' => ∃ G' v', G.le G' ∧ e = .returned v' ∧ RelV G' v v' ∧ RelS G' w0 s' w' := by
  unfold growX at h
  split at h
  · rename_i n
    cases hr with
    | cons _ v1 _ vs h1 ht =>
      cases ht with
      | cons _ v2 _ vs2 h2 ht2 =>
        cases ht2
        cases h1
        cases h2
        split at h
        · rename_i hn
          subst hn
          cases h
          have := Any8.slices_Grow_room growLaid none 0 0 0 w (by omega) (by omega) (by omega) (by omega)
          refine Calls.mono this ?_
          rintro e w' ⟨rfl, rfl⟩
          exact ⟨G, _, Gh.le_refl G, rfl, .nils, hS⟩
        · split at h
          · rename_i hn
            cases h
            obtain ⟨i, i1, i2, i3, i4⟩ := info5
            obtain ⟨m, rfl⟩ : ∃ m : Nat, n = (m : Int) := ⟨n.toNat, by omega⟩
            have := Any8.slices_Grow_grow growLaid i (.int .u8 0) i1 i4 (by omega) none 0 0 m [] w (by omega) (by omega) (by rw [i3]; omega) (by omega) (by simp) (fun _ => rfl) (fun a ha => by cases ha)
            refine Calls.mono this ?_
            rintro e w' ⟨rfl, rfl⟩
            have hge := grownCap_ge w (0 + m) 0 (growRen.t 25)
            have hle := grownCap_le_maxLen w (0 + m) 0 (growRen.t 25) (by unfold maxLen; omega)
            obtain ⟨G', q1, q2, q3⟩ := hS.drew.newSl 1 0 (grownCap w (0 + m) 0 (growRen.t 25)) [] (([] : List Value).toArray ++ Builtin.zeroCells (Value.int .u8 0).cells (0 + m - 0) ++ Builtin.zeroCells (Value.int .u8 0).cells (grownCap w (0 + m) 0 (growRen.t 25) - (0 + m))) (growRen.t 25) [] .nil rfl rfl (by omega) hle (by
              simp only [Array.size_append, Builtin.zeroCells, Array.size_map, Array.size_range, Value.cells]
              simp only [List.size_toArray, List.length_nil, List.length_cons]
              omega)
            exact ⟨G', _, q1, rfl, q2, q3⟩
          · cases h
  · cases h

theorem extOk (gl : Nat → AV) (w0 : World) : ExtOk Tryd.prog gl w0 ext := by
  refine ⟨fun f x h => ?_, fun f x args s v s' G w vals h hx hr hS hgl => ?_⟩
  · unfold ext at h
    split at h
    · rename_i hf; subst hf
      exact ⟨_, Tryd.func114, by kernel_rfl, by decide⟩
    · cases h
  · unfold ext at h
    split at h
    · rename_i hf; subst hf
      cases h
      exact grow_goes hx hr hS
    · cases h
/-- What the evaluator says of the program. -/
noncomputable def ev : Nat → Calls' := evF noGl (tableOf Tryd.prog) ext
theorem ev_ok (w0 : World) (k : Nat) : CallOk Tryd.prog noGl w0 (ev k) := evF_sound (tableOf_ok _) (extOk _ w0) mixed k
end Go.Proofs.YtochnineebgbgaaDoor
