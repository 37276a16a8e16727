/- slices.Grow at bytes, of nothing: what the evaluator is told of it. No conditions. -/
import Derived.Test.YtgflghhffmjojaaGreatDoorAbE
import Derived.Test.YtgflghhffmjojaaGreatDoorProg
import Derived.Shelf.Spec.SlicesGrow
import Derived.KernelRfl
set_option linter.unusedSimpArgs false
set_option linter.unusedVariables false
namespace Go.Proofs.YtgflghhffmjojaaGreatDoor
open Go Go.Ab Go.Shelf
def growRen : Go.Shelf.Ren := ⟨fun n => if n = 4 then 160 else n, fun n => if n = 22 then 47 else if n = 25 then 5 else n, fun n => n⟩
theorem growLaid : Lays8.n4 Tryz.prog growRen where
  mixed := by kernel_rfl
  f4 := ⟨Tryz.f160.name, by decide, Tryz.func160.trans (congrArg some (by kernel_rfl))⟩
  t0 := Tryz.underlying0
  a0 := Tryz.isAgg0
  z0 := Tryz.sizeOf0
  v0 := Tryz.zeroValue0
  t3 := Tryz.underlying3
  a3 := Tryz.isAgg3
  z3 := Tryz.sizeOf3
  v3 := Tryz.zeroValue3
  t4 := Tryz.underlying4
  a4 := Tryz.isAgg4
  z4 := Tryz.sizeOf4
  v4 := Tryz.zeroValue4
  t9 := Tryz.underlying9
  a9 := Tryz.isAgg9
  z9 := Tryz.sizeOf9
  v9 := Tryz.zeroValue9
  t20 := Tryz.underlying20
  a20 := Tryz.isAgg20
  z20 := Tryz.sizeOf20
  v20 := Tryz.zeroValue20
  t22 := Tryz.underlying47
  a22 := Tryz.isAgg47
  z22 := Tryz.sizeOf47
  v22 := Tryz.zeroValue47

theorem mixed : Tryz.prog.follows .mixedOrders = true := by kernel_rfl
def ext (i : Nat) : Option (List AV → St → Option (AV × St)) := if i = 160 then some growX else none
def bareInfo (o : Option TypeInfo) : Bool := match o with
  | some i => i.size == 1 && i.bytes == 1 && (match i.zero with
    | some (.int .u8 0) => true
    | _ => false)
  | none => false
theorem info5 : ∃ i, Tryz.prog.info? 5 = some i ∧ i.size = 1 ∧ i.bytes = 1 ∧ i.zero = some (.int .u8 0) := by
  have h : bareInfo (Tryz.prog.info? 5) = true := by kernel_rfl
  unfold bareInfo at h
  split at h
  · rename_i i hi
    simp only [Bool.and_eq_true, beq_iff_eq] at h
    obtain ⟨⟨h1, h2⟩, h3⟩ := h
    refine ⟨i, hi, h1, h2, ?_⟩
    split at h3
    · assumption
    · cases h3
  · cases h

theorem grow_goes {G : Gh} {w0 w : World} {s s' : St} {args : List AV} {vals : List Value} {v : AV} (h : growX args s = some (v, s')) (hr : RelT G args vals) (hS : RelS G w0 s w) :
    Calls Tryz.prog 160 vals.toArray w fun e w' => ∃ G' v', G.le G' ∧ e = .returned v' ∧ RelV G' v v' ∧ RelS G' w0 s' w' := by
  unfold growX at h
  split at h
  · rename_i n
    cases hr with
    | cons _ v1 _ vs h1 ht =>
      cases ht with
      | cons _ v2 _ vs2 h2 ht2 =>
        cases ht2
        cases h1
        cases h2
        split at h
        · rename_i hn
          subst hn
          cases h
          have := Any8.slices_Grow_room growLaid none 0 0 0 w (by omega) (by omega) (by omega) (by omega)
          refine Calls.mono this ?_
          rintro e w' ⟨rfl, rfl⟩
          exact ⟨G, _, Gh.le_refl G, rfl, .nils, hS⟩
        · split at h
          · rename_i hn
            cases h
            obtain ⟨i, i1, i2, i3, i4⟩ := info5
            obtain ⟨m, rfl⟩ : ∃ m : Nat, n = (m : Int) := ⟨n.toNat, by omega⟩
            have := Any8.slices_Grow_grow growLaid i (.int .u8 0) i1 i4 (by omega) none 0 0 m [] w (by omega) (by omega) (by rw [i3]; omega) (by omega) (by simp) (fun _ => rfl) (fun a ha => by cases ha)
            refine Calls.mono this ?_
            rintro e w' ⟨rfl, rfl⟩
            have hge := grownCap_ge w (0 + m) 0 (growRen.t 25)
            have hle := grownCap_le_maxLen w (0 + m) 0 (growRen.t 25) (by unfold maxLen; omega)
            obtain ⟨G', q1, q2, q3⟩ := hS.drew.newSl 1 0 (grownCap w (0 + m) 0 (growRen.t 25)) [] (([] : List Value).toArray ++ Builtin.zeroCells (Value.int .u8 0).cells (0 + m - 0) ++ Builtin.zeroCells (Value.int .u8 0).cells (grownCap w (0 + m) 0 (growRen.t 25) - (0 + m))) (growRen.t 25) [] .nil rfl rfl (by omega) hle (by
              simp only [Array.size_append, Builtin.zeroCells, Array.size_map, Array.size_range, Value.cells]
              simp only [List.size_toArray, List.length_nil, List.length_cons]
              omega)
            exact ⟨G', _, q1, rfl, q2, q3⟩
          · cases h
  · cases h

theorem extOk (gl : Nat → AV) (w0 : World) : ExtOk Tryz.prog gl w0 ext := by
  refine ⟨fun f x h => ?_, fun f x args s v s' G w vals h hx hr hS hgl => ?_⟩
  · unfold ext at h
    split at h
    · rename_i hf; subst hf
      exact ⟨_, Tryz.func160, by kernel_rfl, by decide⟩
    · cases h
  · unfold ext at h
    split at h
    · rename_i hf; subst hf
      cases h
      exact grow_goes hx hr hS
    · cases h
end Go.Proofs.YtgflghhffmjojaaGreatDoor
