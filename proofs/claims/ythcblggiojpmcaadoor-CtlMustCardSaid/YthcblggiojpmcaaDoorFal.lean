/- ctl's MustI, MustS, MustU and the law's falls, which recovers from them: walked by the kit, handed to the evaluator. No conditions. -/
import Derived.Test.YthcblggiojpmcaaDoorL2
import Derived.Tactics
import Derived.Tactics2
import Derived.Defers
import Derived.Recover
import Derived.KernelRfl
import Derived.Laws.Pointers
import Derived.Laws.NewBlocks
import Derived.Below
set_option linter.unusedSimpArgs false
set_option linter.unusedVariables false
namespace Go.Proofs.YthcblggiojpmcaaDoor
open Go
theorem eqd (P : Program) (t : TypeId) (x y : Value) (w : World) (b : Bool) (h : ∀ d, (Op.equalIn (d + 1) t x y).run P w = .ok b w) : (Op.equal t x y).run P w = .ok b w := h _
theorem ne1 (u : TypeId) (pv : Value) (w : World) : (Sem.run Tryd.prog (binOp BinOp.neq 20 (Value.iface u pv) Value.nilIface) w) = .ok (.bool true) w := by
  have h := eqd Tryd.prog 20 (Value.iface u pv) Value.nilIface w false (fun d => by simp [Op.equalIn, run_underlying Tryd.underlying20])
  simp only [binOp, Sem.run_bind, h, Result.andThen_ok]
  rfl
theorem ne2 (w : World) : (Sem.run Tryd.prog (binOp BinOp.neq 20 Value.nilIface Value.nilIface) w) = .ok (.bool false) w := by
  have h := eqd Tryd.prog 20 Value.nilIface Value.nilIface w true (fun d => by simp [Op.equalIn, run_underlying Tryd.underlying20])
  simp only [binOp, Sem.run_bind, h, Result.andThen_ok]
  rfl
theorem catch_panicking (p : Addr) (x : Bool) (u : TypeId) (pv : Value) (older : List PanicEntry) (w : World) (hc : w.cell? p = some (.bool x)) (hz : w.frozen? p = false) :
    CallsD Tryd.prog 73 #[.pointer (some p)] (.panicking ({ v := .iface u pv, recovered := false } :: older)) w fun e u' w' =>
      e = .returned (.tuple #[]) ∧ u' = .panicking ({ v := .iface u pv, recovered := true } :: older) ∧ w' = w.setCell p (.bool true) := by
  refine callsD_of_wpS Tryd.func73 rfl fun c₀ cs hu => ?_
  have h1 := ne1
  apply wpS_region
  simp [wpOpsS, go_sem, recoverD, hu, Tryd.ntmps73, hc, hz, bodyPostS, results, Tryd.results73, h1]
theorem catch_idle (p : Addr) (x : Bool) (w : World) (hc : w.cell? p = some (.bool x)) (hz : w.frozen? p = false) :
    CallsD Tryd.prog 73 #[.pointer (some p)] .returning w fun e u' w' => e = .returned (.tuple #[]) ∧ u' = .returning ∧ w' = w.setCell p (.bool false) := by
  refine callsD_of_wpS Tryd.func73 rfl fun c₀ cs hu => ?_
  have h2 := ne2
  apply wpS_region
  simp [wpOpsS, go_sem, recoverD, hu, Tryd.ntmps73, hc, hz, bodyPostS, results, Tryd.results73, h2]
  cases c₀
  simp_all
def isPtr (P : Program) (t : TypeId) : Bool := match P.underlying t with
  | some (.pointer _) => true
  | _ => false
theorem isPtr_of {P : Program} {t : TypeId} (h : isPtr P t = true) : ∃ e, P.underlying t = some (.pointer e) := by
  unfold isPtr at h
  split at h
  · rename_i e he; exact ⟨e, he⟩
  · cases h
theorem rp_run (i c : Option TypeId) (a : TypeId) (m : String) (w : World) : ∃ u pv o, (Sem.run Tryd.prog (runtimePanic (.typeAssertion i c a m) : Sem Value) w) = .halt (.panic (.iface u pv)) (w.alloc o) := by
  obtain ⟨e, hu⟩ := isPtr_of (P := Tryd.prog) (t := Tryd.prog.rt.typeAssertionError) (by kernel_rfl)
  simp only [runtimePanic, elemOf, newVar, newRow, Sem.run_bind, run_program, run_underlying hu, Result.andThen_ok, Sem.run_pure, run_newObj, run_goPanic]
  exact ⟨_, _, _, rfl⟩
theorem ta_fail (x : Value) (T : TypeId) (hT : T = 64 ∨ T = 84 ∨ T = 86) (hx : x = .nilIface ∨ ∃ t v, x = .iface t v ∧ t ≠ T) (w : World) :
    ∃ u pv o, (Sem.run Tryd.prog (Instr.typeAssert x 20 T false) w) = .halt (.panic (.iface u pv)) (w.alloc o) := by
  have hu : ∃ fs, Tryd.prog.underlying T = some (.struct fs) := by
    rcases hT with rfl | rfl | rfl
    · exact ⟨_, Tryd.underlying64⟩
    · exact ⟨_, Tryd.underlying84⟩
    · exact ⟨_, Tryd.underlying86⟩
  obtain ⟨fs, hu⟩ := hu
  rcases hx with rfl | ⟨t, v, rfl, ht⟩
  · obtain ⟨u, pv, o, h⟩ := rp_run (some 20) none T "" w
    refine ⟨u, pv, o, ?_⟩
    simp only [Instr.typeAssert, Sem.run_bind, run_underlying hu, Result.andThen_ok]
    exact h
  · obtain ⟨u, pv, o, h⟩ := rp_run (some 20) (some t) T "" w
    refine ⟨u, pv, o, ?_⟩
    simp only [Instr.typeAssert, Sem.run_bind, run_underlying hu, Result.andThen_ok]
    rw [if_neg ht]
    exact h
theorem ta_holds (t : TypeId) (hT : t = 64 ∨ t = 84 ∨ t = 86) (v : Value) (w : World) : (Sem.run Tryd.prog (Instr.typeAssert (.iface t v) 20 t false) w) = .ok v w := by
  have hu : ∃ fs, Tryd.prog.underlying t = some (.struct fs) := by
    rcases hT with rfl | rfl | rfl
    · exact ⟨_, Tryd.underlying64⟩
    · exact ⟨_, Tryd.underlying84⟩
    · exact ⟨_, Tryd.underlying86⟩
  obtain ⟨fs, hu⟩ := hu
  simp only [Instr.typeAssert, Sem.run_bind, run_underlying hu, Result.andThen_ok, if_true, Bool.false_eq_true, if_false]
  rfl

theorem cell_lt {w : World} {a : Addr} {v : Value} (h : w.cell? a = some v) : a.block < w.heap.size := by
  unfold World.cell? at h
  split at h
  · rename_i hb; exact (Array.getElem?_eq_some_iff.1 hb).1
  · cases h
theorem sizeA (w : World) (o : Obj) : (w.alloc o).heap.size = w.heap.size + 1 := Array.size_push _
theorem belA {B : Nat} {w : World} (h : B ≤ w.heap.size) (o : Obj) {w0 : World} (hb : Go.RowKit.Below B w0 w) : Go.RowKit.Below B w0 (w.alloc o) := hb.alloc h o

set_option maxRecDepth 100000 in
set_option maxHeartbeats 1000000 in
theorem must60 (a b : Int) (p : Bool) (w : World) :
    Calls Tryd.prog 60 #[.iface 64 (.agg #[.int .i64 a, .int .i64 b, .bool p])] w fun e w' => e = .returned (.agg #[.int .i64 a, .int .i64 b, .bool p]) ∧ w' = w.alloc (Obj.cells #[.int .i64 a, .int .i64 b, .bool p] 64) := by
  have hta := ta_holds 64 (.inl rfl) (.agg #[.int .i64 a, .int .i64 b, .bool p])
  go_enter Tryd.func60, Tryd.ntmps60
  go_wp2
  refine ⟨rfl, ?_⟩
  simp [results, Tryd.results60, go_sem]
set_option maxRecDepth 100000 in
set_option maxHeartbeats 1000000 in
theorem falls_no1 (x : Value) (hx : x = .nilIface ∨ ∃ t v, x = .iface t v ∧ t ≠ 64) (w : World) :
    Calls Tryd.prog 58 #[x, .int .i64 1] w fun e w' => e = .returned (.bool true) ∧ Go.RowKit.Below w.heap.size w w' := by
  have hmf : ∀ (fn : Fn) (first cap : Array Value) (w : World), (Instr.makeFunc fn first cap).run Tryd.prog w = .ok (.func fn first cap) w := fun _ _ _ _ => rfl
  obtain ⟨u, pv, o, hta⟩ := ta_fail x 64 (.inl rfl) hx ((w.alloc (Obj.cells #[Value.bool false] 4)).alloc (Obj.cells #[.int .i64 0, .int .i64 0, .bool false] 64))
  go_enter_defers Tryd.func58, Tryd.ntmps58
  go_wp2
  refine ⟨rfl, ?_⟩
  change Leaves Tryd.prog Tryd.f58 _ _ _ _ _
  refine leaves_cons (f := 73) (args := #[.pointer (some ⟨w.heap.size, 0, none⟩)]) (u := .panicking _) (by simp) (by simp [go_sem]) ?_
  refine CallsD.mono (catch_panicking ⟨w.heap.size, 0, none⟩ false u pv [] _ ?_ ?_) ?_
  · rw [World.cell?_alloc_past _ _ _ (by simp only [sizeA]; omega), World.cell?_alloc_past _ _ _ (by rw [sizeA]; omega), World.cell?_alloc_at _ _ _ _ rfl]; rfl
  · rw [World.frozen?_alloc_past _ _ _ (by simp only [sizeA]; omega), World.frozen?_alloc_past _ _ _ (by rw [sizeA]; omega), World.frozen?_alloc_at _ _ _ _ rfl]
  rintro e u' w'' ⟨rfl, rfl, rfl⟩
  rw [World.setCell_alloc_past _ _ _ _ (by simp only [sizeA]; omega), World.setCell_alloc_past _ _ _ _ (by rw [sizeA]; omega), World.setCell_alloc_at _ _ _ _ _ rfl, show #[Value.bool false].setIfInBounds 0 (Value.bool true) = #[Value.bool true] from rfl]
  have hc : (((w.alloc (Obj.cells #[Value.bool true] 4)).alloc (Obj.cells #[.int .i64 0, .int .i64 0, .bool false] 64)).alloc o).cell? ⟨w.heap.size, 0, none⟩ = some (.bool true) := by
    rw [World.cell?_alloc_past _ _ _ (by simp only [sizeA]; omega), World.cell?_alloc_past _ _ _ (by rw [sizeA]; omega), World.cell?_alloc_at _ _ _ _ rfl]; rfl
  refine ⟨.bool true, by simp [results, Tryd.results58, go_sem, hc], rfl, ?_⟩
  exact belA (by simp only [sizeA]; omega) _ (belA (by rw [sizeA]; omega) _ (belA (Nat.le_refl _) _ (Go.RowKit.Below.refl _ _)))
set_option maxRecDepth 100000 in
set_option maxHeartbeats 1000000 in
theorem falls_yes1 (a b : Int) (p : Bool) (w : World) :
    Calls Tryd.prog 58 #[.iface 64 (.agg #[.int .i64 a, .int .i64 b, .bool p]), .int .i64 1] w fun e w' => e = .returned (.bool false) ∧ Go.RowKit.Below w.heap.size w w' := by
  have hmf : ∀ (fn : Fn) (first cap : Array Value) (w : World), (Instr.makeFunc fn first cap).run Tryd.prog w = .ok (.func fn first cap) w := fun _ _ _ _ => rfl
  go_enter_defers Tryd.func58, Tryd.ntmps58
  go_wp2_with (go_at_call 60; refine (must60 _ _ _ _).mono ?_; rintro e w' ⟨rfl, rfl⟩)
  refine leaves_cons (f := 73) (args := #[.pointer (some ⟨w.heap.size, 0, none⟩)]) (by simp) (by simp [go_sem]) ?_
  refine CallsD.mono (catch_idle ⟨w.heap.size, 0, none⟩ false _ ?_ ?_) ?_
  · rw [World.cell?_alloc_past _ _ _ (by rw [sizeA]; omega), World.cell?_alloc_at _ _ _ _ rfl]; rfl
  · rw [World.frozen?_alloc_past _ _ _ (by rw [sizeA]; omega), World.frozen?_alloc_at _ _ _ _ rfl]
  rintro e u' w'' ⟨rfl, rfl, rfl⟩
  rw [World.setCell_alloc_past _ _ _ _ (by rw [sizeA]; omega), World.setCell_alloc_at _ _ _ _ _ rfl]
  have hc : ((w.alloc (Obj.cells (#[Value.bool false].setIfInBounds 0 (Value.bool false)) 4)).alloc (Obj.cells #[.int .i64 a, .int .i64 b, .bool p] 64)).cell? ⟨w.heap.size, 0, none⟩ = some (.bool false) := by
    rw [World.cell?_alloc_past _ _ _ (by rw [sizeA]; omega), World.cell?_alloc_at _ _ _ _ rfl]; rfl
  refine ⟨.bool false, by simp [results, Tryd.results58, go_sem], rfl, ?_⟩
  exact belA (by rw [sizeA]; omega) _ (belA (Nat.le_refl _) _ (Go.RowKit.Below.refl _ _))

set_option maxRecDepth 100000 in
set_option maxHeartbeats 1000000 in
theorem must61 (a b : Int) (p : Bool) (w : World) :
    Calls Tryd.prog 61 #[.iface 84 (.agg #[.int .i64 a, .int .i64 b, .bool p])] w fun e w' => e = .returned (.agg #[.int .i64 a, .int .i64 b, .bool p]) ∧ w' = w.alloc (Obj.cells #[.int .i64 a, .int .i64 b, .bool p] 84) := by
  have hta := ta_holds 84 (.inr (.inl rfl)) (.agg #[.int .i64 a, .int .i64 b, .bool p])
  go_enter Tryd.func61, Tryd.ntmps61
  go_wp2
  refine ⟨rfl, ?_⟩
  simp [results, Tryd.results61, go_sem]
set_option maxRecDepth 100000 in
set_option maxHeartbeats 1000000 in
theorem falls_no2 (x : Value) (hx : x = .nilIface ∨ ∃ t v, x = .iface t v ∧ t ≠ 84) (w : World) :
    Calls Tryd.prog 58 #[x, .int .i64 2] w fun e w' => e = .returned (.bool true) ∧ Go.RowKit.Below w.heap.size w w' := by
  have hmf : ∀ (fn : Fn) (first cap : Array Value) (w : World), (Instr.makeFunc fn first cap).run Tryd.prog w = .ok (.func fn first cap) w := fun _ _ _ _ => rfl
  obtain ⟨u, pv, o, hta⟩ := ta_fail x 84 (.inr (.inl rfl)) hx ((w.alloc (Obj.cells #[Value.bool false] 4)).alloc (Obj.cells #[.int .i64 0, .int .i64 0, .bool false] 84))
  go_enter_defers Tryd.func58, Tryd.ntmps58
  go_wp2
  refine ⟨rfl, ?_⟩
  change Leaves Tryd.prog Tryd.f58 _ _ _ _ _
  refine leaves_cons (f := 73) (args := #[.pointer (some ⟨w.heap.size, 0, none⟩)]) (u := .panicking _) (by simp) (by simp [go_sem]) ?_
  refine CallsD.mono (catch_panicking ⟨w.heap.size, 0, none⟩ false u pv [] _ ?_ ?_) ?_
  · rw [World.cell?_alloc_past _ _ _ (by simp only [sizeA]; omega), World.cell?_alloc_past _ _ _ (by rw [sizeA]; omega), World.cell?_alloc_at _ _ _ _ rfl]; rfl
  · rw [World.frozen?_alloc_past _ _ _ (by simp only [sizeA]; omega), World.frozen?_alloc_past _ _ _ (by rw [sizeA]; omega), World.frozen?_alloc_at _ _ _ _ rfl]
  rintro e u' w'' ⟨rfl, rfl, rfl⟩
  rw [World.setCell_alloc_past _ _ _ _ (by simp only [sizeA]; omega), World.setCell_alloc_past _ _ _ _ (by rw [sizeA]; omega), World.setCell_alloc_at _ _ _ _ _ rfl, show #[Value.bool false].setIfInBounds 0 (Value.bool true) = #[Value.bool true] from rfl]
  have hc : (((w.alloc (Obj.cells #[Value.bool true] 4)).alloc (Obj.cells #[.int .i64 0, .int .i64 0, .bool false] 84)).alloc o).cell? ⟨w.heap.size, 0, none⟩ = some (.bool true) := by
    rw [World.cell?_alloc_past _ _ _ (by simp only [sizeA]; omega), World.cell?_alloc_past _ _ _ (by rw [sizeA]; omega), World.cell?_alloc_at _ _ _ _ rfl]; rfl
  refine ⟨.bool true, by simp [results, Tryd.results58, go_sem, hc], rfl, ?_⟩
  exact belA (by simp only [sizeA]; omega) _ (belA (by rw [sizeA]; omega) _ (belA (Nat.le_refl _) _ (Go.RowKit.Below.refl _ _)))
set_option maxRecDepth 100000 in
set_option maxHeartbeats 1000000 in
theorem falls_yes2 (a b : Int) (p : Bool) (w : World) :
    Calls Tryd.prog 58 #[.iface 84 (.agg #[.int .i64 a, .int .i64 b, .bool p]), .int .i64 2] w fun e w' => e = .returned (.bool false) ∧ Go.RowKit.Below w.heap.size w w' := by
  have hmf : ∀ (fn : Fn) (first cap : Array Value) (w : World), (Instr.makeFunc fn first cap).run Tryd.prog w = .ok (.func fn first cap) w := fun _ _ _ _ => rfl
  go_enter_defers Tryd.func58, Tryd.ntmps58
  go_wp2_with (go_at_call 61; refine (must61 _ _ _ _).mono ?_; rintro e w' ⟨rfl, rfl⟩)
  refine leaves_cons (f := 73) (args := #[.pointer (some ⟨w.heap.size, 0, none⟩)]) (by simp) (by simp [go_sem]) ?_
  refine CallsD.mono (catch_idle ⟨w.heap.size, 0, none⟩ false _ ?_ ?_) ?_
  · rw [World.cell?_alloc_past _ _ _ (by rw [sizeA]; omega), World.cell?_alloc_at _ _ _ _ rfl]; rfl
  · rw [World.frozen?_alloc_past _ _ _ (by rw [sizeA]; omega), World.frozen?_alloc_at _ _ _ _ rfl]
  rintro e u' w'' ⟨rfl, rfl, rfl⟩
  rw [World.setCell_alloc_past _ _ _ _ (by rw [sizeA]; omega), World.setCell_alloc_at _ _ _ _ _ rfl]
  have hc : ((w.alloc (Obj.cells (#[Value.bool false].setIfInBounds 0 (Value.bool false)) 4)).alloc (Obj.cells #[.int .i64 a, .int .i64 b, .bool p] 84)).cell? ⟨w.heap.size, 0, none⟩ = some (.bool false) := by
    rw [World.cell?_alloc_past _ _ _ (by rw [sizeA]; omega), World.cell?_alloc_at _ _ _ _ rfl]; rfl
  refine ⟨.bool false, by simp [results, Tryd.results58, go_sem], rfl, ?_⟩
  exact belA (by rw [sizeA]; omega) _ (belA (Nat.le_refl _) _ (Go.RowKit.Below.refl _ _))

set_option maxRecDepth 100000 in
set_option maxHeartbeats 1000000 in
theorem must62 (a : Int) (p : Bool) (w : World) :
    Calls Tryd.prog 62 #[.iface 86 (.agg #[.int .i64 a, .bool p])] w fun e w' => e = .returned (.agg #[.int .i64 a, .bool p]) ∧ w' = w.alloc (Obj.cells #[.int .i64 a, .bool p] 86) := by
  have hta := ta_holds 86 (.inr (.inr rfl)) (.agg #[.int .i64 a, .bool p])
  go_enter Tryd.func62, Tryd.ntmps62
  go_wp2
  refine ⟨rfl, ?_⟩
  simp [results, Tryd.results62, go_sem]
set_option maxRecDepth 100000 in
set_option maxHeartbeats 1000000 in
theorem falls_no3 (x : Value) (hx : x = .nilIface ∨ ∃ t v, x = .iface t v ∧ t ≠ 86) (w : World) :
    Calls Tryd.prog 58 #[x, .int .i64 3] w fun e w' => e = .returned (.bool true) ∧ Go.RowKit.Below w.heap.size w w' := by
  have hmf : ∀ (fn : Fn) (first cap : Array Value) (w : World), (Instr.makeFunc fn first cap).run Tryd.prog w = .ok (.func fn first cap) w := fun _ _ _ _ => rfl
  obtain ⟨u, pv, o, hta⟩ := ta_fail x 86 (.inr (.inr rfl)) hx ((w.alloc (Obj.cells #[Value.bool false] 4)).alloc (Obj.cells #[.int .i64 0, .bool false] 86))
  go_enter_defers Tryd.func58, Tryd.ntmps58
  go_wp2
  refine ⟨rfl, ?_⟩
  change Leaves Tryd.prog Tryd.f58 _ _ _ _ _
  refine leaves_cons (f := 73) (args := #[.pointer (some ⟨w.heap.size, 0, none⟩)]) (u := .panicking _) (by simp) (by simp [go_sem]) ?_
  refine CallsD.mono (catch_panicking ⟨w.heap.size, 0, none⟩ false u pv [] _ ?_ ?_) ?_
  · rw [World.cell?_alloc_past _ _ _ (by simp only [sizeA]; omega), World.cell?_alloc_past _ _ _ (by rw [sizeA]; omega), World.cell?_alloc_at _ _ _ _ rfl]; rfl
  · rw [World.frozen?_alloc_past _ _ _ (by simp only [sizeA]; omega), World.frozen?_alloc_past _ _ _ (by rw [sizeA]; omega), World.frozen?_alloc_at _ _ _ _ rfl]
  rintro e u' w'' ⟨rfl, rfl, rfl⟩
  rw [World.setCell_alloc_past _ _ _ _ (by simp only [sizeA]; omega), World.setCell_alloc_past _ _ _ _ (by rw [sizeA]; omega), World.setCell_alloc_at _ _ _ _ _ rfl, show #[Value.bool false].setIfInBounds 0 (Value.bool true) = #[Value.bool true] from rfl]
  have hc : (((w.alloc (Obj.cells #[Value.bool true] 4)).alloc (Obj.cells #[.int .i64 0, .bool false] 86)).alloc o).cell? ⟨w.heap.size, 0, none⟩ = some (.bool true) := by
    rw [World.cell?_alloc_past _ _ _ (by simp only [sizeA]; omega), World.cell?_alloc_past _ _ _ (by rw [sizeA]; omega), World.cell?_alloc_at _ _ _ _ rfl]; rfl
  refine ⟨.bool true, by simp [results, Tryd.results58, go_sem, hc], rfl, ?_⟩
  exact belA (by simp only [sizeA]; omega) _ (belA (by rw [sizeA]; omega) _ (belA (Nat.le_refl _) _ (Go.RowKit.Below.refl _ _)))
set_option maxRecDepth 100000 in
set_option maxHeartbeats 1000000 in
theorem falls_yes3 (a : Int) (p : Bool) (w : World) :
    Calls Tryd.prog 58 #[.iface 86 (.agg #[.int .i64 a, .bool p]), .int .i64 3] w fun e w' => e = .returned (.bool false) ∧ Go.RowKit.Below w.heap.size w w' := by
  have hmf : ∀ (fn : Fn) (first cap : Array Value) (w : World), (Instr.makeFunc fn first cap).run Tryd.prog w = .ok (.func fn first cap) w := fun _ _ _ _ => rfl
  go_enter_defers Tryd.func58, Tryd.ntmps58
  go_wp2_with (go_at_call 62; refine (must62 _ _ _).mono ?_; rintro e w' ⟨rfl, rfl⟩)
  refine leaves_cons (f := 73) (args := #[.pointer (some ⟨w.heap.size, 0, none⟩)]) (by simp) (by simp [go_sem]) ?_
  refine CallsD.mono (catch_idle ⟨w.heap.size, 0, none⟩ false _ ?_ ?_) ?_
  · rw [World.cell?_alloc_past _ _ _ (by rw [sizeA]; omega), World.cell?_alloc_at _ _ _ _ rfl]; rfl
  · rw [World.frozen?_alloc_past _ _ _ (by rw [sizeA]; omega), World.frozen?_alloc_at _ _ _ _ rfl]
  rintro e u' w'' ⟨rfl, rfl, rfl⟩
  rw [World.setCell_alloc_past _ _ _ _ (by rw [sizeA]; omega), World.setCell_alloc_at _ _ _ _ _ rfl]
  have hc : ((w.alloc (Obj.cells (#[Value.bool false].setIfInBounds 0 (Value.bool false)) 4)).alloc (Obj.cells #[.int .i64 a, .bool p] 86)).cell? ⟨w.heap.size, 0, none⟩ = some (.bool false) := by
    rw [World.cell?_alloc_past _ _ _ (by rw [sizeA]; omega), World.cell?_alloc_at _ _ _ _ rfl]; rfl
  refine ⟨.bool false, by simp [results, Tryd.results58, go_sem], rfl, ?_⟩
  exact belA (by rw [sizeA]; omega) _ (belA (Nat.le_refl _) _ (Go.RowKit.Below.refl _ _))
open Go.Ab
/-- Functions that leave what was there as it was, shown by themselves. -/
theorem extOk_addK {P : Program} {gl : Nat → AV} {ext : Nat → Option (List AV → St → Option (AV × St))} (hx : ∀ w0, ExtOk P gl w0 ext)
    (L : Nat → Option (List AV → St → Option AV)) (hT : ∀ f h, L f = some h → ∃ fn, P.funcs[f]? = some fn ∧ fn.body.isSome = true ∧ (fn.name == "runtime.NumGoroutine") = false)
    (hL : ∀ f h, L f = some h → ∀ args s v, h args s = some v → flat v = true ∧ ∀ (G : Gh) vals w, RelT G args vals → Calls P f vals.toArray w fun e w' => ∃ v', e = .returned v' ∧ RelV G v v' ∧ Go.RowKit.Below w.heap.size w w') (w0 : World) : ExtOk P gl w0 (extWith ext L) := by
  refine ⟨fun f x hf => ?_, fun f x args s v s' G w vals hf hv hr hS hgl => ?_⟩
  · unfold extWith at hf
    split at hf
    · rename_i h hh; exact hT f h hh
    · exact (hx w0).there f x hf
  · unfold extWith at hf
    split at hf
    · rename_i h hh
      cases hf
      obtain ⟨v1, h1, h2⟩ := Option.map_eq_some_iff.1 hv
      cases h2
      obtain ⟨p1, p2⟩ := hL f h hh (args.map dry1) s v h1
      refine (p2 G vals w (dryT_rel hr)).mono fun e w' => ?_
      rintro ⟨v', g2, g3, hB⟩
      have g4 : RelS (G.bare w) w St.nil w' := by
        obtain ⟨pl, h⟩ := hS
        refine ⟨fun _ => 0, hB, hB.size, fun g o v hi => ?_, fun b hb => ⟨rfl, rfl, rfl, fun _ => rfl⟩, fun b o h => ?_, fun b c o q h => ?_, fun b v T h => ?_, fun b h => ?_⟩
        · obtain ⟨q1, q2⟩ := h.imm g o v hi
          exact ⟨(hB.cell (p := ⟨g, o, none⟩) (cell_lt q1)).trans q1, q2⟩
        · cases h
        · cases h
        · cases h
        · cases h
      obtain ⟨l1, l2⟩ := hS.behind g4 (Gh.le_refl _)
      exact ⟨_, v', l1, g2, flat_rel (G := G) (fun _ _ _ h => h) p1 g3, l2⟩
    · exact (hx w0).goes f x args s v s' G w vals hf hv hr hS hgl
/-! falls, as what it answers. -/
def _root_.Go.Proofs.YthcblggiojpmcaaDoor.Ct.tag : Ct → Int
  | .i _ _ _ => 1
  | .s _ _ _ => 2
  | .u _ _ => 3
  | .n => 0
def hFalls : List AV → St → Option AV
  | [v, .int .i64 k], _ => if k = 1 ∨ k = 2 ∨ k = 3 then (toCt v).map fun c => .bool (decide (c.tag ≠ k)) else none
  | _, _ => none
theorem ct_val {G : Gh} {c : Ct} {v : Value} (h : RelV G c.av v) : (∃ a b p, c = .i a b p ∧ v = .iface 64 (.agg #[.int .i64 a, .int .i64 b, .bool p])) ∨ (∃ a b p, c = .s a b p ∧ v = .iface 84 (.agg #[.int .i64 a, .int .i64 b, .bool p])) ∨
    (∃ a p, c = .u a p ∧ v = .iface 86 (.agg #[.int .i64 a, .bool p])) ∨ (c = .n ∧ v = .nilIface) := by
  cases c with
  | i a b p =>
    cases h with | iface _ _ v h => cases h with | agg _ vs h =>
    obtain ⟨vs⟩ := vs
    cases h with | cons _ _ _ _ h0 _ h => cases h0; cases h with | cons _ _ _ _ h0 _ h => cases h0; cases h with | cons _ _ _ _ h0 _ h => cases h0; cases h; exact .inl ⟨_, _, _, rfl, rfl⟩
  | s a b p =>
    cases h with | iface _ _ v h => cases h with | agg _ vs h =>
    obtain ⟨vs⟩ := vs
    cases h with | cons _ _ _ _ h0 _ h => cases h0; cases h with | cons _ _ _ _ h0 _ h => cases h0; cases h with | cons _ _ _ _ h0 _ h => cases h0; cases h; exact .inr (.inl ⟨_, _, _, rfl, rfl⟩)
  | u a p =>
    cases h with | iface _ _ v h => cases h with | agg _ vs h =>
    obtain ⟨vs⟩ := vs
    cases h with | cons _ _ _ _ h0 _ h => cases h0; cases h with | cons _ _ _ _ h0 _ h => cases h0; cases h; exact .inr (.inr (.inl ⟨_, _, rfl, rfl⟩))
  | n => cases h; exact .inr (.inr (.inr ⟨rfl, rfl⟩))
theorem falls_run {G : Gh} {c : Ct} {v : Value} {k : Int} (hk : k = 1 ∨ k = 2 ∨ k = 3) (h : RelV G c.av v) (w : World) :
    Calls Tryd.prog 58 #[v, .int .i64 k] w fun e w' => e = .returned (.bool (decide (c.tag ≠ k))) ∧ Go.RowKit.Below w.heap.size w w' := by
  rcases ct_val h with ⟨a, b, p, rfl, rfl⟩ | ⟨a, b, p, rfl, rfl⟩ | ⟨a, p, rfl, rfl⟩ | ⟨rfl, rfl⟩ <;> rcases hk with rfl | rfl | rfl
  · exact falls_yes1 a b p w
  · exact falls_no2 _ (.inr ⟨_, _, rfl, by decide⟩) w
  · exact falls_no3 _ (.inr ⟨_, _, rfl, by decide⟩) w
  · exact falls_no1 _ (.inr ⟨_, _, rfl, by decide⟩) w
  · exact falls_yes2 a b p w
  · exact falls_no3 _ (.inr ⟨_, _, rfl, by decide⟩) w
  · exact falls_no1 _ (.inr ⟨_, _, rfl, by decide⟩) w
  · exact falls_no2 _ (.inr ⟨_, _, rfl, by decide⟩) w
  · exact falls_yes3 a p w
  · exact falls_no1 _ (.inl rfl) w
  · exact falls_no2 _ (.inl rfl) w
  · exact falls_no3 _ (.inl rfl) w
def lstM (f : Nat) : Option (List AV → St → Option AV) := if f = 58 then some hFalls else none
noncomputable def extM := extWith ext1 lstM
theorem extM_ok : ∀ w0, ExtOk Tryd.prog tabGl w0 extM := extOk_addK ext1_ok lstM (by
  intro f h hf
  unfold lstM at hf
  rcases some_of hf with ⟨rfl, rfl⟩ | hf
  · exact ⟨_, Tryd.func58, rfl, by kernel_rfl⟩
  cases hf) (by
  intro f h hf args s v hv
  unfold lstM at hf
  rcases some_of hf with ⟨rfl, rfl⟩ | hf
  · unfold hFalls at hv
    split at hv
    · split at hv
      · rename_i hk
        obtain ⟨c, hc, rfl⟩ := one_of hv
        rw [toCt_of hc]
        refine ⟨rfl, fun G vals w hr => ?_⟩
        cases hr with | cons _ v0 _ _ h0 hr => cases hr with | cons _ _ _ _ h1 hr => cases h1; cases hr; exact (falls_run hk h0 w).mono fun e w' ⟨he, hB⟩ => ⟨_, he, .bool _, hB⟩
      · cases hv
    · cases hv
  cases hf)
end Go.Proofs.YthcblggiojpmcaaDoor
