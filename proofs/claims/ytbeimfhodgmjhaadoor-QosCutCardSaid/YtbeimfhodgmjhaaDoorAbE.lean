/- The evaluator, at a law's beginning: the memory as it is handed over. No conditions. -/
import Derived.Test.YtbeimfhodgmjhaaDoorAb12
set_option linter.unusedSimpArgs false
set_option linter.unusedVariables false
namespace Go.Ab
open Go

/-- What is known of the memory that a call finds. -/
def Gh.start (w : World) : Gh :=
  ⟨w.heap.size, fun g o => (w.cell? ⟨g, o, none⟩).bind fun v => if v.oneCell' then some v else none, fun _ => none, fun _ => none, fun _ _ => none, fun _ => false⟩
def St.nil : St := ⟨[], 0⟩
theorem RelS.start (w : World) : RelS (Gh.start w) w St.nil w := by
  refine ⟨fun _ => 0, Go.RowKit.Below.refl _ _, Nat.le_refl _, fun g o v h => ?_, fun b hb => ⟨rfl, rfl, rfl, fun _ => rfl⟩, fun b o h => ?_, fun b c o q h => ?_, fun b v T h => ?_, fun b h => ?_⟩
  · obtain ⟨u, h1, h2⟩ := Option.bind_eq_some_iff.1 h
    split at h2
    · rename_i h3; cases h2; exact ⟨h1, h3⟩
    · cases h2
  · cases h
  · cases h
  · cases h
  · cases h
theorem start_imm {w : World} {g o : Nat} {v : Value} (h : w.cell? ⟨g, o, none⟩ = some v) (h1 : v.oneCell' = true) : (Gh.start w).imm g o = some v := by
  simp [Gh.start, h, h1]
theorem RelS.belowOf {G : Gh} {w0 w : World} {s : St} (h : RelS G w0 s w) : Go.RowKit.Below G.base w0 w := by obtain ⟨pl, h⟩ := h; exact h.below

def noGl : Nat → AV := fun _ => .undef
def saysTrue : Option (AV × St) → Bool
  | some (.bool true, _) => true
  | _ => false
theorem saysTrue_spec {r : Option (AV × St)} (h : saysTrue r = true) : ∃ s', r = some (.bool true, s') := by
  unfold saysTrue at h
  split at h
  · exact ⟨_, rfl⟩
  · cases h
/-- A law's call: what the evaluator says is so. -/
theorem calls_trueG {P : Program} {w : World} {gl : Nat → AV} {call : Calls'} (hgl : ∀ g, RelV (Gh.start w) (gl g) (.pointer (some ⟨g, 0, none⟩))) (hc : CallOk P gl w call) {f : Nat} {args : List AV} {vals : List Value}
    (hv : saysTrue (call f args St.nil) = true) (hr : RelT (Gh.start w) args vals) :
    Calls P f vals.toArray w fun e w' => e = .returned (.bool true) ∧ Go.RowKit.Below w.heap.size w w' := by
  obtain ⟨s', hv⟩ := saysTrue_spec hv
  refine (hc.goes f args St.nil _ s' _ w vals hv hr (RelS.start w) hgl).mono fun e w' => ?_
  rintro ⟨G', v', h1, rfl, h3, h4⟩
  cases h3
  refine ⟨rfl, ?_⟩
  have := h4.belowOf
  rw [h1.base] at this
  exact this
theorem calls_true {P : Program} {w : World} {call : Calls'} (hc : CallOk P noGl w call) {f : Nat} {args : List AV} {vals : List Value}
    (hv : saysTrue (call f args St.nil) = true) (hr : RelT (Gh.start w) args vals) :
    Calls P f vals.toArray w fun e w' => e = .returned (.bool true) ∧ Go.RowKit.Below w.heap.size w w' := calls_trueG (fun g => .undef _) hc hv hr
/-- A table of numbers that lies in the memory that the call finds. -/
theorem rp_of_cells {w : World} {g : Nat} {k : IntKind} : ∀ (l : List Int) (o : Nat), (∀ j n, l[j]? = some n → w.cell? ⟨g, o + j, none⟩ = some (.int k n)) →
    RelL (Gh.start w) (l.map (.int k ·)) (l.map (Value.int k ·)) ∧ ∀ j v, (l.map (Value.int k ·))[j]? = some v → (Gh.start w).imm g (o + j) = some v := by
  intro l o h
  refine ⟨?_, fun j v hv => ?_⟩
  · clear h
    induction l with
    | nil => exact .nil
    | cons n l ih => exact .cons _ _ _ _ (.int _ _) rfl ih
  · rw [List.getElem?_map] at hv
    obtain ⟨n, hn, rfl⟩ := Option.map_eq_some_iff.1 hv
    exact start_imm (h j n hn) rfl
/-- The program's own table. -/
def tableOf (P : Program) (i : Nat) : Option MFun :=
  match P.funcs[i]? with
  | some fn => if (fn.name == "runtime.NumGoroutine") = true then none else cFun P fn
  | none => none
theorem tableOf_ok (P : Program) : TableOk P (tableOf P) := by
  intro f m h
  unfold tableOf at h
  split at h
  · rename_i fn hfn
    split at h
    · cases h
    · rename_i hn
      exact ⟨fn, hfn, h, by simpa using hn⟩
  · cases h

/-! ### slices.Grow of nothing, at a type of one cell -/
def growX : List AV → St → Option (AV × St)
  | [.nils, .int .i64 n], s => if n = 0 then some (.nils, s) else if 0 < n ∧ n ≤ 1000000 then some (.sl [] 0 (some (s.next, 0, 1)), s.new (.tick 1 0)) else none
  | _, _ => none
end Go.Ab
