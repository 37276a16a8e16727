/- A law's arguments as the evaluator reads them: texts, structs of numbers, bools and texts. No conditions. -/
import Derived.Test.YtgflghhffmjojaaGreatDoorAbE
import Derived.WalkKit
import Derived.ProofKit
import Derived.OpenShut
import Derived.Carry
import Derived.ChangeSlices
import Derived.Test.YtgflghhffmjojaaGreatDoorTabs
import Derived.ChangeShapes
set_option linter.unusedSimpArgs false
set_option linter.unusedVariables false
namespace Go.Ab
open Go Go.ChangeShapes Go.WideShapes Go.ChangeAt Go.RowKit
section
variable {P : Program} {W : World} {base : Nat}
theorem cell_int {u : TypeId} {k : IntKind} {v : Value} (hu : P.underlying u = some (.int k)) (h : Cell.okWide P W .any base u v) : ∃ n, v = .int k n ∧ k.has n := by
  unfold Cell.okWide at h
  rw [hu] at h
  have h' : Cell.ok P W .any base u v := by cases v <;> exact h
  unfold Cell.ok at h'
  rw [hu] at h'
  cases v with
  | int k' n => obtain ⟨rfl, hn⟩ := h'; exact ⟨n, rfl, hn⟩
  | _ => exact absurd h' id
theorem cell_bool {u : TypeId} {v : Value} (hu : P.underlying u = some .bool) (h : Cell.okWide P W .any base u v) : ∃ b, v = .bool b := by
  unfold Cell.okWide at h
  rw [hu] at h
  have h' : Cell.ok P W .any base u v := by cases v <;> exact h
  unfold Cell.ok at h'
  rw [hu] at h'
  cases v with
  | bool b => exact ⟨b, rfl⟩
  | _ => exact absurd h' id
theorem cell_str {u : TypeId} {v : Value} (hu : P.underlying u = some .string) (h : Cell.okWide P W .any base u v) : ∃ s : ByteArray, v = .string s ∧ (s.size : Int) ≤ IntKind.i64.max := by
  unfold Cell.okWide at h
  rw [hu] at h
  have h' : Cell.ok P W .any base u v := by cases v <;> exact h
  unfold Cell.ok at h'
  rw [hu] at h'
  cases v with
  | string s => exact ⟨s, rfl, h'⟩
  | _ => exact absurd h' id
/-- What a cell of such a type is read as. -/
inductive Sc (P : Program) : TypeId → AV → Prop
  | int (u : TypeId) (k : IntKind) (n : Int) (hu : P.underlying u = some (.int k)) (hn : k.has n) : Sc P u (.int k n)
  | bool (u : TypeId) (b : Bool) (hu : P.underlying u = some .bool) : Sc P u (.bool b)
  | str (u : TypeId) (s : List UInt8) (hu : P.underlying u = some .string) (hs : (s.length : Int) ≤ IntKind.i64.max) : Sc P u (.str s)
def isSc (P : Program) (u : TypeId) : Bool := match P.underlying u with
  | some (.int _) | some .bool | some .string => true
  | _ => false
theorem cell_sc {G : Gh} {u : TypeId} {v : Value} (hu : isSc P u = true) (h : Cell.okWide P W .any base u v) : ∃ a, Sc P u a ∧ RelV G a v ∧ v.oneCell' = true := by
  unfold isSc at hu
  split at hu
  · rename_i k hk
    obtain ⟨n, rfl, hn⟩ := cell_int hk h
    exact ⟨_, .int _ _ _ hk hn, .int _ _, rfl⟩
  · rename_i hk
    obtain ⟨b, rfl⟩ := cell_bool hk h
    exact ⟨_, .bool _ _ hk, .bool _, rfl⟩
  · rename_i hk
    obtain ⟨s, rfl, hs⟩ := cell_str hk h
    exact ⟨_, .str _ _ hk (by simpa using hs), .str s, rfl⟩
  · cases hu
inductive ScL (P : Program) : List TypeId → List AV → Prop
  | nil : ScL P [] []
  | cons (u : TypeId) (a : AV) (us : List TypeId) (avs : List AV) (h : Sc P u a) (t : ScL P us avs) : ScL P (u :: us) (a :: avs)
theorem cells_sc {G : Gh} : ∀ (ts : List TypeId) (l : List Value), ts.all (isSc P) = true → l.length = ts.length → (∀ (i : Nat) (u : TypeId) (v : Value), ts[i]? = some u → l[i]? = some v → Cell.okWide P W .any base u v) → ∃ avs, ScL P ts avs ∧ RelL G avs l := by
  intro ts
  induction ts with
  | nil =>
    intro l _ hl _
    have : l = [] := List.length_eq_zero_iff.1 hl
    subst this
    exact ⟨[], .nil, .nil⟩
  | cons u us ih =>
    intro l ha hl h
    cases l with
    | nil => simp at hl
    | cons v vs =>
      rw [List.all_cons, Bool.and_eq_true] at ha
      obtain ⟨a, h1, h2, h3⟩ := cell_sc (G := G) ha.1 (h 0 u v rfl rfl)
      obtain ⟨avs, h4, h5⟩ := ih vs ha.2 (by simpa using hl) (fun i u' v' hu hv => h (i + 1) u' v' (by simpa using hu) (by simpa using hv))
      exact ⟨a :: avs, .cons _ _ _ _ h1 h4, .cons _ _ _ _ h2 h3 h5⟩
theorem arg_struct {G : Gh} {t : TypeId} {fs : Array Field} {ts : List TypeId} {v : Value} (ht : P.underlying t = some (.struct fs)) (hts : P.cellTypes P.depth t = some ts) (hc : P.cellsOf t = ts.length) (hsc : ts.all (isSc P) = true)
    (hval : Value.okWide P W .any base t v) : ∃ avs, ScL P ts avs ∧ RelV G (.agg avs) v := by
  unfold Value.okWide at hval
  rw [ht] at hval
  obtain ⟨cs, rfl, hsz, ts', hts', _, hcell⟩ := hval
  rw [hts] at hts'
  cases hts'
  obtain ⟨avs, h1, h2⟩ := cells_sc (G := G) (P := P) (W := W) (base := base) ts cs.toList hsc (by rw [Array.length_toList, hsz, hc]) (fun i u v hu hv => by
    rw [Array.getElem?_toList] at hv
    obtain ⟨u', hu', hok⟩ := hcell i v hv
    have hi : i < ts.length := (List.getElem?_eq_some_iff.1 hu).1
    rw [Nat.mod_eq_of_lt hi, hu] at hu'
    cases hu'
    exact hok)
  exact ⟨avs, h1, .agg _ _ h2⟩
theorem arg_sc {G : Gh} {t : TypeId} {k : IntKind} {v : Value} (ht : P.underlying t = some (.int k)) (hval : Value.okWide P W .any base t v) : ∃ n, k.has n ∧ RelV G (.int k n) v := by
  unfold Value.okWide at hval
  rw [ht] at hval
  obtain ⟨n, rfl, hn⟩ := cell_int ht hval
  exact ⟨n, hn, .int _ _⟩
end
end Go.Ab
set_option linter.unusedSimpArgs false
namespace Go.Proofs.YtgflghhffmjojaaGreatDoor
open Go Go.Ab
def offerTypes : List TypeId := [3, 3, 3, 3, 3]
theorem offerCells : Tryz.prog.cellTypes Tryz.prog.depth 23 = some offerTypes := by kernel_rfl
theorem offerSc : offerTypes.all (isSc Tryz.prog) = true := by kernel_rfl
theorem sc_int {a : AV} (h : Sc Tryz.prog 3 a) : ∃ n, a = .int .i64 n ∧ IntKind.has .i64 n := by
  cases h with
  | int k n hu hn => rw [Tryz.underlying3] at hu; cases hu; exact ⟨n, rfl, hn⟩
  | bool b hu => rw [Tryz.underlying3] at hu; cases hu
  | str b hu hs => rw [Tryz.underlying3] at hu; cases hu
theorem offer_of {al : List AV} (h : ScL Tryz.prog offerTypes al) : ∃ b s w z t, al = [.int .i64 b, .int .i64 s, .int .i64 w, .int .i64 z, .int .i64 t] := by
  unfold offerTypes at h
  cases h with | cons _ a0 _ _ h0 h => cases h with | cons _ a1 _ _ h1 h => cases h with | cons _ a2 _ _ h2 h => cases h with | cons _ a3 _ _ h3 h => cases h with | cons _ a4 _ _ h4 h =>
  cases h
  obtain ⟨x0, rfl, _⟩ := sc_int h0
  obtain ⟨x1, rfl, _⟩ := sc_int h1
  obtain ⟨x2, rfl, _⟩ := sc_int h2
  obtain ⟨x3, rfl, _⟩ := sc_int h3
  obtain ⟨x4, rfl, _⟩ := sc_int h4
  exact ⟨_, _, _, _, _, rfl⟩
end Go.Proofs.YtgflghhffmjojaaGreatDoor
