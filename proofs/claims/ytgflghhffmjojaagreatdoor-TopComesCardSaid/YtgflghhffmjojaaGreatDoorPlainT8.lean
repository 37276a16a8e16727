/- api.Offer, api.Xid and api.Setup as arguments. No conditions. -/
import Derived.Test.YtgflghhffmjojaaGreatDoorTabs
import Derived.Test.YtgflghhffmjojaaGreatDoorArgS
import Derived.Carry
import Derived.ChangeShapes
set_option linter.unusedSimpArgs false
namespace Go.Proofs.YtgflghhffmjojaaGreatDoor
open Go Go.Ab
theorem trodAll_six {H : Type} {enc : TypeId × Value → H} {P : Program} {w : World} {base : Nat} {spare : Nat → Bool} {held : Bool} {t t' t'' t3 t4 t5 : TypeId} {args : Array Value} {ds : List (DataW H)} {ps : List MemPlace} (h : DataW.TrodAll enc P w base spare held [t, t', t'', t3, t4, t5] args.toList ds ps) :
    ∃ v v' v'' v3 v4 v5 d d' d'' d3 d4 d5 p p' p'' p3 p4 p5, args = #[v, v', v'', v3, v4, v5] ∧ ds = [d, d', d'', d3, d4, d5] ∧ ps = p ++ p' ++ p'' ++ p3 ++ p4 ++ p5 ∧ DataW.Trod enc P w base spare held t v d p ∧ DataW.Trod enc P w base spare held t' v' d' p' ∧ DataW.Trod enc P w base spare held t'' v'' d'' p'' ∧ DataW.Trod enc P w base spare held t3 v3 d3 p3 ∧ DataW.Trod enc P w base spare held t4 v4 d4 p4 ∧ DataW.Trod enc P w base spare held t5 v5 d5 p5 := by
  obtain ⟨v, vs, d, ds', p, q, hargs, rfl, rfl, hd, hrest⟩ := ChangeShapes.trodAll_cons h
  obtain ⟨v', vs', d', ds'', p', q', rfl, rfl, rfl, hd', hrest'⟩ := ChangeShapes.trodAll_cons hrest
  obtain ⟨v'', vs'', d'', ds''', p'', q'', rfl, rfl, rfl, hd'', hrest''⟩ := ChangeShapes.trodAll_cons hrest'
  obtain ⟨v3, vs3, d3, ds3, p3, q3, rfl, rfl, rfl, hd3, hrest3⟩ := ChangeShapes.trodAll_cons hrest''
  obtain ⟨v4, vs4, d4, ds4, p4, q4, rfl, rfl, rfl, hd4, hrest4⟩ := ChangeShapes.trodAll_cons hrest3
  obtain ⟨v5, vs5, d5, ds5, p5, q5, rfl, rfl, rfl, hd5, hrest5⟩ := ChangeShapes.trodAll_cons hrest4
  obtain ⟨rfl, rfl, rfl⟩ := ChangeShapes.trodAll_nil hrest5
  exact ⟨v, v', v'', v3, v4, v5, d, d', d'', d3, d4, d5, p, p', p'', p3, p4, p5, by cases args; simp_all, rfl, by simp, hd, hd', hd'', hd3, hd4, hd5⟩
def offerTypes : List TypeId := [3, 3, 3, 3, 3]
theorem offerCells : Tryz.prog.cellTypes Tryz.prog.depth 23 = some offerTypes := by kernel_rfl
theorem offerSc : offerTypes.all (isSc Tryz.prog) = true := by kernel_rfl
def xidTypes : List TypeId := [29, 29, 3, 3, 4, 9]
theorem xidCells : Tryz.prog.cellTypes Tryz.prog.depth 181 = some xidTypes := by kernel_rfl
theorem xidSc : xidTypes.all (isSc Tryz.prog) = true := by kernel_rfl
def setupTypes : List TypeId := [29, 29, 3, 3, 3, 3, 3, 3, 3]
theorem setupCells : Tryz.prog.cellTypes Tryz.prog.depth 238 = some setupTypes := by kernel_rfl
theorem setupSc : setupTypes.all (isSc Tryz.prog) = true := by kernel_rfl
theorem sc_int {a : AV} (h : Sc Tryz.prog 3 a) : ∃ n, a = .int .i64 n ∧ IntKind.has .i64 n := by
  cases h with
  | int k n hu hn => rw [Tryz.underlying3] at hu; cases hu; exact ⟨n, rfl, hn⟩
  | bool b hu => rw [Tryz.underlying3] at hu; cases hu
  | str b hu hs => rw [Tryz.underlying3] at hu; cases hu
theorem sc_u32 {a : AV} (h : Sc Tryz.prog 29 a) : ∃ n, a = .int .u32 n ∧ IntKind.has .u32 n := by
  cases h with
  | int k n hu hn => rw [Tryz.underlying29] at hu; cases hu; exact ⟨n, rfl, hn⟩
  | bool b hu => rw [Tryz.underlying29] at hu; cases hu
  | str b hu hs => rw [Tryz.underlying29] at hu; cases hu
theorem sc_bool {a : AV} (h : Sc Tryz.prog 4 a) : ∃ b, a = .bool b := by
  cases h with
  | int k n hu hn => rw [Tryz.underlying4] at hu; cases hu
  | bool b hu => exact ⟨b, rfl⟩
  | str b hu hs => rw [Tryz.underlying4] at hu; cases hu
theorem sc_str {a : AV} (h : Sc Tryz.prog 9 a) : ∃ b, a = .str b := by
  cases h with
  | int k n hu hn => rw [Tryz.underlying9] at hu; cases hu
  | bool b hu => rw [Tryz.underlying9] at hu; cases hu
  | str b hu hs => exact ⟨b, rfl⟩
theorem offer_of {al : List AV} (h : ScL Tryz.prog offerTypes al) : ∃ b s w z t, al = [.int .i64 b, .int .i64 s, .int .i64 w, .int .i64 z, .int .i64 t] := by
  unfold offerTypes at h
  cases h with | cons _ a0 _ _ h0 h => cases h with | cons _ a1 _ _ h1 h => cases h with | cons _ a2 _ _ h2 h => cases h with | cons _ a3 _ _ h3 h => cases h with | cons _ a4 _ _ h4 h =>
  cases h
  obtain ⟨x0, rfl, _⟩ := sc_int h0
  obtain ⟨x1, rfl, _⟩ := sc_int h1
  obtain ⟨x2, rfl, _⟩ := sc_int h2
  obtain ⟨x3, rfl, _⟩ := sc_int h3
  obtain ⟨x4, rfl, _⟩ := sc_int h4
  exact ⟨_, _, _, _, _, rfl⟩
theorem xid_of {al : List AV} (h : ScL Tryz.prog xidTypes al) : ∃ f t slot slots anew nick, al = [.int .u32 f, .int .u32 t, .int .i64 slot, .int .i64 slots, .bool anew, .str nick] ∧ IntKind.has .u32 f ∧ IntKind.has .u32 t := by
  unfold xidTypes at h
  cases h with | cons _ a0 _ _ h0 h => cases h with | cons _ a1 _ _ h1 h => cases h with | cons _ a2 _ _ h2 h => cases h with | cons _ a3 _ _ h3 h => cases h with | cons _ a4 _ _ h4 h => cases h with | cons _ a5 _ _ h5 h =>
  cases h
  obtain ⟨x0, rfl, g0⟩ := sc_u32 h0
  obtain ⟨x1, rfl, g1⟩ := sc_u32 h1
  obtain ⟨x2, rfl, _⟩ := sc_int h2
  obtain ⟨x3, rfl, _⟩ := sc_int h3
  obtain ⟨x4, rfl⟩ := sc_bool h4
  obtain ⟨x5, rfl⟩ := sc_str h5
  exact ⟨_, _, _, _, _, _, rfl, g0, g1⟩
theorem setup_of {al : List AV} (h : ScL Tryz.prog setupTypes al) : ∃ f t seat count b s w z ti, al = [.int .u32 f, .int .u32 t, .int .i64 seat, .int .i64 count, .int .i64 b, .int .i64 s, .int .i64 w, .int .i64 z, .int .i64 ti] ∧ IntKind.has .u32 f ∧ IntKind.has .u32 t := by
  unfold setupTypes at h
  cases h with | cons _ a0 _ _ h0 h => cases h with | cons _ a1 _ _ h1 h => cases h with | cons _ a2 _ _ h2 h => cases h with | cons _ a3 _ _ h3 h => cases h with | cons _ a4 _ _ h4 h => cases h with | cons _ a5 _ _ h5 h => cases h with | cons _ a6 _ _ h6 h => cases h with | cons _ a7 _ _ h7 h => cases h with | cons _ a8 _ _ h8 h =>
  cases h
  obtain ⟨x0, rfl, g0⟩ := sc_u32 h0
  obtain ⟨x1, rfl, g1⟩ := sc_u32 h1
  obtain ⟨x2, rfl, _⟩ := sc_int h2
  obtain ⟨x3, rfl, _⟩ := sc_int h3
  obtain ⟨x4, rfl, _⟩ := sc_int h4
  obtain ⟨x5, rfl, _⟩ := sc_int h5
  obtain ⟨x6, rfl, _⟩ := sc_int h6
  obtain ⟨x7, rfl, _⟩ := sc_int h7
  obtain ⟨x8, rfl, _⟩ := sc_int h8
  exact ⟨_, _, _, _, _, _, _, _, _, rfl, g0, g1⟩
end Go.Proofs.YtgflghhffmjojaaGreatDoor
