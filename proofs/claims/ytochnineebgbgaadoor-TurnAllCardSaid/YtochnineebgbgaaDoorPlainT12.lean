/- api.Plain and api.Deal as an argument. No conditions. -/
import Derived.Test.YtochnineebgbgaaDoorTabs
import Derived.Test.YtochnineebgbgaaDoorArgS
set_option linter.unusedSimpArgs false
namespace Go.Proofs.YtochnineebgbgaaDoor
open Go Go.Ab
def plainTypes : List TypeId := [3, 3, 4, 3, 3, 3, 3, 4, 9]
theorem plainCells : Tryd.prog.cellTypes Tryd.prog.depth 37 = some plainTypes := by kernel_rfl
theorem plainSc : plainTypes.all (isSc Tryd.prog) = true := by kernel_rfl
theorem sc_int {a : AV} (h : Sc Tryd.prog 3 a) : ∃ n, a = .int .i64 n := by
  cases h with
  | int k n hu hn => rw [Tryd.underlying3] at hu; cases hu; exact ⟨n, rfl⟩
  | bool b hu => rw [Tryd.underlying3] at hu; cases hu
  | str b hu hs => rw [Tryd.underlying3] at hu; cases hu
theorem sc_bool {a : AV} (h : Sc Tryd.prog 4 a) : ∃ b, a = .bool b := by
  cases h with
  | int k n hu hn => rw [Tryd.underlying4] at hu; cases hu
  | bool b hu => exact ⟨b, rfl⟩
  | str b hu hs => rw [Tryd.underlying4] at hu; cases hu
theorem sc_str {a : AV} (h : Sc Tryd.prog 9 a) : ∃ b, a = .str b := by
  cases h with
  | int k n hu hn => rw [Tryd.underlying9] at hu; cases hu
  | bool b hu => rw [Tryd.underlying9] at hu; cases hu
  | str b hu hs => exact ⟨b, rfl⟩
theorem plain_of {al : List AV} (h : ScL Tryd.prog plainTypes al) : ∃ seat count cmd kind sort nr ns pf body,
    al = [.int .i64 seat, .int .i64 count, .bool cmd, .int .i64 kind, .int .i64 sort, .int .i64 nr, .int .i64 ns, .bool pf, .str body] := by
  unfold plainTypes at h
  cases h with | cons _ a0 _ _ h0 h => cases h with | cons _ a1 _ _ h1 h => cases h with | cons _ a2 _ _ h2 h => cases h with | cons _ a3 _ _ h3 h => cases h with | cons _ a4 _ _ h4 h => cases h with | cons _ a5 _ _ h5 h => cases h with | cons _ a6 _ _ h6 h => cases h with | cons _ a7 _ _ h7 h => cases h with | cons _ a8 _ _ h8 h =>
  cases h
  obtain ⟨x0, rfl⟩ := sc_int h0
  obtain ⟨x1, rfl⟩ := sc_int h1
  obtain ⟨x2, rfl⟩ := sc_bool h2
  obtain ⟨x3, rfl⟩ := sc_int h3
  obtain ⟨x4, rfl⟩ := sc_int h4
  obtain ⟨x5, rfl⟩ := sc_int h5
  obtain ⟨x6, rfl⟩ := sc_int h6
  obtain ⟨x7, rfl⟩ := sc_bool h7
  obtain ⟨x8, rfl⟩ := sc_str h8
  exact ⟨_, _, _, _, _, _, _, _, _, rfl⟩
def dealTypes : List TypeId := [3, 3, 3, 3, 3]
theorem dealCells : Tryd.prog.cellTypes Tryd.prog.depth 58 = some dealTypes := by kernel_rfl
theorem dealSc : dealTypes.all (isSc Tryd.prog) = true := by kernel_rfl
theorem deal_of {al : List AV} (h : ScL Tryd.prog dealTypes al) : ∃ baud silent win size wait,
    al = [.int .i64 baud, .int .i64 silent, .int .i64 win, .int .i64 size, .int .i64 wait] := by
  unfold dealTypes at h
  cases h with | cons _ a0 _ _ h0 h => cases h with | cons _ a1 _ _ h1 h => cases h with | cons _ a2 _ _ h2 h => cases h with | cons _ a3 _ _ h3 h => cases h with | cons _ a4 _ _ h4 h =>
  cases h
  obtain ⟨x0, rfl⟩ := sc_int h0
  obtain ⟨x1, rfl⟩ := sc_int h1
  obtain ⟨x2, rfl⟩ := sc_int h2
  obtain ⟨x3, rfl⟩ := sc_int h3
  obtain ⟨x4, rfl⟩ := sc_int h4
  exact ⟨_, _, _, _, _, rfl⟩
end Go.Proofs.YtochnineebgbgaaDoor
