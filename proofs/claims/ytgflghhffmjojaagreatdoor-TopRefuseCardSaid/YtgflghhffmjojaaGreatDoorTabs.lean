/- The tables of unicode/utf8 as the evaluator reads them. No conditions. -/
import Derived.Test.YtgflghhffmjojaaGreatDoorRows
import Derived.Test.YtgflghhffmjojaaGreatDoorGrow
import Derived.Lib.LaidU8T
import Derived.LaidMore
import Derived.Lay
set_option linter.unusedSimpArgs false
set_option linter.unusedVariables false
namespace Go.Proofs.YtgflghhffmjojaaGreatDoor
open Go Go.Ab Go.Shelf Go.Lib
def dbrL : List Int := [0, 1, 28, 2, 29, 14, 24, 3, 30, 22, 20, 15, 25, 17, 4, 8, 31, 27, 13, 23, 21, 19, 16, 7, 26, 12, 18, 6, 11, 5, 10, 9]
def tabRen : Go.Shelf.Ren := ⟨fun n => n, fun n => if n = 119 then 338 else if n = 138 then 340 else if n = 139 then 341 else n, fun n => if n = 3 then 1 else if n = 4 then 2 else n⟩
theorem tabTypes : U8Types Tryz.prog tabRen := ⟨Tryz.underlying5, Tryz.underlying338, Tryz.underlying340, Tryz.underlying341⟩
theorem tabExtra : U8Extra Tryz.prog tabRen := ⟨by kernel_rfl, by kernel_rfl, by kernel_rfl, by kernel_rfl, by kernel_rfl, by kernel_rfl, by kernel_rfl⟩
theorem dbr_eq : (Rows.laid_math_bits_deBruijn32tab : DataW Unit) = tabData .u8 dbrL := by kernel_rfl
def laid2 : List (String × DataW Unit) := [("math/bits.deBruijn32tab", Rows.laid_math_bits_deBruijn32tab), ("unicode/utf8.acceptRanges", Rows.laid_unicode_utf8_acceptRanges), ("unicode/utf8.first", Rows.laid_unicode_utf8_first)]
theorem first_eq : Rows.laid_unicode_utf8_first = firstData := by kernel_rfl
theorem accept_eq : (Rows.laid_unicode_utf8_acceptRanges : DataW Unit) = acceptData := by kernel_rfl
theorem tabs_of {W : World} (h : laidMetH Tryz.prog laid2 W) : Utf8Tabs 1 2 W := by
  rw [MakeChecks.laidMetH_plain _ _ _ (by kernel_rfl)] at h
  refine utf8Tabs_of_readsT tabTypes tabExtra ?_ ?_
  · exact first_eq ▸ Lib.laidMet.reads h (.tail _ (.tail _ (.head _)))
  · exact accept_eq ▸ Lib.laidMet.reads h (.tail _ (.head _))
theorem dbr_of {W : World} (h : laidMetH Tryz.prog laid2 W) (j : Nat) (n : Int) (hn : dbrL[j]? = some n) : W.cell? ⟨0, 0 + j, none⟩ = some (.int .u8 n) := by
  rw [MakeChecks.laidMetH_plain _ _ _ (by kernel_rfl)] at h
  have hr := Lib.laidMet.reads h (.head _)
  rw [dbr_eq] at hr
  obtain ⟨g, t, cs, fuel, p, hg, hty, hvar, hd⟩ := hr
  obtain rfl := Option.some.inj ((show Tryz.prog.globalNamed "math/bits.deBruijn32tab" = some 0 by kernel_rfl).symm.trans hg)
  obtain rfl := Option.some.inj ((show (Tryz.prog.globals[0]?).map (·.type) = some 304 by kernel_rfl).symm.trans hty)
  have hcs := cells_of_tab Tryz.underlying304 Tryz.underlying5 (by kernel_rfl) (by kernel_rfl) hd
  have := World.var?_cell hg hvar j
  rw [Nat.zero_add, this, ← Array.getElem?_toList, hcs, List.getElem?_map, hn]
  rfl
def firstL : List Int := (List.range 256).map fun c => (firstT c : Int)
def acceptL : List Int := (List.range 32).map fun j => if j % 2 = 0 then (accLo (j / 2) : Int) else (accHi (j / 2) : Int)
def tabGl (i : Nat) : AV := if i = 1 then .rp (firstL.map (.int .u8 ·)) else if i = 2 then .rp (acceptL.map (.int .u8 ·)) else if i = 0 then .rp (dbrL.map (.int .u8 ·)) else .undef
theorem tabGl_rel {W : World} (h : laidMetH Tryz.prog laid2 W) (g : Nat) : RelV (Gh.start W) (tabGl g) (.pointer (some ⟨g, 0, none⟩)) := by
  obtain ⟨h1, h2⟩ := tabs_of h
  unfold tabGl
  split
  · rename_i hg
    subst hg
    obtain ⟨q1, q2⟩ := rp_of_cells (w := W) (g := 1) (k := .u8) firstL 0 (fun j n hn => by
      unfold firstL at hn
      rw [List.getElem?_map] at hn
      obtain ⟨c, hc, rfl⟩ := Option.map_eq_some_iff.1 hn
      obtain ⟨hc1, hc2⟩ := List.getElem?_eq_some_iff.1 hc
      rw [List.length_range] at hc1
      rw [List.getElem_range] at hc2
      rw [Nat.zero_add]
      rw [← hc2]
      exact h1 _ hc1)
    exact .rp _ _ _ _ q1 q2
  · split
    · rename_i hg
      subst hg
      obtain ⟨q1, q2⟩ := rp_of_cells (w := W) (g := 2) (k := .u8) acceptL 0 (fun j n hn => by
        unfold acceptL at hn
        rw [List.getElem?_map] at hn
        obtain ⟨c, hc, rfl⟩ := Option.map_eq_some_iff.1 hn
        obtain ⟨hc1, hc2⟩ := List.getElem?_eq_some_iff.1 hc
        rw [List.length_range] at hc1
        rw [List.getElem_range] at hc2
        subst hc2
        rw [Nat.zero_add]
        have h3 := h2 (j / 2) (by omega)
        split
        · rw [show j = 2 * (j / 2) by omega]
          have := h3.1
          rw [show 2 * (j / 2) / 2 = j / 2 by omega]
          exact this
        · rw [show j = 2 * (j / 2) + 1 by omega]
          have := h3.2
          rw [show (2 * (j / 2) + 1) / 2 = j / 2 by omega]
          exact this)
      exact .rp _ _ _ _ q1 q2
    · split
      · rename_i hg
        subst hg
        obtain ⟨q1, q2⟩ := rp_of_cells (w := W) (g := 0) (k := .u8) dbrL 0 (dbr_of h)
        exact .rp _ _ _ _ q1 q2
      · exact .undef _
end Go.Proofs.YtgflghhffmjojaaGreatDoor
