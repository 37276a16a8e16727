/-
  DERIVED. GIVEN WITH THE SEED: THE CARDS: each row of YtgflghhffmjojaaGreatDoorRows.lean that lists a variable, with what it lists TIED to the program's text (the seventh form; the later family's looks); each row that meets fmt, with fmt's text TOLD by the authors' own Lean function (tested against real Go, not proved from fmt's source: count such statements apart). THE CARD IS WHAT COUNTS. Prove the row's statement (the work); the ties are given (YtgflghhffmjojaaGreatDoorTie.lean); close each card by the builder's one call (the guide's Derived/Test/ToyasCard.lean, 'card_holds'). Laid BY PROGRAM, IN A SANDBOX (cutbox-door.mjs). By AI agents, Wed Nov 11 2026. No macro, syntax, notation, axiom, sorry.
-/
import Derived.Test.YtgflghhffmjojaaGreatDoorRows
import GoSem.ClaimSeven
namespace Go.Proofs.YtgflghhffmjojaaGreatDoor
namespace Rows

/-- THE TIED CARD OF 'glowwormtop.TopBothCall'. -/
def topBothCallCard : Claim7 := { stood := { row := topBothCallRow, standIns := [], harness := (true, "3cdbde8dc6f69ee8cba3d63a7c48df14a73f5b8322d86d77283aeec6acdc47e8"), looks := true }, kinds := [], alts := [], laidByText := true, laidKinds := [.data, .data, .pinned], laidTests := true, laidLooks := .later }
def TopBothCallCardSaid : Prop := Claim7.holds Tryz.pinned (.plain (OpenSpec.ofChange topBothCallSpec)) topBothCallCard

/-- THE TIED CARD OF 'glowwormtop.TopSizes'. -/
def topSizesCard : Claim7 := { stood := { row := topSizesRow, standIns := [], harness := (true, "3cdbde8dc6f69ee8cba3d63a7c48df14a73f5b8322d86d77283aeec6acdc47e8"), looks := true }, kinds := [], alts := [], laidByText := true, laidKinds := [.data, .data, .pinned], laidTests := true, laidLooks := .later }
def TopSizesCardSaid : Prop := Claim7.holds Tryz.pinned (.plain (OpenSpec.ofChange topSizesSpec)) topSizesCard

/-- THE TIED CARD OF 'glowwormtop.TopQueue'. -/
def topQueueCard : Claim7 := { stood := { row := topQueueRow, standIns := [], harness := (true, "3cdbde8dc6f69ee8cba3d63a7c48df14a73f5b8322d86d77283aeec6acdc47e8"), looks := true }, kinds := [], alts := [], laidByText := true, laidKinds := [.data, .data, .pinned], laidTests := true, laidLooks := .later }
def TopQueueCardSaid : Prop := Claim7.holds Tryz.pinned (.plain (OpenSpec.ofChange topQueueSpec)) topQueueCard

/-- THE TIED CARD OF 'glowwormtop.TopTurned'. -/
def topTurnedCard : Claim7 := { stood := { row := topTurnedRow, standIns := [], harness := (true, "3cdbde8dc6f69ee8cba3d63a7c48df14a73f5b8322d86d77283aeec6acdc47e8"), looks := true }, kinds := [], alts := [], laidByText := true, laidKinds := [.data, .data, .pinned], laidTests := true, laidLooks := .later }
def TopTurnedCardSaid : Prop := Claim7.holds Tryz.pinned (.plain (OpenSpec.ofChange topTurnedSpec)) topTurnedCard

/-- THE TIED CARD OF 'glowwormtop.TopComes'. -/
def topComesCard : Claim7 := { stood := { row := topComesRow, standIns := [], harness := (true, "3cdbde8dc6f69ee8cba3d63a7c48df14a73f5b8322d86d77283aeec6acdc47e8"), looks := true }, kinds := [], alts := [], laidByText := true, laidKinds := [.data, .data, .pinned], laidTests := true, laidLooks := .later }
def TopComesCardSaid : Prop := Claim7.holds Tryz.pinned (.plain (OpenSpec.ofChange topComesSpec)) topComesCard

/-- THE TIED CARD OF 'glowwormtop.TopShare'. -/
def topShareCard : Claim7 := { stood := { row := topShareRow, standIns := [], harness := (true, "3cdbde8dc6f69ee8cba3d63a7c48df14a73f5b8322d86d77283aeec6acdc47e8"), looks := true }, kinds := [], alts := [], laidByText := true, laidKinds := [.data, .data, .pinned], laidTests := true, laidLooks := .later }
def TopShareCardSaid : Prop := Claim7.holds Tryz.pinned (.plain (OpenSpec.ofChange topShareSpec)) topShareCard

/-- THE TIED CARD OF 'glowwormtop.TopOrder'. -/
def topOrderCard : Claim7 := { stood := { row := topOrderRow, standIns := [], harness := (true, "3cdbde8dc6f69ee8cba3d63a7c48df14a73f5b8322d86d77283aeec6acdc47e8"), looks := true }, kinds := [], alts := [], laidByText := true, laidKinds := [.data, .data, .pinned], laidTests := true, laidLooks := .later }
def TopOrderCardSaid : Prop := Claim7.holds Tryz.pinned (.plain (OpenSpec.ofChange topOrderSpec)) topOrderCard

/-- THE TIED CARD OF 'glowwormtop.TopRefuse'. -/
def topRefuseCard : Claim7 := { stood := { row := topRefuseRow, standIns := [], harness := (true, "3cdbde8dc6f69ee8cba3d63a7c48df14a73f5b8322d86d77283aeec6acdc47e8"), looks := true }, kinds := [], alts := [], laidByText := true, laidKinds := [.data, .data, .pinned], laidTests := true, laidLooks := .later }
def TopRefuseCardSaid : Prop := Claim7.holds Tryz.pinned (.plain (OpenSpec.ofChange topRefuseSpec)) topRefuseCard

/-- THE TIED CARD OF 'glowwormtop.TopSafe'. -/
def topSafeCard : Claim7 := { stood := { row := topSafeRow, standIns := [], harness := (true, "3cdbde8dc6f69ee8cba3d63a7c48df14a73f5b8322d86d77283aeec6acdc47e8"), looks := true }, kinds := [], alts := [], laidByText := true, laidKinds := [.data, .data, .pinned], laidTests := true, laidLooks := .later }
def TopSafeCardSaid : Prop := Claim7.holds Tryz.pinned (.plain (OpenSpec.ofChange topSafeSpec)) topSafeCard

/-- THE SECOND FORM's CARD OF 'glowwormtop.TopBothCall'. -/
def topBothCallUptoCard : Claim7 := { stood := { row := topBothCallUptoRow, standIns := [], harness := (true, "3cdbde8dc6f69ee8cba3d63a7c48df14a73f5b8322d86d77283aeec6acdc47e8"), looks := true }, kinds := [], alts := [], laidByText := true, laidKinds := [.data, .data, .pinned], laidTests := true, laidLooks := .later }
def TopBothCallUptoCardSaid : Prop := Claim7.holds Tryz.pinned (.plain (OpenSpec.upto topBothCallSpec)) topBothCallUptoCard

/-- THE SECOND FORM's CARD OF 'glowwormtop.TopSizes'. -/
def topSizesUptoCard : Claim7 := { stood := { row := topSizesUptoRow, standIns := [], harness := (true, "3cdbde8dc6f69ee8cba3d63a7c48df14a73f5b8322d86d77283aeec6acdc47e8"), looks := true }, kinds := [], alts := [], laidByText := true, laidKinds := [.data, .data, .pinned], laidTests := true, laidLooks := .later }
def TopSizesUptoCardSaid : Prop := Claim7.holds Tryz.pinned (.plain (OpenSpec.upto topSizesSpec)) topSizesUptoCard

/-- THE SECOND FORM's CARD OF 'glowwormtop.TopQueue'. -/
def topQueueUptoCard : Claim7 := { stood := { row := topQueueUptoRow, standIns := [], harness := (true, "3cdbde8dc6f69ee8cba3d63a7c48df14a73f5b8322d86d77283aeec6acdc47e8"), looks := true }, kinds := [], alts := [], laidByText := true, laidKinds := [.data, .data, .pinned], laidTests := true, laidLooks := .later }
def TopQueueUptoCardSaid : Prop := Claim7.holds Tryz.pinned (.plain (OpenSpec.upto topQueueSpec)) topQueueUptoCard

/-- THE SECOND FORM's CARD OF 'glowwormtop.TopTurned'. -/
def topTurnedUptoCard : Claim7 := { stood := { row := topTurnedUptoRow, standIns := [], harness := (true, "3cdbde8dc6f69ee8cba3d63a7c48df14a73f5b8322d86d77283aeec6acdc47e8"), looks := true }, kinds := [], alts := [], laidByText := true, laidKinds := [.data, .data, .pinned], laidTests := true, laidLooks := .later }
def TopTurnedUptoCardSaid : Prop := Claim7.holds Tryz.pinned (.plain (OpenSpec.upto topTurnedSpec)) topTurnedUptoCard

/-- THE SECOND FORM's CARD OF 'glowwormtop.TopComes'. -/
def topComesUptoCard : Claim7 := { stood := { row := topComesUptoRow, standIns := [], harness := (true, "3cdbde8dc6f69ee8cba3d63a7c48df14a73f5b8322d86d77283aeec6acdc47e8"), looks := true }, kinds := [], alts := [], laidByText := true, laidKinds := [.data, .data, .pinned], laidTests := true, laidLooks := .later }
def TopComesUptoCardSaid : Prop := Claim7.holds Tryz.pinned (.plain (OpenSpec.upto topComesSpec)) topComesUptoCard

/-- THE SECOND FORM's CARD OF 'glowwormtop.TopShare'. -/
def topShareUptoCard : Claim7 := { stood := { row := topShareUptoRow, standIns := [], harness := (true, "3cdbde8dc6f69ee8cba3d63a7c48df14a73f5b8322d86d77283aeec6acdc47e8"), looks := true }, kinds := [], alts := [], laidByText := true, laidKinds := [.data, .data, .pinned], laidTests := true, laidLooks := .later }
def TopShareUptoCardSaid : Prop := Claim7.holds Tryz.pinned (.plain (OpenSpec.upto topShareSpec)) topShareUptoCard

/-- THE SECOND FORM's CARD OF 'glowwormtop.TopOrder'. -/
def topOrderUptoCard : Claim7 := { stood := { row := topOrderUptoRow, standIns := [], harness := (true, "3cdbde8dc6f69ee8cba3d63a7c48df14a73f5b8322d86d77283aeec6acdc47e8"), looks := true }, kinds := [], alts := [], laidByText := true, laidKinds := [.data, .data, .pinned], laidTests := true, laidLooks := .later }
def TopOrderUptoCardSaid : Prop := Claim7.holds Tryz.pinned (.plain (OpenSpec.upto topOrderSpec)) topOrderUptoCard

/-- THE SECOND FORM's CARD OF 'glowwormtop.TopRefuse'. -/
def topRefuseUptoCard : Claim7 := { stood := { row := topRefuseUptoRow, standIns := [], harness := (true, "3cdbde8dc6f69ee8cba3d63a7c48df14a73f5b8322d86d77283aeec6acdc47e8"), looks := true }, kinds := [], alts := [], laidByText := true, laidKinds := [.data, .data, .pinned], laidTests := true, laidLooks := .later }
def TopRefuseUptoCardSaid : Prop := Claim7.holds Tryz.pinned (.plain (OpenSpec.upto topRefuseSpec)) topRefuseUptoCard

/-- THE SECOND FORM's CARD OF 'glowwormtop.TopSafe'. -/
def topSafeUptoCard : Claim7 := { stood := { row := topSafeUptoRow, standIns := [], harness := (true, "3cdbde8dc6f69ee8cba3d63a7c48df14a73f5b8322d86d77283aeec6acdc47e8"), looks := true }, kinds := [], alts := [], laidByText := true, laidKinds := [.data, .data, .pinned], laidTests := true, laidLooks := .later }
def TopSafeUptoCardSaid : Prop := Claim7.holds Tryz.pinned (.plain (OpenSpec.upto topSafeSpec)) topSafeUptoCard
end Rows
end Go.Proofs.YtgflghhffmjojaaGreatDoor
