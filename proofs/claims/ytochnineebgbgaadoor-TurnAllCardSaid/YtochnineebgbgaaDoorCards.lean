/-
  DERIVED. GIVEN WITH THE SEED: THE CARDS: each row of YtochnineebgbgaaDoorRows.lean that lists a variable, with what it lists TIED to the program's text (the seventh form; the later family's looks); each row that meets fmt, with fmt's text TOLD by the authors' own Lean function (tested against real Go, not proved from fmt's source: count such statements apart). THE CARD IS WHAT COUNTS. Prove the row's statement (the work); the ties are given (YtochnineebgbgaaDoorTie.lean); close each card by the builder's one call (the guide's Derived/Test/ToyasCard.lean, 'card_holds'). Laid BY PROGRAM, IN A SANDBOX (cutbox-door.mjs). By AI agents, Wed Nov 11 2026. No macro, syntax, notation, axiom, sorry.
-/
import Derived.Test.YtochnineebgbgaaDoorRows
import GoSem.ClaimSeven
namespace Go.Proofs.YtochnineebgbgaaDoor
namespace Rows

/-- THE TIED CARD OF 'glowwormlaw12.ModAll'. -/
def modAllCard : Claim7 := { stood := { row := modAllRow, standIns := [], harness := (true, "5650f1350e6af3c2990bd041d3177180e50af1a699c1fc9277c091bf2c522b51"), looks := true }, kinds := [], alts := [], laidByText := true, laidKinds := [.data, .pinned], laidTests := true, laidLooks := .later }
def ModAllCardSaid : Prop := Claim7.holds Tryd.pinned (.plain (OpenSpec.ofChange modAllSpec)) modAllCard

/-- THE TIED CARD OF 'glowwormlaw12.InAll'. -/
def inAllCard : Claim7 := { stood := { row := inAllRow, standIns := [], harness := (true, "5650f1350e6af3c2990bd041d3177180e50af1a699c1fc9277c091bf2c522b51"), looks := true }, kinds := [], alts := [], laidByText := true, laidKinds := [.data, .pinned], laidTests := true, laidLooks := .later }
def InAllCardSaid : Prop := Claim7.holds Tryd.pinned (.plain (OpenSpec.ofChange inAllSpec)) inAllCard

/-- THE TIED CARD OF 'glowwormlaw12.ModRound'. -/
def modRoundCard : Claim7 := { stood := { row := modRoundRow, standIns := [], harness := (true, "5650f1350e6af3c2990bd041d3177180e50af1a699c1fc9277c091bf2c522b51"), looks := true }, kinds := [], alts := [], laidByText := true, laidKinds := [.data, .pinned], laidTests := true, laidLooks := .later }
def ModRoundCardSaid : Prop := Claim7.holds Tryd.pinned (.plain (OpenSpec.ofChange modRoundSpec)) modRoundCard

/-- THE TIED CARD OF 'glowwormlaw12.OutWindow'. -/
def outWindowCard : Claim7 := { stood := { row := outWindowRow, standIns := [], harness := (true, "5650f1350e6af3c2990bd041d3177180e50af1a699c1fc9277c091bf2c522b51"), looks := true }, kinds := [], alts := [], laidByText := true, laidKinds := [.data, .pinned], laidTests := true, laidLooks := .later }
def OutWindowCardSaid : Prop := Claim7.holds Tryd.pinned (.plain (OpenSpec.ofChange outWindowSpec)) outWindowCard

/-- THE TIED CARD OF 'glowwormlaw12.OutFull'. -/
def outFullCard : Claim7 := { stood := { row := outFullRow, standIns := [], harness := (true, "5650f1350e6af3c2990bd041d3177180e50af1a699c1fc9277c091bf2c522b51"), looks := true }, kinds := [], alts := [], laidByText := true, laidKinds := [.data, .pinned], laidTests := true, laidLooks := .later }
def OutFullCardSaid : Prop := Claim7.holds Tryd.pinned (.plain (OpenSpec.ofChange outFullSpec)) outFullCard

/-- THE TIED CARD OF 'glowwormlaw12.OutForeign'. -/
def outForeignCard : Claim7 := { stood := { row := outForeignRow, standIns := [], harness := (true, "5650f1350e6af3c2990bd041d3177180e50af1a699c1fc9277c091bf2c522b51"), looks := true }, kinds := [], alts := [], laidByText := true, laidKinds := [.data, .pinned], laidTests := true, laidLooks := .later }
def OutForeignCardSaid : Prop := Claim7.holds Tryd.pinned (.plain (OpenSpec.ofChange outForeignSpec)) outForeignCard

/-- THE TIED CARD OF 'glowwormlaw12.InOrder'. -/
def inOrderCard : Claim7 := { stood := { row := inOrderRow, standIns := [], harness := (true, "5650f1350e6af3c2990bd041d3177180e50af1a699c1fc9277c091bf2c522b51"), looks := true }, kinds := [], alts := [], laidByText := true, laidKinds := [.data, .pinned], laidTests := true, laidLooks := .later }
def InOrderCardSaid : Prop := Claim7.holds Tryd.pinned (.plain (OpenSpec.ofChange inOrderSpec)) inOrderCard

/-- THE TIED CARD OF 'glowwormlaw12.TurnGo'. -/
def turnGoCard : Claim7 := { stood := { row := turnGoRow, standIns := [], harness := (true, "5650f1350e6af3c2990bd041d3177180e50af1a699c1fc9277c091bf2c522b51"), looks := true }, kinds := [], alts := [], laidByText := true, laidKinds := [.data, .pinned], laidTests := true, laidLooks := .later }
def TurnGoCardSaid : Prop := Claim7.holds Tryd.pinned (.plain (OpenSpec.ofChange turnGoSpec)) turnGoCard

/-- THE TIED CARD OF 'glowwormlaw12.TurnSize'. -/
def turnSizeCard : Claim7 := { stood := { row := turnSizeRow, standIns := [], harness := (true, "5650f1350e6af3c2990bd041d3177180e50af1a699c1fc9277c091bf2c522b51"), looks := true }, kinds := [], alts := [], laidByText := true, laidKinds := [.data, .pinned], laidTests := true, laidLooks := .later }
def TurnSizeCardSaid : Prop := Claim7.holds Tryd.pinned (.plain (OpenSpec.ofChange turnSizeSpec)) turnSizeCard

/-- THE TIED CARD OF 'glowwormlaw12.OutTwice'. -/
def outTwiceCard : Claim7 := { stood := { row := outTwiceRow, standIns := [], harness := (true, "5650f1350e6af3c2990bd041d3177180e50af1a699c1fc9277c091bf2c522b51"), looks := true }, kinds := [], alts := [], laidByText := true, laidKinds := [.data, .pinned], laidTests := true, laidLooks := .later }
def OutTwiceCardSaid : Prop := Claim7.holds Tryd.pinned (.plain (OpenSpec.ofChange outTwiceSpec)) outTwiceCard

/-- THE TIED CARD OF 'glowwormlaw12.OutAgain'. -/
def outAgainCard : Claim7 := { stood := { row := outAgainRow, standIns := [], harness := (true, "5650f1350e6af3c2990bd041d3177180e50af1a699c1fc9277c091bf2c522b51"), looks := true }, kinds := [], alts := [], laidByText := true, laidKinds := [.data, .pinned], laidTests := true, laidLooks := .later }
def OutAgainCardSaid : Prop := Claim7.holds Tryd.pinned (.plain (OpenSpec.ofChange outAgainSpec)) outAgainCard

/-- THE TIED CARD OF 'glowwormlaw12.TwoComplete'. -/
def twoCompleteCard : Claim7 := { stood := { row := twoCompleteRow, standIns := [], harness := (true, "5650f1350e6af3c2990bd041d3177180e50af1a699c1fc9277c091bf2c522b51"), looks := true }, kinds := [], alts := [], laidByText := true, laidKinds := [.data, .pinned], laidTests := true, laidLooks := .later }
def TwoCompleteCardSaid : Prop := Claim7.holds Tryd.pinned (.plain (OpenSpec.ofChange twoCompleteSpec)) twoCompleteCard

/-- THE TIED CARD OF 'glowwormlaw12.TurnReject'. -/
def turnRejectCard : Claim7 := { stood := { row := turnRejectRow, standIns := [], harness := (true, "5650f1350e6af3c2990bd041d3177180e50af1a699c1fc9277c091bf2c522b51"), looks := true }, kinds := [], alts := [], laidByText := true, laidKinds := [.data, .pinned], laidTests := true, laidLooks := .later }
def TurnRejectCardSaid : Prop := Claim7.holds Tryd.pinned (.plain (OpenSpec.ofChange turnRejectSpec)) turnRejectCard

/-- THE TIED CARD OF 'glowwormlaw12.TurnAck'. -/
def turnAckCard : Claim7 := { stood := { row := turnAckRow, standIns := [], harness := (true, "5650f1350e6af3c2990bd041d3177180e50af1a699c1fc9277c091bf2c522b51"), looks := true }, kinds := [], alts := [], laidByText := true, laidKinds := [.data, .pinned], laidTests := true, laidLooks := .later }
def TurnAckCardSaid : Prop := Claim7.holds Tryd.pinned (.plain (OpenSpec.ofChange turnAckSpec)) turnAckCard

/-- THE TIED CARD OF 'glowwormlaw12.TurnOther'. -/
def turnOtherCard : Claim7 := { stood := { row := turnOtherRow, standIns := [], harness := (true, "5650f1350e6af3c2990bd041d3177180e50af1a699c1fc9277c091bf2c522b51"), looks := true }, kinds := [], alts := [], laidByText := true, laidKinds := [.data, .pinned], laidTests := true, laidLooks := .later }
def TurnOtherCardSaid : Prop := Claim7.holds Tryd.pinned (.plain (OpenSpec.ofChange turnOtherSpec)) turnOtherCard

/-- THE TIED CARD OF 'glowwormlaw12.TurnAll'. -/
def turnAllCard : Claim7 := { stood := { row := turnAllRow, standIns := [], harness := (true, "5650f1350e6af3c2990bd041d3177180e50af1a699c1fc9277c091bf2c522b51"), looks := true }, kinds := [], alts := [], laidByText := true, laidKinds := [.data, .pinned], laidTests := true, laidLooks := .later }
def TurnAllCardSaid : Prop := Claim7.holds Tryd.pinned (.plain (OpenSpec.ofChange turnAllSpec)) turnAllCard

/-- THE TIED CARD OF 'glowwormlaw12.TurnSwap'. -/
def turnSwapCard : Claim7 := { stood := { row := turnSwapRow, standIns := [], harness := (true, "5650f1350e6af3c2990bd041d3177180e50af1a699c1fc9277c091bf2c522b51"), looks := true }, kinds := [], alts := [], laidByText := true, laidKinds := [.data, .pinned], laidTests := true, laidLooks := .later }
def TurnSwapCardSaid : Prop := Claim7.holds Tryd.pinned (.plain (OpenSpec.ofChange turnSwapSpec)) turnSwapCard

/-- THE TIED CARD OF 'glowwormlaw12.TurnNone'. -/
def turnNoneCard : Claim7 := { stood := { row := turnNoneRow, standIns := [], harness := (true, "5650f1350e6af3c2990bd041d3177180e50af1a699c1fc9277c091bf2c522b51"), looks := true }, kinds := [], alts := [], laidByText := true, laidKinds := [.data, .pinned], laidTests := true, laidLooks := .later }
def TurnNoneCardSaid : Prop := Claim7.holds Tryd.pinned (.plain (OpenSpec.ofChange turnNoneSpec)) turnNoneCard

/-- THE SECOND FORM's CARD OF 'glowwormlaw12.ModAll'. -/
def modAllUptoCard : Claim7 := { stood := { row := modAllUptoRow, standIns := [], harness := (true, "5650f1350e6af3c2990bd041d3177180e50af1a699c1fc9277c091bf2c522b51"), looks := true }, kinds := [], alts := [], laidByText := true, laidKinds := [.data, .pinned], laidTests := true, laidLooks := .later }
def ModAllUptoCardSaid : Prop := Claim7.holds Tryd.pinned (.plain (OpenSpec.upto modAllSpec)) modAllUptoCard

/-- THE SECOND FORM's CARD OF 'glowwormlaw12.InAll'. -/
def inAllUptoCard : Claim7 := { stood := { row := inAllUptoRow, standIns := [], harness := (true, "5650f1350e6af3c2990bd041d3177180e50af1a699c1fc9277c091bf2c522b51"), looks := true }, kinds := [], alts := [], laidByText := true, laidKinds := [.data, .pinned], laidTests := true, laidLooks := .later }
def InAllUptoCardSaid : Prop := Claim7.holds Tryd.pinned (.plain (OpenSpec.upto inAllSpec)) inAllUptoCard

/-- THE SECOND FORM's CARD OF 'glowwormlaw12.ModRound'. -/
def modRoundUptoCard : Claim7 := { stood := { row := modRoundUptoRow, standIns := [], harness := (true, "5650f1350e6af3c2990bd041d3177180e50af1a699c1fc9277c091bf2c522b51"), looks := true }, kinds := [], alts := [], laidByText := true, laidKinds := [.data, .pinned], laidTests := true, laidLooks := .later }
def ModRoundUptoCardSaid : Prop := Claim7.holds Tryd.pinned (.plain (OpenSpec.upto modRoundSpec)) modRoundUptoCard

/-- THE SECOND FORM's CARD OF 'glowwormlaw12.OutWindow'. -/
def outWindowUptoCard : Claim7 := { stood := { row := outWindowUptoRow, standIns := [], harness := (true, "5650f1350e6af3c2990bd041d3177180e50af1a699c1fc9277c091bf2c522b51"), looks := true }, kinds := [], alts := [], laidByText := true, laidKinds := [.data, .pinned], laidTests := true, laidLooks := .later }
def OutWindowUptoCardSaid : Prop := Claim7.holds Tryd.pinned (.plain (OpenSpec.upto outWindowSpec)) outWindowUptoCard

/-- THE SECOND FORM's CARD OF 'glowwormlaw12.OutFull'. -/
def outFullUptoCard : Claim7 := { stood := { row := outFullUptoRow, standIns := [], harness := (true, "5650f1350e6af3c2990bd041d3177180e50af1a699c1fc9277c091bf2c522b51"), looks := true }, kinds := [], alts := [], laidByText := true, laidKinds := [.data, .pinned], laidTests := true, laidLooks := .later }
def OutFullUptoCardSaid : Prop := Claim7.holds Tryd.pinned (.plain (OpenSpec.upto outFullSpec)) outFullUptoCard

/-- THE SECOND FORM's CARD OF 'glowwormlaw12.OutForeign'. -/
def outForeignUptoCard : Claim7 := { stood := { row := outForeignUptoRow, standIns := [], harness := (true, "5650f1350e6af3c2990bd041d3177180e50af1a699c1fc9277c091bf2c522b51"), looks := true }, kinds := [], alts := [], laidByText := true, laidKinds := [.data, .pinned], laidTests := true, laidLooks := .later }
def OutForeignUptoCardSaid : Prop := Claim7.holds Tryd.pinned (.plain (OpenSpec.upto outForeignSpec)) outForeignUptoCard

/-- THE SECOND FORM's CARD OF 'glowwormlaw12.InOrder'. -/
def inOrderUptoCard : Claim7 := { stood := { row := inOrderUptoRow, standIns := [], harness := (true, "5650f1350e6af3c2990bd041d3177180e50af1a699c1fc9277c091bf2c522b51"), looks := true }, kinds := [], alts := [], laidByText := true, laidKinds := [.data, .pinned], laidTests := true, laidLooks := .later }
def InOrderUptoCardSaid : Prop := Claim7.holds Tryd.pinned (.plain (OpenSpec.upto inOrderSpec)) inOrderUptoCard

/-- THE SECOND FORM's CARD OF 'glowwormlaw12.TurnGo'. -/
def turnGoUptoCard : Claim7 := { stood := { row := turnGoUptoRow, standIns := [], harness := (true, "5650f1350e6af3c2990bd041d3177180e50af1a699c1fc9277c091bf2c522b51"), looks := true }, kinds := [], alts := [], laidByText := true, laidKinds := [.data, .pinned], laidTests := true, laidLooks := .later }
def TurnGoUptoCardSaid : Prop := Claim7.holds Tryd.pinned (.plain (OpenSpec.upto turnGoSpec)) turnGoUptoCard

/-- THE SECOND FORM's CARD OF 'glowwormlaw12.TurnSize'. -/
def turnSizeUptoCard : Claim7 := { stood := { row := turnSizeUptoRow, standIns := [], harness := (true, "5650f1350e6af3c2990bd041d3177180e50af1a699c1fc9277c091bf2c522b51"), looks := true }, kinds := [], alts := [], laidByText := true, laidKinds := [.data, .pinned], laidTests := true, laidLooks := .later }
def TurnSizeUptoCardSaid : Prop := Claim7.holds Tryd.pinned (.plain (OpenSpec.upto turnSizeSpec)) turnSizeUptoCard

/-- THE SECOND FORM's CARD OF 'glowwormlaw12.OutTwice'. -/
def outTwiceUptoCard : Claim7 := { stood := { row := outTwiceUptoRow, standIns := [], harness := (true, "5650f1350e6af3c2990bd041d3177180e50af1a699c1fc9277c091bf2c522b51"), looks := true }, kinds := [], alts := [], laidByText := true, laidKinds := [.data, .pinned], laidTests := true, laidLooks := .later }
def OutTwiceUptoCardSaid : Prop := Claim7.holds Tryd.pinned (.plain (OpenSpec.upto outTwiceSpec)) outTwiceUptoCard

/-- THE SECOND FORM's CARD OF 'glowwormlaw12.OutAgain'. -/
def outAgainUptoCard : Claim7 := { stood := { row := outAgainUptoRow, standIns := [], harness := (true, "5650f1350e6af3c2990bd041d3177180e50af1a699c1fc9277c091bf2c522b51"), looks := true }, kinds := [], alts := [], laidByText := true, laidKinds := [.data, .pinned], laidTests := true, laidLooks := .later }
def OutAgainUptoCardSaid : Prop := Claim7.holds Tryd.pinned (.plain (OpenSpec.upto outAgainSpec)) outAgainUptoCard

/-- THE SECOND FORM's CARD OF 'glowwormlaw12.TwoComplete'. -/
def twoCompleteUptoCard : Claim7 := { stood := { row := twoCompleteUptoRow, standIns := [], harness := (true, "5650f1350e6af3c2990bd041d3177180e50af1a699c1fc9277c091bf2c522b51"), looks := true }, kinds := [], alts := [], laidByText := true, laidKinds := [.data, .pinned], laidTests := true, laidLooks := .later }
def TwoCompleteUptoCardSaid : Prop := Claim7.holds Tryd.pinned (.plain (OpenSpec.upto twoCompleteSpec)) twoCompleteUptoCard

/-- THE SECOND FORM's CARD OF 'glowwormlaw12.TurnReject'. -/
def turnRejectUptoCard : Claim7 := { stood := { row := turnRejectUptoRow, standIns := [], harness := (true, "5650f1350e6af3c2990bd041d3177180e50af1a699c1fc9277c091bf2c522b51"), looks := true }, kinds := [], alts := [], laidByText := true, laidKinds := [.data, .pinned], laidTests := true, laidLooks := .later }
def TurnRejectUptoCardSaid : Prop := Claim7.holds Tryd.pinned (.plain (OpenSpec.upto turnRejectSpec)) turnRejectUptoCard

/-- THE SECOND FORM's CARD OF 'glowwormlaw12.TurnAck'. -/
def turnAckUptoCard : Claim7 := { stood := { row := turnAckUptoRow, standIns := [], harness := (true, "5650f1350e6af3c2990bd041d3177180e50af1a699c1fc9277c091bf2c522b51"), looks := true }, kinds := [], alts := [], laidByText := true, laidKinds := [.data, .pinned], laidTests := true, laidLooks := .later }
def TurnAckUptoCardSaid : Prop := Claim7.holds Tryd.pinned (.plain (OpenSpec.upto turnAckSpec)) turnAckUptoCard

/-- THE SECOND FORM's CARD OF 'glowwormlaw12.TurnOther'. -/
def turnOtherUptoCard : Claim7 := { stood := { row := turnOtherUptoRow, standIns := [], harness := (true, "5650f1350e6af3c2990bd041d3177180e50af1a699c1fc9277c091bf2c522b51"), looks := true }, kinds := [], alts := [], laidByText := true, laidKinds := [.data, .pinned], laidTests := true, laidLooks := .later }
def TurnOtherUptoCardSaid : Prop := Claim7.holds Tryd.pinned (.plain (OpenSpec.upto turnOtherSpec)) turnOtherUptoCard

/-- THE SECOND FORM's CARD OF 'glowwormlaw12.TurnAll'. -/
def turnAllUptoCard : Claim7 := { stood := { row := turnAllUptoRow, standIns := [], harness := (true, "5650f1350e6af3c2990bd041d3177180e50af1a699c1fc9277c091bf2c522b51"), looks := true }, kinds := [], alts := [], laidByText := true, laidKinds := [.data, .pinned], laidTests := true, laidLooks := .later }
def TurnAllUptoCardSaid : Prop := Claim7.holds Tryd.pinned (.plain (OpenSpec.upto turnAllSpec)) turnAllUptoCard

/-- THE SECOND FORM's CARD OF 'glowwormlaw12.TurnSwap'. -/
def turnSwapUptoCard : Claim7 := { stood := { row := turnSwapUptoRow, standIns := [], harness := (true, "5650f1350e6af3c2990bd041d3177180e50af1a699c1fc9277c091bf2c522b51"), looks := true }, kinds := [], alts := [], laidByText := true, laidKinds := [.data, .pinned], laidTests := true, laidLooks := .later }
def TurnSwapUptoCardSaid : Prop := Claim7.holds Tryd.pinned (.plain (OpenSpec.upto turnSwapSpec)) turnSwapUptoCard

/-- THE SECOND FORM's CARD OF 'glowwormlaw12.TurnNone'. -/
def turnNoneUptoCard : Claim7 := { stood := { row := turnNoneUptoRow, standIns := [], harness := (true, "5650f1350e6af3c2990bd041d3177180e50af1a699c1fc9277c091bf2c522b51"), looks := true }, kinds := [], alts := [], laidByText := true, laidKinds := [.data, .pinned], laidTests := true, laidLooks := .later }
def TurnNoneUptoCardSaid : Prop := Claim7.holds Tryd.pinned (.plain (OpenSpec.upto turnNoneSpec)) turnNoneUptoCard
end Rows
end Go.Proofs.YtochnineebgbgaaDoor
