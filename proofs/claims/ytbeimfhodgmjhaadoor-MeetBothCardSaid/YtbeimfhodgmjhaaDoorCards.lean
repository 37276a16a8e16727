/-
  DERIVED. GIVEN WITH THE SEED: THE CARDS: each row of YtbeimfhodgmjhaaDoorRows.lean that lists a variable, with what it lists TIED to the program's text (the seventh form; the later family's looks); each row that meets fmt, with fmt's text TOLD by the authors' own Lean function (tested against real Go, not proved from fmt's source: count such statements apart). THE CARD IS WHAT COUNTS. Prove the row's statement (the work); the ties are given (YtbeimfhodgmjhaaDoorTie.lean); close each card by the builder's one call (the guide's Derived/Test/ToyasCard.lean, 'card_holds'). Laid BY PROGRAM, IN A SANDBOX (cutbox-door.mjs). By AI agents, Wed Nov 11 2026. No macro, syntax, notation, axiom, sorry.
-/
import Derived.Test.YtbeimfhodgmjhaaDoorRows
import GoSem.ClaimSeven
namespace Go.Proofs.YtbeimfhodgmjhaaDoor
namespace Rows

/-- THE TIED CARD OF 'glowwormlaw8.QosAll'. -/
def qosAllCard : Claim7 := { stood := { row := qosAllRow, standIns := [], harness := (true, "01f71eedae39d9de5eb5d15686d686c845c18c6011068d41dfae0df36afa5506"), looks := true }, kinds := [], alts := [], laidByText := true, laidKinds := [.data, .data, .pinned], laidTests := true, laidLooks := .later }
def QosAllCardSaid : Prop := Claim7.holds Tryd.pinned (.plain (OpenSpec.ofChange qosAllSpec)) qosAllCard

/-- THE TIED CARD OF 'glowwormlaw8.QosMore'. -/
def qosMoreCard : Claim7 := { stood := { row := qosMoreRow, standIns := [], harness := (true, "01f71eedae39d9de5eb5d15686d686c845c18c6011068d41dfae0df36afa5506"), looks := true }, kinds := [], alts := [], laidByText := true, laidKinds := [.data, .data, .pinned], laidTests := true, laidLooks := .later }
def QosMoreCardSaid : Prop := Claim7.holds Tryd.pinned (.plain (OpenSpec.ofChange qosMoreSpec)) qosMoreCard

/-- THE TIED CARD OF 'glowwormlaw8.MeetAll'. -/
def meetAllCard : Claim7 := { stood := { row := meetAllRow, standIns := [], harness := (true, "01f71eedae39d9de5eb5d15686d686c845c18c6011068d41dfae0df36afa5506"), looks := true }, kinds := [], alts := [], laidByText := true, laidKinds := [.data, .data, .pinned], laidTests := true, laidLooks := .later }
def MeetAllCardSaid : Prop := Claim7.holds Tryd.pinned (.plain (OpenSpec.ofChange meetAllSpec)) meetAllCard

/-- THE TIED CARD OF 'glowwormlaw8.MeetBoth'. -/
def meetBothCard : Claim7 := { stood := { row := meetBothRow, standIns := [], harness := (true, "01f71eedae39d9de5eb5d15686d686c845c18c6011068d41dfae0df36afa5506"), looks := true }, kinds := [], alts := [], laidByText := true, laidKinds := [.data, .data, .pinned], laidTests := true, laidLooks := .later }
def MeetBothCardSaid : Prop := Claim7.holds Tryd.pinned (.plain (OpenSpec.ofChange meetBothSpec)) meetBothCard

/-- THE TIED CARD OF 'glowwormlaw8.XidAll'. -/
def xidAllCard : Claim7 := { stood := { row := xidAllRow, standIns := [], harness := (true, "01f71eedae39d9de5eb5d15686d686c845c18c6011068d41dfae0df36afa5506"), looks := true }, kinds := [], alts := [], laidByText := true, laidKinds := [.data, .data, .pinned], laidTests := true, laidLooks := .later }
def XidAllCardSaid : Prop := Claim7.holds Tryd.pinned (.plain (OpenSpec.ofChange xidAllSpec)) xidAllCard

/-- THE TIED CARD OF 'glowwormlaw8.SetupAll'. -/
def setupAllCard : Claim7 := { stood := { row := setupAllRow, standIns := [], harness := (true, "01f71eedae39d9de5eb5d15686d686c845c18c6011068d41dfae0df36afa5506"), looks := true }, kinds := [], alts := [], laidByText := true, laidKinds := [.data, .data, .pinned], laidTests := true, laidLooks := .later }
def SetupAllCardSaid : Prop := Claim7.holds Tryd.pinned (.plain (OpenSpec.ofChange setupAllSpec)) setupAllCard

/-- THE TIED CARD OF 'glowwormlaw8.SetupNone'. -/
def setupNoneCard : Claim7 := { stood := { row := setupNoneRow, standIns := [], harness := (true, "01f71eedae39d9de5eb5d15686d686c845c18c6011068d41dfae0df36afa5506"), looks := true }, kinds := [], alts := [], laidByText := true, laidKinds := [.data, .data, .pinned], laidTests := true, laidLooks := .later }
def SetupNoneCardSaid : Prop := Claim7.holds Tryd.pinned (.plain (OpenSpec.ofChange setupNoneSpec)) setupNoneCard

/-- THE TIED CARD OF 'glowwormlaw8.QosTurn'. -/
def qosTurnCard : Claim7 := { stood := { row := qosTurnRow, standIns := [], harness := (true, "01f71eedae39d9de5eb5d15686d686c845c18c6011068d41dfae0df36afa5506"), looks := true }, kinds := [], alts := [], laidByText := true, laidKinds := [.data, .data, .pinned], laidTests := true, laidLooks := .later }
def QosTurnCardSaid : Prop := Claim7.holds Tryd.pinned (.plain (OpenSpec.ofChange qosTurnSpec)) qosTurnCard

/-- THE TIED CARD OF 'glowwormlaw8.QosBits'. -/
def qosBitsCard : Claim7 := { stood := { row := qosBitsRow, standIns := [], harness := (true, "01f71eedae39d9de5eb5d15686d686c845c18c6011068d41dfae0df36afa5506"), looks := true }, kinds := [], alts := [], laidByText := true, laidKinds := [.data, .data, .pinned], laidTests := true, laidLooks := .later }
def QosBitsCardSaid : Prop := Claim7.holds Tryd.pinned (.plain (OpenSpec.ofChange qosBitsSpec)) qosBitsCard

/-- THE TIED CARD OF 'glowwormlaw8.QosTicks'. -/
def qosTicksCard : Claim7 := { stood := { row := qosTicksRow, standIns := [], harness := (true, "01f71eedae39d9de5eb5d15686d686c845c18c6011068d41dfae0df36afa5506"), looks := true }, kinds := [], alts := [], laidByText := true, laidKinds := [.data, .data, .pinned], laidTests := true, laidLooks := .later }
def QosTicksCardSaid : Prop := Claim7.holds Tryd.pinned (.plain (OpenSpec.ofChange qosTicksSpec)) qosTicksCard

/-- THE TIED CARD OF 'glowwormlaw8.MeetBest'. -/
def meetBestCard : Claim7 := { stood := { row := meetBestRow, standIns := [], harness := (true, "01f71eedae39d9de5eb5d15686d686c845c18c6011068d41dfae0df36afa5506"), looks := true }, kinds := [], alts := [], laidByText := true, laidKinds := [.data, .data, .pinned], laidTests := true, laidLooks := .later }
def MeetBestCardSaid : Prop := Claim7.holds Tryd.pinned (.plain (OpenSpec.ofChange meetBestSpec)) meetBestCard

/-- THE TIED CARD OF 'glowwormlaw8.MeetMine'. -/
def meetMineCard : Claim7 := { stood := { row := meetMineRow, standIns := [], harness := (true, "01f71eedae39d9de5eb5d15686d686c845c18c6011068d41dfae0df36afa5506"), looks := true }, kinds := [], alts := [], laidByText := true, laidKinds := [.data, .data, .pinned], laidTests := true, laidLooks := .later }
def MeetMineCardSaid : Prop := Claim7.holds Tryd.pinned (.plain (OpenSpec.ofChange meetMineSpec)) meetMineCard

/-- THE TIED CARD OF 'glowwormlaw8.XidTurn'. -/
def xidTurnCard : Claim7 := { stood := { row := xidTurnRow, standIns := [], harness := (true, "01f71eedae39d9de5eb5d15686d686c845c18c6011068d41dfae0df36afa5506"), looks := true }, kinds := [], alts := [], laidByText := true, laidKinds := [.data, .data, .pinned], laidTests := true, laidLooks := .later }
def XidTurnCardSaid : Prop := Claim7.holds Tryd.pinned (.plain (OpenSpec.ofChange xidTurnSpec)) xidTurnCard

/-- THE TIED CARD OF 'glowwormlaw8.XidFresh'. -/
def xidFreshCard : Claim7 := { stood := { row := xidFreshRow, standIns := [], harness := (true, "01f71eedae39d9de5eb5d15686d686c845c18c6011068d41dfae0df36afa5506"), looks := true }, kinds := [], alts := [], laidByText := true, laidKinds := [.data, .data, .pinned], laidTests := true, laidLooks := .later }
def XidFreshCardSaid : Prop := Claim7.holds Tryd.pinned (.plain (OpenSpec.ofChange xidFreshSpec)) xidFreshCard

/-- THE TIED CARD OF 'glowwormlaw8.SetupMore'. -/
def setupMoreCard : Claim7 := { stood := { row := setupMoreRow, standIns := [], harness := (true, "01f71eedae39d9de5eb5d15686d686c845c18c6011068d41dfae0df36afa5506"), looks := true }, kinds := [], alts := [], laidByText := true, laidKinds := [.data, .data, .pinned], laidTests := true, laidLooks := .later }
def SetupMoreCardSaid : Prop := Claim7.holds Tryd.pinned (.plain (OpenSpec.ofChange setupMoreSpec)) setupMoreCard

/-- THE TIED CARD OF 'glowwormlaw8.QosCut'. -/
def qosCutCard : Claim7 := { stood := { row := qosCutRow, standIns := [], harness := (true, "01f71eedae39d9de5eb5d15686d686c845c18c6011068d41dfae0df36afa5506"), looks := true }, kinds := [], alts := [], laidByText := true, laidKinds := [.data, .data, .pinned], laidTests := true, laidLooks := .later }
def QosCutCardSaid : Prop := Claim7.holds Tryd.pinned (.plain (OpenSpec.ofChange qosCutSpec)) qosCutCard

/-- THE TIED CARD OF 'glowwormlaw8.MeetLeast'. -/
def meetLeastCard : Claim7 := { stood := { row := meetLeastRow, standIns := [], harness := (true, "01f71eedae39d9de5eb5d15686d686c845c18c6011068d41dfae0df36afa5506"), looks := true }, kinds := [], alts := [], laidByText := true, laidKinds := [.data, .data, .pinned], laidTests := true, laidLooks := .later }
def MeetLeastCardSaid : Prop := Claim7.holds Tryd.pinned (.plain (OpenSpec.ofChange meetLeastSpec)) meetLeastCard

/-- THE TIED CARD OF 'glowwormlaw8.SetupUnlike'. -/
def setupUnlikeCard : Claim7 := { stood := { row := setupUnlikeRow, standIns := [], harness := (true, "01f71eedae39d9de5eb5d15686d686c845c18c6011068d41dfae0df36afa5506"), looks := true }, kinds := [], alts := [], laidByText := true, laidKinds := [.data, .data, .pinned], laidTests := true, laidLooks := .later }
def SetupUnlikeCardSaid : Prop := Claim7.holds Tryd.pinned (.plain (OpenSpec.ofChange setupUnlikeSpec)) setupUnlikeCard

/-- THE SECOND FORM's CARD OF 'glowwormlaw8.QosAll'. -/
def qosAllUptoCard : Claim7 := { stood := { row := qosAllUptoRow, standIns := [], harness := (true, "01f71eedae39d9de5eb5d15686d686c845c18c6011068d41dfae0df36afa5506"), looks := true }, kinds := [], alts := [], laidByText := true, laidKinds := [.data, .data, .pinned], laidTests := true, laidLooks := .later }
def QosAllUptoCardSaid : Prop := Claim7.holds Tryd.pinned (.plain (OpenSpec.upto qosAllSpec)) qosAllUptoCard

/-- THE SECOND FORM's CARD OF 'glowwormlaw8.QosMore'. -/
def qosMoreUptoCard : Claim7 := { stood := { row := qosMoreUptoRow, standIns := [], harness := (true, "01f71eedae39d9de5eb5d15686d686c845c18c6011068d41dfae0df36afa5506"), looks := true }, kinds := [], alts := [], laidByText := true, laidKinds := [.data, .data, .pinned], laidTests := true, laidLooks := .later }
def QosMoreUptoCardSaid : Prop := Claim7.holds Tryd.pinned (.plain (OpenSpec.upto qosMoreSpec)) qosMoreUptoCard

/-- THE SECOND FORM's CARD OF 'glowwormlaw8.MeetAll'. -/
def meetAllUptoCard : Claim7 := { stood := { row := meetAllUptoRow, standIns := [], harness := (true, "01f71eedae39d9de5eb5d15686d686c845c18c6011068d41dfae0df36afa5506"), looks := true }, kinds := [], alts := [], laidByText := true, laidKinds := [.data, .data, .pinned], laidTests := true, laidLooks := .later }
def MeetAllUptoCardSaid : Prop := Claim7.holds Tryd.pinned (.plain (OpenSpec.upto meetAllSpec)) meetAllUptoCard

/-- THE SECOND FORM's CARD OF 'glowwormlaw8.MeetBoth'. -/
def meetBothUptoCard : Claim7 := { stood := { row := meetBothUptoRow, standIns := [], harness := (true, "01f71eedae39d9de5eb5d15686d686c845c18c6011068d41dfae0df36afa5506"), looks := true }, kinds := [], alts := [], laidByText := true, laidKinds := [.data, .data, .pinned], laidTests := true, laidLooks := .later }
def MeetBothUptoCardSaid : Prop := Claim7.holds Tryd.pinned (.plain (OpenSpec.upto meetBothSpec)) meetBothUptoCard

/-- THE SECOND FORM's CARD OF 'glowwormlaw8.XidAll'. -/
def xidAllUptoCard : Claim7 := { stood := { row := xidAllUptoRow, standIns := [], harness := (true, "01f71eedae39d9de5eb5d15686d686c845c18c6011068d41dfae0df36afa5506"), looks := true }, kinds := [], alts := [], laidByText := true, laidKinds := [.data, .data, .pinned], laidTests := true, laidLooks := .later }
def XidAllUptoCardSaid : Prop := Claim7.holds Tryd.pinned (.plain (OpenSpec.upto xidAllSpec)) xidAllUptoCard

/-- THE SECOND FORM's CARD OF 'glowwormlaw8.SetupAll'. -/
def setupAllUptoCard : Claim7 := { stood := { row := setupAllUptoRow, standIns := [], harness := (true, "01f71eedae39d9de5eb5d15686d686c845c18c6011068d41dfae0df36afa5506"), looks := true }, kinds := [], alts := [], laidByText := true, laidKinds := [.data, .data, .pinned], laidTests := true, laidLooks := .later }
def SetupAllUptoCardSaid : Prop := Claim7.holds Tryd.pinned (.plain (OpenSpec.upto setupAllSpec)) setupAllUptoCard

/-- THE SECOND FORM's CARD OF 'glowwormlaw8.SetupNone'. -/
def setupNoneUptoCard : Claim7 := { stood := { row := setupNoneUptoRow, standIns := [], harness := (true, "01f71eedae39d9de5eb5d15686d686c845c18c6011068d41dfae0df36afa5506"), looks := true }, kinds := [], alts := [], laidByText := true, laidKinds := [.data, .data, .pinned], laidTests := true, laidLooks := .later }
def SetupNoneUptoCardSaid : Prop := Claim7.holds Tryd.pinned (.plain (OpenSpec.upto setupNoneSpec)) setupNoneUptoCard

/-- THE SECOND FORM's CARD OF 'glowwormlaw8.QosTurn'. -/
def qosTurnUptoCard : Claim7 := { stood := { row := qosTurnUptoRow, standIns := [], harness := (true, "01f71eedae39d9de5eb5d15686d686c845c18c6011068d41dfae0df36afa5506"), looks := true }, kinds := [], alts := [], laidByText := true, laidKinds := [.data, .data, .pinned], laidTests := true, laidLooks := .later }
def QosTurnUptoCardSaid : Prop := Claim7.holds Tryd.pinned (.plain (OpenSpec.upto qosTurnSpec)) qosTurnUptoCard

/-- THE SECOND FORM's CARD OF 'glowwormlaw8.QosBits'. -/
def qosBitsUptoCard : Claim7 := { stood := { row := qosBitsUptoRow, standIns := [], harness := (true, "01f71eedae39d9de5eb5d15686d686c845c18c6011068d41dfae0df36afa5506"), looks := true }, kinds := [], alts := [], laidByText := true, laidKinds := [.data, .data, .pinned], laidTests := true, laidLooks := .later }
def QosBitsUptoCardSaid : Prop := Claim7.holds Tryd.pinned (.plain (OpenSpec.upto qosBitsSpec)) qosBitsUptoCard

/-- THE SECOND FORM's CARD OF 'glowwormlaw8.QosTicks'. -/
def qosTicksUptoCard : Claim7 := { stood := { row := qosTicksUptoRow, standIns := [], harness := (true, "01f71eedae39d9de5eb5d15686d686c845c18c6011068d41dfae0df36afa5506"), looks := true }, kinds := [], alts := [], laidByText := true, laidKinds := [.data, .data, .pinned], laidTests := true, laidLooks := .later }
def QosTicksUptoCardSaid : Prop := Claim7.holds Tryd.pinned (.plain (OpenSpec.upto qosTicksSpec)) qosTicksUptoCard

/-- THE SECOND FORM's CARD OF 'glowwormlaw8.MeetBest'. -/
def meetBestUptoCard : Claim7 := { stood := { row := meetBestUptoRow, standIns := [], harness := (true, "01f71eedae39d9de5eb5d15686d686c845c18c6011068d41dfae0df36afa5506"), looks := true }, kinds := [], alts := [], laidByText := true, laidKinds := [.data, .data, .pinned], laidTests := true, laidLooks := .later }
def MeetBestUptoCardSaid : Prop := Claim7.holds Tryd.pinned (.plain (OpenSpec.upto meetBestSpec)) meetBestUptoCard

/-- THE SECOND FORM's CARD OF 'glowwormlaw8.MeetMine'. -/
def meetMineUptoCard : Claim7 := { stood := { row := meetMineUptoRow, standIns := [], harness := (true, "01f71eedae39d9de5eb5d15686d686c845c18c6011068d41dfae0df36afa5506"), looks := true }, kinds := [], alts := [], laidByText := true, laidKinds := [.data, .data, .pinned], laidTests := true, laidLooks := .later }
def MeetMineUptoCardSaid : Prop := Claim7.holds Tryd.pinned (.plain (OpenSpec.upto meetMineSpec)) meetMineUptoCard

/-- THE SECOND FORM's CARD OF 'glowwormlaw8.XidTurn'. -/
def xidTurnUptoCard : Claim7 := { stood := { row := xidTurnUptoRow, standIns := [], harness := (true, "01f71eedae39d9de5eb5d15686d686c845c18c6011068d41dfae0df36afa5506"), looks := true }, kinds := [], alts := [], laidByText := true, laidKinds := [.data, .data, .pinned], laidTests := true, laidLooks := .later }
def XidTurnUptoCardSaid : Prop := Claim7.holds Tryd.pinned (.plain (OpenSpec.upto xidTurnSpec)) xidTurnUptoCard

/-- THE SECOND FORM's CARD OF 'glowwormlaw8.XidFresh'. -/
def xidFreshUptoCard : Claim7 := { stood := { row := xidFreshUptoRow, standIns := [], harness := (true, "01f71eedae39d9de5eb5d15686d686c845c18c6011068d41dfae0df36afa5506"), looks := true }, kinds := [], alts := [], laidByText := true, laidKinds := [.data, .data, .pinned], laidTests := true, laidLooks := .later }
def XidFreshUptoCardSaid : Prop := Claim7.holds Tryd.pinned (.plain (OpenSpec.upto xidFreshSpec)) xidFreshUptoCard

/-- THE SECOND FORM's CARD OF 'glowwormlaw8.SetupMore'. -/
def setupMoreUptoCard : Claim7 := { stood := { row := setupMoreUptoRow, standIns := [], harness := (true, "01f71eedae39d9de5eb5d15686d686c845c18c6011068d41dfae0df36afa5506"), looks := true }, kinds := [], alts := [], laidByText := true, laidKinds := [.data, .data, .pinned], laidTests := true, laidLooks := .later }
def SetupMoreUptoCardSaid : Prop := Claim7.holds Tryd.pinned (.plain (OpenSpec.upto setupMoreSpec)) setupMoreUptoCard

/-- THE SECOND FORM's CARD OF 'glowwormlaw8.QosCut'. -/
def qosCutUptoCard : Claim7 := { stood := { row := qosCutUptoRow, standIns := [], harness := (true, "01f71eedae39d9de5eb5d15686d686c845c18c6011068d41dfae0df36afa5506"), looks := true }, kinds := [], alts := [], laidByText := true, laidKinds := [.data, .data, .pinned], laidTests := true, laidLooks := .later }
def QosCutUptoCardSaid : Prop := Claim7.holds Tryd.pinned (.plain (OpenSpec.upto qosCutSpec)) qosCutUptoCard

/-- THE SECOND FORM's CARD OF 'glowwormlaw8.MeetLeast'. -/
def meetLeastUptoCard : Claim7 := { stood := { row := meetLeastUptoRow, standIns := [], harness := (true, "01f71eedae39d9de5eb5d15686d686c845c18c6011068d41dfae0df36afa5506"), looks := true }, kinds := [], alts := [], laidByText := true, laidKinds := [.data, .data, .pinned], laidTests := true, laidLooks := .later }
def MeetLeastUptoCardSaid : Prop := Claim7.holds Tryd.pinned (.plain (OpenSpec.upto meetLeastSpec)) meetLeastUptoCard

/-- THE SECOND FORM's CARD OF 'glowwormlaw8.SetupUnlike'. -/
def setupUnlikeUptoCard : Claim7 := { stood := { row := setupUnlikeUptoRow, standIns := [], harness := (true, "01f71eedae39d9de5eb5d15686d686c845c18c6011068d41dfae0df36afa5506"), looks := true }, kinds := [], alts := [], laidByText := true, laidKinds := [.data, .data, .pinned], laidTests := true, laidLooks := .later }
def SetupUnlikeUptoCardSaid : Prop := Claim7.holds Tryd.pinned (.plain (OpenSpec.upto setupUnlikeSpec)) setupUnlikeUptoCard
end Rows
end Go.Proofs.YtbeimfhodgmjhaaDoor
