/-
  DERIVED. GIVEN WITH THE SEED: THE CARDS: each row of YthcblggiojpmcaaDoorRows.lean that lists a variable, with what it lists TIED to the program's text (the seventh form; the later family's looks); each row that meets fmt, with fmt's text TOLD by the authors' own Lean function (tested against real Go, not proved from fmt's source: count such statements apart). THE CARD IS WHAT COUNTS. Prove the row's statement (the work); the ties are given (YthcblggiojpmcaaDoorTie.lean); close each card by the builder's one call (the guide's Derived/Test/ToyasCard.lean, 'card_holds'). Laid BY PROGRAM, IN A SANDBOX (cutbox-door.mjs). By AI agents, Wed Nov 11 2026. No macro, syntax, notation, axiom, sorry.
-/
import Derived.Test.YthcblggiojpmcaaDoorRows
import GoSem.ClaimSeven
namespace Go.Proofs.YthcblggiojpmcaaDoor
namespace Rows

/-- THE TIED CARD OF 'glowwormlaw4.NickAll'. -/
def nickAllCard : Claim7 := { stood := { row := nickAllRow, standIns := [], harness := (true, "7d6a183b1a2036777ea3bf4cd18525cd54985c67792e7ccc68573fa3d0aa12e4"), looks := true }, kinds := [], alts := [], laidByText := true, laidKinds := [.data, .pinned], laidTests := true, laidLooks := .later }
def NickAllCardSaid : Prop := Claim7.holds Tryd.pinned (.plain (OpenSpec.ofChange nickAllSpec)) nickAllCard

/-- THE TIED CARD OF 'glowwormlaw4.NickLaws'. -/
def nickLawsCard : Claim7 := { stood := { row := nickLawsRow, standIns := [], harness := (true, "7d6a183b1a2036777ea3bf4cd18525cd54985c67792e7ccc68573fa3d0aa12e4"), looks := true }, kinds := [], alts := [], laidByText := true, laidKinds := [.data, .pinned], laidTests := true, laidLooks := .later }
def NickLawsCardSaid : Prop := Claim7.holds Tryd.pinned (.plain (OpenSpec.ofChange nickLawsSpec)) nickLawsCard

/-- THE TIED CARD OF 'glowwormlaw4.CtlAll'. -/
def ctlAllCard : Claim7 := { stood := { row := ctlAllRow, standIns := [], harness := (true, "7d6a183b1a2036777ea3bf4cd18525cd54985c67792e7ccc68573fa3d0aa12e4"), looks := true }, kinds := [], alts := [], laidByText := true, laidKinds := [.data, .pinned], laidTests := true, laidLooks := .later }
def CtlAllCardSaid : Prop := Claim7.holds Tryd.pinned (.plain (OpenSpec.ofChange ctlAllSpec)) ctlAllCard

/-- THE TIED CARD OF 'glowwormlaw4.FrameAll'. -/
def frameAllCard : Claim7 := { stood := { row := frameAllRow, standIns := [], harness := (true, "7d6a183b1a2036777ea3bf4cd18525cd54985c67792e7ccc68573fa3d0aa12e4"), looks := true }, kinds := [], alts := [], laidByText := true, laidKinds := [.data, .pinned], laidTests := true, laidLooks := .later }
def FrameAllCardSaid : Prop := Claim7.holds Tryd.pinned (.plain (OpenSpec.ofChange frameAllSpec)) frameAllCard

/-- THE TIED CARD OF 'glowwormlaw4.FrameAny'. -/
def frameAnyCard : Claim7 := { stood := { row := frameAnyRow, standIns := [], harness := (true, "7d6a183b1a2036777ea3bf4cd18525cd54985c67792e7ccc68573fa3d0aa12e4"), looks := true }, kinds := [], alts := [], laidByText := true, laidKinds := [.data, .pinned], laidTests := true, laidLooks := .later }
def FrameAnyCardSaid : Prop := Claim7.holds Tryd.pinned (.plain (OpenSpec.ofChange frameAnySpec)) frameAnyCard

/-- THE TIED CARD OF 'glowwormlaw4.TupleAll'. -/
def tupleAllCard : Claim7 := { stood := { row := tupleAllRow, standIns := [], harness := (true, "7d6a183b1a2036777ea3bf4cd18525cd54985c67792e7ccc68573fa3d0aa12e4"), looks := true }, kinds := [], alts := [], laidByText := true, laidKinds := [.data, .pinned], laidTests := true, laidLooks := .later }
def TupleAllCardSaid : Prop := Claim7.holds Tryd.pinned (.plain (OpenSpec.ofChange tupleAllSpec)) tupleAllCard

/-- THE TIED CARD OF 'glowwormlaw4.FrameNone'. -/
def frameNoneCard : Claim7 := { stood := { row := frameNoneRow, standIns := [], harness := (true, "7d6a183b1a2036777ea3bf4cd18525cd54985c67792e7ccc68573fa3d0aa12e4"), looks := true }, kinds := [], alts := [], laidByText := true, laidKinds := [.data, .pinned], laidTests := true, laidLooks := .later }
def FrameNoneCardSaid : Prop := Claim7.holds Tryd.pinned (.plain (OpenSpec.ofChange frameNoneSpec)) frameNoneCard

/-- THE TIED CARD OF 'glowwormlaw4.NickJoin'. -/
def nickJoinCard : Claim7 := { stood := { row := nickJoinRow, standIns := [], harness := (true, "7d6a183b1a2036777ea3bf4cd18525cd54985c67792e7ccc68573fa3d0aa12e4"), looks := true }, kinds := [], alts := [], laidByText := true, laidKinds := [.data, .pinned], laidTests := true, laidLooks := .later }
def NickJoinCardSaid : Prop := Claim7.holds Tryd.pinned (.plain (OpenSpec.ofChange nickJoinSpec)) nickJoinCard

/-- THE TIED CARD OF 'glowwormlaw4.NickRune'. -/
def nickRuneCard : Claim7 := { stood := { row := nickRuneRow, standIns := [], harness := (true, "7d6a183b1a2036777ea3bf4cd18525cd54985c67792e7ccc68573fa3d0aa12e4"), looks := true }, kinds := [], alts := [], laidByText := true, laidKinds := [.data, .pinned], laidTests := true, laidLooks := .later }
def NickRuneCardSaid : Prop := Claim7.holds Tryd.pinned (.plain (OpenSpec.ofChange nickRuneSpec)) nickRuneCard

/-- THE TIED CARD OF 'glowwormlaw4.NickBroken'. -/
def nickBrokenCard : Claim7 := { stood := { row := nickBrokenRow, standIns := [], harness := (true, "7d6a183b1a2036777ea3bf4cd18525cd54985c67792e7ccc68573fa3d0aa12e4"), looks := true }, kinds := [], alts := [], laidByText := true, laidKinds := [.data, .pinned], laidTests := true, laidLooks := .later }
def NickBrokenCardSaid : Prop := Claim7.holds Tryd.pinned (.plain (OpenSpec.ofChange nickBrokenSpec)) nickBrokenCard

/-- THE TIED CARD OF 'glowwormlaw4.CtlBytes'. -/
def ctlBytesCard : Claim7 := { stood := { row := ctlBytesRow, standIns := [], harness := (true, "7d6a183b1a2036777ea3bf4cd18525cd54985c67792e7ccc68573fa3d0aa12e4"), looks := true }, kinds := [], alts := [], laidByText := true, laidKinds := [.data, .pinned], laidTests := true, laidLooks := .later }
def CtlBytesCardSaid : Prop := Claim7.holds Tryd.pinned (.plain (OpenSpec.ofChange ctlBytesSpec)) ctlBytesCard

/-- THE TIED CARD OF 'glowwormlaw4.CtlCount'. -/
def ctlCountCard : Claim7 := { stood := { row := ctlCountRow, standIns := [], harness := (true, "7d6a183b1a2036777ea3bf4cd18525cd54985c67792e7ccc68573fa3d0aa12e4"), looks := true }, kinds := [], alts := [], laidByText := true, laidKinds := [.data, .pinned], laidTests := true, laidLooks := .later }
def CtlCountCardSaid : Prop := Claim7.holds Tryd.pinned (.plain (OpenSpec.ofChange ctlCountSpec)) ctlCountCard

/-- THE TIED CARD OF 'glowwormlaw4.FrameTurn'. -/
def frameTurnCard : Claim7 := { stood := { row := frameTurnRow, standIns := [], harness := (true, "7d6a183b1a2036777ea3bf4cd18525cd54985c67792e7ccc68573fa3d0aa12e4"), looks := true }, kinds := [], alts := [], laidByText := true, laidKinds := [.data, .pinned], laidTests := true, laidLooks := .later }
def FrameTurnCardSaid : Prop := Claim7.holds Tryd.pinned (.plain (OpenSpec.ofChange frameTurnSpec)) frameTurnCard

/-- THE TIED CARD OF 'glowwormlaw4.FrameBody'. -/
def frameBodyCard : Claim7 := { stood := { row := frameBodyRow, standIns := [], harness := (true, "7d6a183b1a2036777ea3bf4cd18525cd54985c67792e7ccc68573fa3d0aa12e4"), looks := true }, kinds := [], alts := [], laidByText := true, laidKinds := [.data, .pinned], laidTests := true, laidLooks := .later }
def FrameBodyCardSaid : Prop := Claim7.holds Tryd.pinned (.plain (OpenSpec.ofChange frameBodySpec)) frameBodyCard

/-- THE TIED CARD OF 'glowwormlaw4.TupleJoin'. -/
def tupleJoinCard : Claim7 := { stood := { row := tupleJoinRow, standIns := [], harness := (true, "7d6a183b1a2036777ea3bf4cd18525cd54985c67792e7ccc68573fa3d0aa12e4"), looks := true }, kinds := [], alts := [], laidByText := true, laidKinds := [.data, .pinned], laidTests := true, laidLooks := .later }
def TupleJoinCardSaid : Prop := Claim7.holds Tryd.pinned (.plain (OpenSpec.ofChange tupleJoinSpec)) tupleJoinCard

/-- THE TIED CARD OF 'glowwormlaw4.TupleCut'. -/
def tupleCutCard : Claim7 := { stood := { row := tupleCutRow, standIns := [], harness := (true, "7d6a183b1a2036777ea3bf4cd18525cd54985c67792e7ccc68573fa3d0aa12e4"), looks := true }, kinds := [], alts := [], laidByText := true, laidKinds := [.data, .pinned], laidTests := true, laidLooks := .later }
def TupleCutCardSaid : Prop := Claim7.holds Tryd.pinned (.plain (OpenSpec.ofChange tupleCutSpec)) tupleCutCard

/-- THE TIED CARD OF 'glowwormlaw4.CtlMust'. -/
def ctlMustCard : Claim7 := { stood := { row := ctlMustRow, standIns := [], harness := (true, "7d6a183b1a2036777ea3bf4cd18525cd54985c67792e7ccc68573fa3d0aa12e4"), looks := true }, kinds := [], alts := [], laidByText := true, laidKinds := [.data, .pinned], laidTests := true, laidLooks := .later }
def CtlMustCardSaid : Prop := Claim7.holds Tryd.pinned (.plain (OpenSpec.ofChange ctlMustSpec)) ctlMustCard

/-- THE SECOND FORM's CARD OF 'glowwormlaw4.NickAll'. -/
def nickAllUptoCard : Claim7 := { stood := { row := nickAllUptoRow, standIns := [], harness := (true, "7d6a183b1a2036777ea3bf4cd18525cd54985c67792e7ccc68573fa3d0aa12e4"), looks := true }, kinds := [], alts := [], laidByText := true, laidKinds := [.data, .pinned], laidTests := true, laidLooks := .later }
def NickAllUptoCardSaid : Prop := Claim7.holds Tryd.pinned (.plain (OpenSpec.upto nickAllSpec)) nickAllUptoCard

/-- THE SECOND FORM's CARD OF 'glowwormlaw4.NickLaws'. -/
def nickLawsUptoCard : Claim7 := { stood := { row := nickLawsUptoRow, standIns := [], harness := (true, "7d6a183b1a2036777ea3bf4cd18525cd54985c67792e7ccc68573fa3d0aa12e4"), looks := true }, kinds := [], alts := [], laidByText := true, laidKinds := [.data, .pinned], laidTests := true, laidLooks := .later }
def NickLawsUptoCardSaid : Prop := Claim7.holds Tryd.pinned (.plain (OpenSpec.upto nickLawsSpec)) nickLawsUptoCard

/-- THE SECOND FORM's CARD OF 'glowwormlaw4.CtlAll'. -/
def ctlAllUptoCard : Claim7 := { stood := { row := ctlAllUptoRow, standIns := [], harness := (true, "7d6a183b1a2036777ea3bf4cd18525cd54985c67792e7ccc68573fa3d0aa12e4"), looks := true }, kinds := [], alts := [], laidByText := true, laidKinds := [.data, .pinned], laidTests := true, laidLooks := .later }
def CtlAllUptoCardSaid : Prop := Claim7.holds Tryd.pinned (.plain (OpenSpec.upto ctlAllSpec)) ctlAllUptoCard

/-- THE SECOND FORM's CARD OF 'glowwormlaw4.FrameAll'. -/
def frameAllUptoCard : Claim7 := { stood := { row := frameAllUptoRow, standIns := [], harness := (true, "7d6a183b1a2036777ea3bf4cd18525cd54985c67792e7ccc68573fa3d0aa12e4"), looks := true }, kinds := [], alts := [], laidByText := true, laidKinds := [.data, .pinned], laidTests := true, laidLooks := .later }
def FrameAllUptoCardSaid : Prop := Claim7.holds Tryd.pinned (.plain (OpenSpec.upto frameAllSpec)) frameAllUptoCard

/-- THE SECOND FORM's CARD OF 'glowwormlaw4.FrameAny'. -/
def frameAnyUptoCard : Claim7 := { stood := { row := frameAnyUptoRow, standIns := [], harness := (true, "7d6a183b1a2036777ea3bf4cd18525cd54985c67792e7ccc68573fa3d0aa12e4"), looks := true }, kinds := [], alts := [], laidByText := true, laidKinds := [.data, .pinned], laidTests := true, laidLooks := .later }
def FrameAnyUptoCardSaid : Prop := Claim7.holds Tryd.pinned (.plain (OpenSpec.upto frameAnySpec)) frameAnyUptoCard

/-- THE SECOND FORM's CARD OF 'glowwormlaw4.TupleAll'. -/
def tupleAllUptoCard : Claim7 := { stood := { row := tupleAllUptoRow, standIns := [], harness := (true, "7d6a183b1a2036777ea3bf4cd18525cd54985c67792e7ccc68573fa3d0aa12e4"), looks := true }, kinds := [], alts := [], laidByText := true, laidKinds := [.data, .pinned], laidTests := true, laidLooks := .later }
def TupleAllUptoCardSaid : Prop := Claim7.holds Tryd.pinned (.plain (OpenSpec.upto tupleAllSpec)) tupleAllUptoCard

/-- THE SECOND FORM's CARD OF 'glowwormlaw4.FrameNone'. -/
def frameNoneUptoCard : Claim7 := { stood := { row := frameNoneUptoRow, standIns := [], harness := (true, "7d6a183b1a2036777ea3bf4cd18525cd54985c67792e7ccc68573fa3d0aa12e4"), looks := true }, kinds := [], alts := [], laidByText := true, laidKinds := [.data, .pinned], laidTests := true, laidLooks := .later }
def FrameNoneUptoCardSaid : Prop := Claim7.holds Tryd.pinned (.plain (OpenSpec.upto frameNoneSpec)) frameNoneUptoCard

/-- THE SECOND FORM's CARD OF 'glowwormlaw4.NickJoin'. -/
def nickJoinUptoCard : Claim7 := { stood := { row := nickJoinUptoRow, standIns := [], harness := (true, "7d6a183b1a2036777ea3bf4cd18525cd54985c67792e7ccc68573fa3d0aa12e4"), looks := true }, kinds := [], alts := [], laidByText := true, laidKinds := [.data, .pinned], laidTests := true, laidLooks := .later }
def NickJoinUptoCardSaid : Prop := Claim7.holds Tryd.pinned (.plain (OpenSpec.upto nickJoinSpec)) nickJoinUptoCard

/-- THE SECOND FORM's CARD OF 'glowwormlaw4.NickRune'. -/
def nickRuneUptoCard : Claim7 := { stood := { row := nickRuneUptoRow, standIns := [], harness := (true, "7d6a183b1a2036777ea3bf4cd18525cd54985c67792e7ccc68573fa3d0aa12e4"), looks := true }, kinds := [], alts := [], laidByText := true, laidKinds := [.data, .pinned], laidTests := true, laidLooks := .later }
def NickRuneUptoCardSaid : Prop := Claim7.holds Tryd.pinned (.plain (OpenSpec.upto nickRuneSpec)) nickRuneUptoCard

/-- THE SECOND FORM's CARD OF 'glowwormlaw4.NickBroken'. -/
def nickBrokenUptoCard : Claim7 := { stood := { row := nickBrokenUptoRow, standIns := [], harness := (true, "7d6a183b1a2036777ea3bf4cd18525cd54985c67792e7ccc68573fa3d0aa12e4"), looks := true }, kinds := [], alts := [], laidByText := true, laidKinds := [.data, .pinned], laidTests := true, laidLooks := .later }
def NickBrokenUptoCardSaid : Prop := Claim7.holds Tryd.pinned (.plain (OpenSpec.upto nickBrokenSpec)) nickBrokenUptoCard

/-- THE SECOND FORM's CARD OF 'glowwormlaw4.CtlBytes'. -/
def ctlBytesUptoCard : Claim7 := { stood := { row := ctlBytesUptoRow, standIns := [], harness := (true, "7d6a183b1a2036777ea3bf4cd18525cd54985c67792e7ccc68573fa3d0aa12e4"), looks := true }, kinds := [], alts := [], laidByText := true, laidKinds := [.data, .pinned], laidTests := true, laidLooks := .later }
def CtlBytesUptoCardSaid : Prop := Claim7.holds Tryd.pinned (.plain (OpenSpec.upto ctlBytesSpec)) ctlBytesUptoCard

/-- THE SECOND FORM's CARD OF 'glowwormlaw4.CtlCount'. -/
def ctlCountUptoCard : Claim7 := { stood := { row := ctlCountUptoRow, standIns := [], harness := (true, "7d6a183b1a2036777ea3bf4cd18525cd54985c67792e7ccc68573fa3d0aa12e4"), looks := true }, kinds := [], alts := [], laidByText := true, laidKinds := [.data, .pinned], laidTests := true, laidLooks := .later }
def CtlCountUptoCardSaid : Prop := Claim7.holds Tryd.pinned (.plain (OpenSpec.upto ctlCountSpec)) ctlCountUptoCard

/-- THE SECOND FORM's CARD OF 'glowwormlaw4.FrameTurn'. -/
def frameTurnUptoCard : Claim7 := { stood := { row := frameTurnUptoRow, standIns := [], harness := (true, "7d6a183b1a2036777ea3bf4cd18525cd54985c67792e7ccc68573fa3d0aa12e4"), looks := true }, kinds := [], alts := [], laidByText := true, laidKinds := [.data, .pinned], laidTests := true, laidLooks := .later }
def FrameTurnUptoCardSaid : Prop := Claim7.holds Tryd.pinned (.plain (OpenSpec.upto frameTurnSpec)) frameTurnUptoCard

/-- THE SECOND FORM's CARD OF 'glowwormlaw4.FrameBody'. -/
def frameBodyUptoCard : Claim7 := { stood := { row := frameBodyUptoRow, standIns := [], harness := (true, "7d6a183b1a2036777ea3bf4cd18525cd54985c67792e7ccc68573fa3d0aa12e4"), looks := true }, kinds := [], alts := [], laidByText := true, laidKinds := [.data, .pinned], laidTests := true, laidLooks := .later }
def FrameBodyUptoCardSaid : Prop := Claim7.holds Tryd.pinned (.plain (OpenSpec.upto frameBodySpec)) frameBodyUptoCard

/-- THE SECOND FORM's CARD OF 'glowwormlaw4.TupleJoin'. -/
def tupleJoinUptoCard : Claim7 := { stood := { row := tupleJoinUptoRow, standIns := [], harness := (true, "7d6a183b1a2036777ea3bf4cd18525cd54985c67792e7ccc68573fa3d0aa12e4"), looks := true }, kinds := [], alts := [], laidByText := true, laidKinds := [.data, .pinned], laidTests := true, laidLooks := .later }
def TupleJoinUptoCardSaid : Prop := Claim7.holds Tryd.pinned (.plain (OpenSpec.upto tupleJoinSpec)) tupleJoinUptoCard

/-- THE SECOND FORM's CARD OF 'glowwormlaw4.TupleCut'. -/
def tupleCutUptoCard : Claim7 := { stood := { row := tupleCutUptoRow, standIns := [], harness := (true, "7d6a183b1a2036777ea3bf4cd18525cd54985c67792e7ccc68573fa3d0aa12e4"), looks := true }, kinds := [], alts := [], laidByText := true, laidKinds := [.data, .pinned], laidTests := true, laidLooks := .later }
def TupleCutUptoCardSaid : Prop := Claim7.holds Tryd.pinned (.plain (OpenSpec.upto tupleCutSpec)) tupleCutUptoCard

/-- THE SECOND FORM's CARD OF 'glowwormlaw4.CtlMust'. -/
def ctlMustUptoCard : Claim7 := { stood := { row := ctlMustUptoRow, standIns := [], harness := (true, "7d6a183b1a2036777ea3bf4cd18525cd54985c67792e7ccc68573fa3d0aa12e4"), looks := true }, kinds := [], alts := [], laidByText := true, laidKinds := [.data, .pinned], laidTests := true, laidLooks := .later }
def CtlMustUptoCardSaid : Prop := Claim7.holds Tryd.pinned (.plain (OpenSpec.upto ctlMustSpec)) ctlMustUptoCard
end Rows
end Go.Proofs.YthcblggiojpmcaaDoor
