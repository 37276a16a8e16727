/-
  NARROWER THAN 'FOR EVERY INPUT', by the rows' own cells (each row's printed sentence says how): ModAll: laid · InAll: laid · ModRound: laid · OutWindow: laid · OutFull: laid · OutForeign: laid · InOrder: laid · TurnGo: laid · TurnSize: laid · OutTwice: laid · OutAgain: laid · TwoComplete: laid · TurnReject: laid · TurnAck: laid · TurnOther: laid · TurnAll: laid · TurnSwap: laid · TurnNone: laid.
  DERIVED. THE GIVEN ROWS OF THIS SEAT. 18 by the template 'for every input the law returns true; each argument reads behind the call as it read before'; 0 by the template 'total and deterministic' (their statements: YtochnineebgbgaaDoorTotals.lean).
  GIVEN WITH THE SEED: the statements are not yours to turn. If you find one false, say at which input.
  Laid BY PROGRAM, IN A SANDBOX (cutbox-rows.mjs): the forced cells as the released guide's own fill.sh prints them over the translation b7e9eeacdbce43bd… (all of the seat's roots in one cut). By AI agents, Wed Nov 11 2026. No macro, syntax, notation, axiom, sorry.
-/
import Derived.Test.YtochnineebgbgaaDoorChecked
import GoSem.PinnedTables
import GoSem.Claim
import GoSem.ClaimJoined
import GoSem.ClaimMapViews
import Derived.JoinedTies
import Derived.KernelRfl
namespace Go.Proofs.YtochnineebgbgaaDoor
/- THE CELL 'sum', in the pinned program and in every row, IS THE sha256 OF THE DUMP (.gsa) THAT YtochnineebgbgaaDoorProg.lean LOADS. Nothing in Lean hashes anything: it is a label: what it is worth is what the hold of that sum in a sandbox is worth. -/
noncomputable def Tryd.pinned : Pinned := { name := "ytochnineebgbgaadoor", sum := "b7e9eeacdbce43bd7c022f0f54181994c1db2defee2e3f4bacd10242268a69e5", checked := Tryd.checked }
namespace Rows
def none {H : Type} : Left H := { results := [], args := [] }

/- WHAT THE LISTED PACKAGE-LEVEL VARIABLES READ AS WHEN THE CALL BEGINS. Each datum BY PROGRAM (the guide's laid-datum.mjs) off the statement by which the dump's own 'gosem.cut.vars' lays the variable. In a bare row this is a premise. The card (YtochnineebgbgaaDoorCards.lean) ties it to the program's text. -/
def laid_unicode_utf8_acceptRanges {H : Type} : DataW H := .agg [.agg [.lit (.int .u8 128), .lit (.int .u8 191)], .agg [.lit (.int .u8 160), .lit (.int .u8 191)], .agg [.lit (.int .u8 128), .lit (.int .u8 159)], .agg [.lit (.int .u8 144), .lit (.int .u8 191)], .agg [.lit (.int .u8 128), .lit (.int .u8 143)], .agg [.lit (.int .u8 0), .lit (.int .u8 0)], .agg [.lit (.int .u8 0), .lit (.int .u8 0)], .agg [.lit (.int .u8 0), .lit (.int .u8 0)], .agg [.lit (.int .u8 0), .lit (.int .u8 0)], .agg [.lit (.int .u8 0), .lit (.int .u8 0)], .agg [.lit (.int .u8 0), .lit (.int .u8 0)], .agg [.lit (.int .u8 0), .lit (.int .u8 0)], .agg [.lit (.int .u8 0), .lit (.int .u8 0)], .agg [.lit (.int .u8 0), .lit (.int .u8 0)], .agg [.lit (.int .u8 0), .lit (.int .u8 0)], .agg [.lit (.int .u8 0), .lit (.int .u8 0)]]
/-- One of Go's own tables, pinned by name: the form's constant. -/
def laid_unicode_utf8_first : DataW Unit := Go.Pinned.utf8First

/-- 'glowwormlaw12.ModAll': WHATEVER THE INPUT: true; the input reads as it did. -/
def modAllSpec : ChangeSpec := { name := "modAll", fn := fun _ => fun
  | [d1, d2, d3] => { results := [.lit (.bool true)], args := [d1, d2, d3] }
  | _ => none }
def modAllRow : OpenClaim := { program := "ytochnineebgbgaadoor", sum := "b7e9eeacdbce43bd7c022f0f54181994c1db2defee2e3f4bacd10242268a69e5", func := "glowworm/glowwormlaw12.ModAll", spec := "modAll", named := ["unicode/utf8.first", "unicode/utf8.acceptRanges"], apart := false, laid := [("unicode/utf8.acceptRanges", laid_unicode_utf8_acceptRanges), ("unicode/utf8.first", laid_unicode_utf8_first)] }
def ModAllSaid : Prop := modAllRow.holds Tryd.pinned (OpenSpec.ofChange modAllSpec)

/-- ITS FALSE NEIGHBOUR: 'it returns false'. Refute it at one input. -/
def modAllWrong : ChangeSpec := { name := "modAll", fn := fun _ => fun
  | [d1, d2, d3] => { results := [.lit (.bool false)], args := [d1, d2, d3] }
  | _ => none }
def ModAllWrongFalsely : Prop := modAllRow.holds Tryd.pinned (OpenSpec.ofChange modAllWrong)

/-- 'glowwormlaw12.InAll': WHATEVER THE INPUT: true; the input reads as it did. -/
def inAllSpec : ChangeSpec := { name := "inAll", fn := fun _ => fun
  | [d] => { results := [.lit (.bool true)], args := [d] }
  | _ => none }
def inAllRow : OpenClaim := { program := "ytochnineebgbgaadoor", sum := "b7e9eeacdbce43bd7c022f0f54181994c1db2defee2e3f4bacd10242268a69e5", func := "glowworm/glowwormlaw12.InAll", spec := "inAll", named := ["unicode/utf8.first", "unicode/utf8.acceptRanges"], apart := false, laid := [("unicode/utf8.acceptRanges", laid_unicode_utf8_acceptRanges), ("unicode/utf8.first", laid_unicode_utf8_first)] }
def InAllSaid : Prop := inAllRow.holds Tryd.pinned (OpenSpec.ofChange inAllSpec)

/-- ITS FALSE NEIGHBOUR: 'it returns false'. Refute it at one input. -/
def inAllWrong : ChangeSpec := { name := "inAll", fn := fun _ => fun
  | [d] => { results := [.lit (.bool false)], args := [d] }
  | _ => none }
def InAllWrongFalsely : Prop := inAllRow.holds Tryd.pinned (OpenSpec.ofChange inAllWrong)

/-- 'glowwormlaw12.ModRound': WHATEVER THE INPUT: true; the input reads as it did. -/
def modRoundSpec : ChangeSpec := { name := "modRound", fn := fun _ => fun
  | [d1, d2, d3] => { results := [.lit (.bool true)], args := [d1, d2, d3] }
  | _ => none }
def modRoundRow : OpenClaim := { program := "ytochnineebgbgaadoor", sum := "b7e9eeacdbce43bd7c022f0f54181994c1db2defee2e3f4bacd10242268a69e5", func := "glowworm/glowwormlaw12.ModRound", spec := "modRound", named := ["unicode/utf8.first", "unicode/utf8.acceptRanges"], apart := false, laid := [("unicode/utf8.acceptRanges", laid_unicode_utf8_acceptRanges), ("unicode/utf8.first", laid_unicode_utf8_first)] }
def ModRoundSaid : Prop := modRoundRow.holds Tryd.pinned (OpenSpec.ofChange modRoundSpec)

/-- ITS FALSE NEIGHBOUR: 'it returns false'. Refute it at one input. -/
def modRoundWrong : ChangeSpec := { name := "modRound", fn := fun _ => fun
  | [d1, d2, d3] => { results := [.lit (.bool false)], args := [d1, d2, d3] }
  | _ => none }
def ModRoundWrongFalsely : Prop := modRoundRow.holds Tryd.pinned (OpenSpec.ofChange modRoundWrong)

/-- 'glowwormlaw12.OutWindow': WHATEVER THE INPUT: true; the input reads as it did. -/
def outWindowSpec : ChangeSpec := { name := "outWindow", fn := fun _ => fun
  | [d1, d2, d3] => { results := [.lit (.bool true)], args := [d1, d2, d3] }
  | _ => none }
def outWindowRow : OpenClaim := { program := "ytochnineebgbgaadoor", sum := "b7e9eeacdbce43bd7c022f0f54181994c1db2defee2e3f4bacd10242268a69e5", func := "glowworm/glowwormlaw12.OutWindow", spec := "outWindow", named := ["unicode/utf8.first", "unicode/utf8.acceptRanges"], apart := false, laid := [("unicode/utf8.acceptRanges", laid_unicode_utf8_acceptRanges), ("unicode/utf8.first", laid_unicode_utf8_first)] }
def OutWindowSaid : Prop := outWindowRow.holds Tryd.pinned (OpenSpec.ofChange outWindowSpec)

/-- ITS FALSE NEIGHBOUR: 'it returns false'. Refute it at one input. -/
def outWindowWrong : ChangeSpec := { name := "outWindow", fn := fun _ => fun
  | [d1, d2, d3] => { results := [.lit (.bool false)], args := [d1, d2, d3] }
  | _ => none }
def OutWindowWrongFalsely : Prop := outWindowRow.holds Tryd.pinned (OpenSpec.ofChange outWindowWrong)

/-- 'glowwormlaw12.OutFull': WHATEVER THE INPUT: true; the input reads as it did. -/
def outFullSpec : ChangeSpec := { name := "outFull", fn := fun _ => fun
  | [d1, d2] => { results := [.lit (.bool true)], args := [d1, d2] }
  | _ => none }
def outFullRow : OpenClaim := { program := "ytochnineebgbgaadoor", sum := "b7e9eeacdbce43bd7c022f0f54181994c1db2defee2e3f4bacd10242268a69e5", func := "glowworm/glowwormlaw12.OutFull", spec := "outFull", named := ["unicode/utf8.first", "unicode/utf8.acceptRanges"], apart := false, laid := [("unicode/utf8.acceptRanges", laid_unicode_utf8_acceptRanges), ("unicode/utf8.first", laid_unicode_utf8_first)] }
def OutFullSaid : Prop := outFullRow.holds Tryd.pinned (OpenSpec.ofChange outFullSpec)

/-- ITS FALSE NEIGHBOUR: 'it returns false'. Refute it at one input. -/
def outFullWrong : ChangeSpec := { name := "outFull", fn := fun _ => fun
  | [d1, d2] => { results := [.lit (.bool false)], args := [d1, d2] }
  | _ => none }
def OutFullWrongFalsely : Prop := outFullRow.holds Tryd.pinned (OpenSpec.ofChange outFullWrong)

/-- 'glowwormlaw12.OutForeign': WHATEVER THE INPUT: true; the input reads as it did. -/
def outForeignSpec : ChangeSpec := { name := "outForeign", fn := fun _ => fun
  | [d1, d2, d3, d4] => { results := [.lit (.bool true)], args := [d1, d2, d3, d4] }
  | _ => none }
def outForeignRow : OpenClaim := { program := "ytochnineebgbgaadoor", sum := "b7e9eeacdbce43bd7c022f0f54181994c1db2defee2e3f4bacd10242268a69e5", func := "glowworm/glowwormlaw12.OutForeign", spec := "outForeign", named := ["unicode/utf8.first", "unicode/utf8.acceptRanges"], apart := false, laid := [("unicode/utf8.acceptRanges", laid_unicode_utf8_acceptRanges), ("unicode/utf8.first", laid_unicode_utf8_first)] }
def OutForeignSaid : Prop := outForeignRow.holds Tryd.pinned (OpenSpec.ofChange outForeignSpec)

/-- ITS FALSE NEIGHBOUR: 'it returns false'. Refute it at one input. -/
def outForeignWrong : ChangeSpec := { name := "outForeign", fn := fun _ => fun
  | [d1, d2, d3, d4] => { results := [.lit (.bool false)], args := [d1, d2, d3, d4] }
  | _ => none }
def OutForeignWrongFalsely : Prop := outForeignRow.holds Tryd.pinned (OpenSpec.ofChange outForeignWrong)

/-- 'glowwormlaw12.InOrder': WHATEVER THE INPUT: true; the input reads as it did. -/
def inOrderSpec : ChangeSpec := { name := "inOrder", fn := fun _ => fun
  | [d] => { results := [.lit (.bool true)], args := [d] }
  | _ => none }
def inOrderRow : OpenClaim := { program := "ytochnineebgbgaadoor", sum := "b7e9eeacdbce43bd7c022f0f54181994c1db2defee2e3f4bacd10242268a69e5", func := "glowworm/glowwormlaw12.InOrder", spec := "inOrder", named := ["unicode/utf8.first", "unicode/utf8.acceptRanges"], apart := false, laid := [("unicode/utf8.acceptRanges", laid_unicode_utf8_acceptRanges), ("unicode/utf8.first", laid_unicode_utf8_first)] }
def InOrderSaid : Prop := inOrderRow.holds Tryd.pinned (OpenSpec.ofChange inOrderSpec)

/-- ITS FALSE NEIGHBOUR: 'it returns false'. Refute it at one input. -/
def inOrderWrong : ChangeSpec := { name := "inOrder", fn := fun _ => fun
  | [d] => { results := [.lit (.bool false)], args := [d] }
  | _ => none }
def InOrderWrongFalsely : Prop := inOrderRow.holds Tryd.pinned (OpenSpec.ofChange inOrderWrong)

/-- 'glowwormlaw12.TurnGo': WHATEVER THE INPUT: true; the input reads as it did. -/
def turnGoSpec : ChangeSpec := { name := "turnGo", fn := fun _ => fun
  | [d1, d2, d3] => { results := [.lit (.bool true)], args := [d1, d2, d3] }
  | _ => none }
def turnGoRow : OpenClaim := { program := "ytochnineebgbgaadoor", sum := "b7e9eeacdbce43bd7c022f0f54181994c1db2defee2e3f4bacd10242268a69e5", func := "glowworm/glowwormlaw12.TurnGo", spec := "turnGo", named := ["unicode/utf8.first", "unicode/utf8.acceptRanges"], apart := false, laid := [("unicode/utf8.acceptRanges", laid_unicode_utf8_acceptRanges), ("unicode/utf8.first", laid_unicode_utf8_first)] }
def TurnGoSaid : Prop := turnGoRow.holds Tryd.pinned (OpenSpec.ofChange turnGoSpec)

/-- ITS FALSE NEIGHBOUR: 'it returns false'. Refute it at one input. -/
def turnGoWrong : ChangeSpec := { name := "turnGo", fn := fun _ => fun
  | [d1, d2, d3] => { results := [.lit (.bool false)], args := [d1, d2, d3] }
  | _ => none }
def TurnGoWrongFalsely : Prop := turnGoRow.holds Tryd.pinned (OpenSpec.ofChange turnGoWrong)

/-- 'glowwormlaw12.TurnSize': WHATEVER THE INPUT: true; the input reads as it did. -/
def turnSizeSpec : ChangeSpec := { name := "turnSize", fn := fun _ => fun
  | [d1, d2] => { results := [.lit (.bool true)], args := [d1, d2] }
  | _ => none }
def turnSizeRow : OpenClaim := { program := "ytochnineebgbgaadoor", sum := "b7e9eeacdbce43bd7c022f0f54181994c1db2defee2e3f4bacd10242268a69e5", func := "glowworm/glowwormlaw12.TurnSize", spec := "turnSize", named := ["unicode/utf8.first", "unicode/utf8.acceptRanges"], apart := false, laid := [("unicode/utf8.acceptRanges", laid_unicode_utf8_acceptRanges), ("unicode/utf8.first", laid_unicode_utf8_first)] }
def TurnSizeSaid : Prop := turnSizeRow.holds Tryd.pinned (OpenSpec.ofChange turnSizeSpec)

/-- ITS FALSE NEIGHBOUR: 'it returns false'. Refute it at one input. -/
def turnSizeWrong : ChangeSpec := { name := "turnSize", fn := fun _ => fun
  | [d1, d2] => { results := [.lit (.bool false)], args := [d1, d2] }
  | _ => none }
def TurnSizeWrongFalsely : Prop := turnSizeRow.holds Tryd.pinned (OpenSpec.ofChange turnSizeWrong)

/-- 'glowwormlaw12.OutTwice': WHATEVER THE INPUT: true; the input reads as it did. -/
def outTwiceSpec : ChangeSpec := { name := "outTwice", fn := fun _ => fun
  | [d1, d2, d3] => { results := [.lit (.bool true)], args := [d1, d2, d3] }
  | _ => none }
def outTwiceRow : OpenClaim := { program := "ytochnineebgbgaadoor", sum := "b7e9eeacdbce43bd7c022f0f54181994c1db2defee2e3f4bacd10242268a69e5", func := "glowworm/glowwormlaw12.OutTwice", spec := "outTwice", named := ["unicode/utf8.first", "unicode/utf8.acceptRanges"], apart := false, laid := [("unicode/utf8.acceptRanges", laid_unicode_utf8_acceptRanges), ("unicode/utf8.first", laid_unicode_utf8_first)] }
def OutTwiceSaid : Prop := outTwiceRow.holds Tryd.pinned (OpenSpec.ofChange outTwiceSpec)

/-- ITS FALSE NEIGHBOUR: 'it returns false'. Refute it at one input. -/
def outTwiceWrong : ChangeSpec := { name := "outTwice", fn := fun _ => fun
  | [d1, d2, d3] => { results := [.lit (.bool false)], args := [d1, d2, d3] }
  | _ => none }
def OutTwiceWrongFalsely : Prop := outTwiceRow.holds Tryd.pinned (OpenSpec.ofChange outTwiceWrong)

/-- 'glowwormlaw12.OutAgain': WHATEVER THE INPUT: true; the input reads as it did. -/
def outAgainSpec : ChangeSpec := { name := "outAgain", fn := fun _ => fun
  | [d1, d2, d3] => { results := [.lit (.bool true)], args := [d1, d2, d3] }
  | _ => none }
def outAgainRow : OpenClaim := { program := "ytochnineebgbgaadoor", sum := "b7e9eeacdbce43bd7c022f0f54181994c1db2defee2e3f4bacd10242268a69e5", func := "glowworm/glowwormlaw12.OutAgain", spec := "outAgain", named := ["unicode/utf8.first", "unicode/utf8.acceptRanges"], apart := false, laid := [("unicode/utf8.acceptRanges", laid_unicode_utf8_acceptRanges), ("unicode/utf8.first", laid_unicode_utf8_first)] }
def OutAgainSaid : Prop := outAgainRow.holds Tryd.pinned (OpenSpec.ofChange outAgainSpec)

/-- ITS FALSE NEIGHBOUR: 'it returns false'. Refute it at one input. -/
def outAgainWrong : ChangeSpec := { name := "outAgain", fn := fun _ => fun
  | [d1, d2, d3] => { results := [.lit (.bool false)], args := [d1, d2, d3] }
  | _ => none }
def OutAgainWrongFalsely : Prop := outAgainRow.holds Tryd.pinned (OpenSpec.ofChange outAgainWrong)

/-- 'glowwormlaw12.TwoComplete': WHATEVER THE INPUT: true; the input reads as it did. -/
def twoCompleteSpec : ChangeSpec := { name := "twoComplete", fn := fun _ => fun
  | [d1, d2, d3] => { results := [.lit (.bool true)], args := [d1, d2, d3] }
  | _ => none }
def twoCompleteRow : OpenClaim := { program := "ytochnineebgbgaadoor", sum := "b7e9eeacdbce43bd7c022f0f54181994c1db2defee2e3f4bacd10242268a69e5", func := "glowworm/glowwormlaw12.TwoComplete", spec := "twoComplete", named := ["unicode/utf8.first", "unicode/utf8.acceptRanges"], apart := false, laid := [("unicode/utf8.acceptRanges", laid_unicode_utf8_acceptRanges), ("unicode/utf8.first", laid_unicode_utf8_first)] }
def TwoCompleteSaid : Prop := twoCompleteRow.holds Tryd.pinned (OpenSpec.ofChange twoCompleteSpec)

/-- ITS FALSE NEIGHBOUR: 'it returns false'. Refute it at one input. -/
def twoCompleteWrong : ChangeSpec := { name := "twoComplete", fn := fun _ => fun
  | [d1, d2, d3] => { results := [.lit (.bool false)], args := [d1, d2, d3] }
  | _ => none }
def TwoCompleteWrongFalsely : Prop := twoCompleteRow.holds Tryd.pinned (OpenSpec.ofChange twoCompleteWrong)

/-- 'glowwormlaw12.TurnReject': WHATEVER THE INPUT: true; the input reads as it did. -/
def turnRejectSpec : ChangeSpec := { name := "turnReject", fn := fun _ => fun
  | [d] => { results := [.lit (.bool true)], args := [d] }
  | _ => none }
def turnRejectRow : OpenClaim := { program := "ytochnineebgbgaadoor", sum := "b7e9eeacdbce43bd7c022f0f54181994c1db2defee2e3f4bacd10242268a69e5", func := "glowworm/glowwormlaw12.TurnReject", spec := "turnReject", named := ["unicode/utf8.first", "unicode/utf8.acceptRanges"], apart := false, laid := [("unicode/utf8.acceptRanges", laid_unicode_utf8_acceptRanges), ("unicode/utf8.first", laid_unicode_utf8_first)] }
def TurnRejectSaid : Prop := turnRejectRow.holds Tryd.pinned (OpenSpec.ofChange turnRejectSpec)

/-- ITS FALSE NEIGHBOUR: 'it returns false'. Refute it at one input. -/
def turnRejectWrong : ChangeSpec := { name := "turnReject", fn := fun _ => fun
  | [d] => { results := [.lit (.bool false)], args := [d] }
  | _ => none }
def TurnRejectWrongFalsely : Prop := turnRejectRow.holds Tryd.pinned (OpenSpec.ofChange turnRejectWrong)

/-- 'glowwormlaw12.TurnAck': WHATEVER THE INPUT: true; the input reads as it did. -/
def turnAckSpec : ChangeSpec := { name := "turnAck", fn := fun _ => fun
  | [d1, d2, d3, d4] => { results := [.lit (.bool true)], args := [d1, d2, d3, d4] }
  | _ => none }
def turnAckRow : OpenClaim := { program := "ytochnineebgbgaadoor", sum := "b7e9eeacdbce43bd7c022f0f54181994c1db2defee2e3f4bacd10242268a69e5", func := "glowworm/glowwormlaw12.TurnAck", spec := "turnAck", named := ["unicode/utf8.first", "unicode/utf8.acceptRanges"], apart := false, laid := [("unicode/utf8.acceptRanges", laid_unicode_utf8_acceptRanges), ("unicode/utf8.first", laid_unicode_utf8_first)] }
def TurnAckSaid : Prop := turnAckRow.holds Tryd.pinned (OpenSpec.ofChange turnAckSpec)

/-- ITS FALSE NEIGHBOUR: 'it returns false'. Refute it at one input. -/
def turnAckWrong : ChangeSpec := { name := "turnAck", fn := fun _ => fun
  | [d1, d2, d3, d4] => { results := [.lit (.bool false)], args := [d1, d2, d3, d4] }
  | _ => none }
def TurnAckWrongFalsely : Prop := turnAckRow.holds Tryd.pinned (OpenSpec.ofChange turnAckWrong)

/-- 'glowwormlaw12.TurnOther': WHATEVER THE INPUT: true; the input reads as it did. -/
def turnOtherSpec : ChangeSpec := { name := "turnOther", fn := fun _ => fun
  | [d1, d2, d3] => { results := [.lit (.bool true)], args := [d1, d2, d3] }
  | _ => none }
def turnOtherRow : OpenClaim := { program := "ytochnineebgbgaadoor", sum := "b7e9eeacdbce43bd7c022f0f54181994c1db2defee2e3f4bacd10242268a69e5", func := "glowworm/glowwormlaw12.TurnOther", spec := "turnOther", named := ["unicode/utf8.first", "unicode/utf8.acceptRanges"], apart := false, laid := [("unicode/utf8.acceptRanges", laid_unicode_utf8_acceptRanges), ("unicode/utf8.first", laid_unicode_utf8_first)] }
def TurnOtherSaid : Prop := turnOtherRow.holds Tryd.pinned (OpenSpec.ofChange turnOtherSpec)

/-- ITS FALSE NEIGHBOUR: 'it returns false'. Refute it at one input. -/
def turnOtherWrong : ChangeSpec := { name := "turnOther", fn := fun _ => fun
  | [d1, d2, d3] => { results := [.lit (.bool false)], args := [d1, d2, d3] }
  | _ => none }
def TurnOtherWrongFalsely : Prop := turnOtherRow.holds Tryd.pinned (OpenSpec.ofChange turnOtherWrong)

/-- 'glowwormlaw12.TurnAll': WHATEVER THE INPUT: true; the input reads as it did. -/
def turnAllSpec : ChangeSpec := { name := "turnAll", fn := fun _ => fun
  | [d1, d2, d3] => { results := [.lit (.bool true)], args := [d1, d2, d3] }
  | _ => none }
def turnAllRow : OpenClaim := { program := "ytochnineebgbgaadoor", sum := "b7e9eeacdbce43bd7c022f0f54181994c1db2defee2e3f4bacd10242268a69e5", func := "glowworm/glowwormlaw12.TurnAll", spec := "turnAll", named := ["unicode/utf8.first", "unicode/utf8.acceptRanges"], apart := false, laid := [("unicode/utf8.acceptRanges", laid_unicode_utf8_acceptRanges), ("unicode/utf8.first", laid_unicode_utf8_first)] }
def TurnAllSaid : Prop := turnAllRow.holds Tryd.pinned (OpenSpec.ofChange turnAllSpec)

/-- ITS FALSE NEIGHBOUR: 'it returns false'. Refute it at one input. -/
def turnAllWrong : ChangeSpec := { name := "turnAll", fn := fun _ => fun
  | [d1, d2, d3] => { results := [.lit (.bool false)], args := [d1, d2, d3] }
  | _ => none }
def TurnAllWrongFalsely : Prop := turnAllRow.holds Tryd.pinned (OpenSpec.ofChange turnAllWrong)

/-- 'glowwormlaw12.TurnSwap': WHATEVER THE INPUT: true; the input reads as it did. -/
def turnSwapSpec : ChangeSpec := { name := "turnSwap", fn := fun _ => fun
  | [d1, d2] => { results := [.lit (.bool true)], args := [d1, d2] }
  | _ => none }
def turnSwapRow : OpenClaim := { program := "ytochnineebgbgaadoor", sum := "b7e9eeacdbce43bd7c022f0f54181994c1db2defee2e3f4bacd10242268a69e5", func := "glowworm/glowwormlaw12.TurnSwap", spec := "turnSwap", named := ["unicode/utf8.first", "unicode/utf8.acceptRanges"], apart := false, laid := [("unicode/utf8.acceptRanges", laid_unicode_utf8_acceptRanges), ("unicode/utf8.first", laid_unicode_utf8_first)] }
def TurnSwapSaid : Prop := turnSwapRow.holds Tryd.pinned (OpenSpec.ofChange turnSwapSpec)

/-- ITS FALSE NEIGHBOUR: 'it returns false'. Refute it at one input. -/
def turnSwapWrong : ChangeSpec := { name := "turnSwap", fn := fun _ => fun
  | [d1, d2] => { results := [.lit (.bool false)], args := [d1, d2] }
  | _ => none }
def TurnSwapWrongFalsely : Prop := turnSwapRow.holds Tryd.pinned (OpenSpec.ofChange turnSwapWrong)

/-- 'glowwormlaw12.TurnNone': WHATEVER THE INPUT: true; the input reads as it did. -/
def turnNoneSpec : ChangeSpec := { name := "turnNone", fn := fun _ => fun
  | [] => { results := [.lit (.bool true)], args := [] }
  | _ => none }
def turnNoneRow : OpenClaim := { program := "ytochnineebgbgaadoor", sum := "b7e9eeacdbce43bd7c022f0f54181994c1db2defee2e3f4bacd10242268a69e5", func := "glowworm/glowwormlaw12.TurnNone", spec := "turnNone", named := ["unicode/utf8.first", "unicode/utf8.acceptRanges"], apart := false, laid := [("unicode/utf8.acceptRanges", laid_unicode_utf8_acceptRanges), ("unicode/utf8.first", laid_unicode_utf8_first)] }
def TurnNoneSaid : Prop := turnNoneRow.holds Tryd.pinned (OpenSpec.ofChange turnNoneSpec)

/-- ITS FALSE NEIGHBOUR: 'it returns false'. Refute it at one input. -/
def turnNoneWrong : ChangeSpec := { name := "turnNone", fn := fun _ => fun
  | [] => { results := [.lit (.bool false)], args := [] }
  | _ => none }
def TurnNoneWrongFalsely : Prop := turnNoneRow.holds Tryd.pinned (OpenSpec.ofChange turnNoneWrong)

/- THE SECOND FORM. 'bulk': how many values and letters a reading holds, each counted each time it is reached (what is shared counts as often as it is met; a slice's spare places count too). A statement '..UptoSaid' is the law's where the arguments, and the package variables that the reading takes, are together of bulk at most 1048576: NARROWER than '..Said'. Prove '..Said' where nothing that the law and all that it calls make is longer than what came in: it says more and counts as full. Else prove '..UptoSaid'. A law counts once. -/
mutual
def uptoBulk {H : Type} : DataW H → Nat
  | .lit (.string bytes) => bytes.length + 1
  | .lit _ => 1
  | .nil => 1
  | .ptr d => uptoBulk d + 1
  | .slice elems spare => uptoBulkAll elems + uptoBulkAll spare + 1
  | .agg parts => uptoBulkAll parts + 1
  | .iface _ d => uptoBulk d + 1
  | .map entries => uptoBulkEntries entries + 1
  | .held _ => 1
def uptoBulkAll {H : Type} : List (DataW H) → Nat
  | [] => 0
  | d :: r => uptoBulk d + uptoBulkAll r
def uptoBulkEntries {H : Type} : List (Lit × DataW H) → Nat
  | [] => 0
  | x :: r => uptoBulkEntry x + uptoBulkEntries r
def uptoBulkEntry {H : Type} : Lit × DataW H → Nat
  | (.string bytes, d) => bytes.length + uptoBulk d + 1
  | (_, d) => uptoBulk d + 1
 end
def uptoSmall : (H : Type) → List (DataW H) → Bool := fun _ ds => decide (uptoBulkAll ds ≤ 1048576)
def OpenSpec.upto (s : _root_.Go.ChangeSpec) : _root_.Go.OpenSpec := { _root_.Go.OpenSpec.ofChange s with cond := some uptoSmall }

/-- 'glowwormlaw12.ModAll', WHERE WHAT IT READS IS OF BULK AT MOST 1048576: true; the input reads as it did. -/
def modAllUptoRow : OpenClaim := { program := "ytochnineebgbgaadoor", sum := "b7e9eeacdbce43bd7c022f0f54181994c1db2defee2e3f4bacd10242268a69e5", func := "glowworm/glowwormlaw12.ModAll", spec := "modAll", named := ["unicode/utf8.first", "unicode/utf8.acceptRanges"], apart := false, laid := [("unicode/utf8.acceptRanges", laid_unicode_utf8_acceptRanges), ("unicode/utf8.first", laid_unicode_utf8_first)], narrowed := true }
def ModAllUptoSaid : Prop := modAllUptoRow.holds Tryd.pinned (OpenSpec.upto modAllSpec)

/-- 'glowwormlaw12.InAll', WHERE WHAT IT READS IS OF BULK AT MOST 1048576: true; the input reads as it did. -/
def inAllUptoRow : OpenClaim := { program := "ytochnineebgbgaadoor", sum := "b7e9eeacdbce43bd7c022f0f54181994c1db2defee2e3f4bacd10242268a69e5", func := "glowworm/glowwormlaw12.InAll", spec := "inAll", named := ["unicode/utf8.first", "unicode/utf8.acceptRanges"], apart := false, laid := [("unicode/utf8.acceptRanges", laid_unicode_utf8_acceptRanges), ("unicode/utf8.first", laid_unicode_utf8_first)], narrowed := true }
def InAllUptoSaid : Prop := inAllUptoRow.holds Tryd.pinned (OpenSpec.upto inAllSpec)

/-- 'glowwormlaw12.ModRound', WHERE WHAT IT READS IS OF BULK AT MOST 1048576: true; the input reads as it did. -/
def modRoundUptoRow : OpenClaim := { program := "ytochnineebgbgaadoor", sum := "b7e9eeacdbce43bd7c022f0f54181994c1db2defee2e3f4bacd10242268a69e5", func := "glowworm/glowwormlaw12.ModRound", spec := "modRound", named := ["unicode/utf8.first", "unicode/utf8.acceptRanges"], apart := false, laid := [("unicode/utf8.acceptRanges", laid_unicode_utf8_acceptRanges), ("unicode/utf8.first", laid_unicode_utf8_first)], narrowed := true }
def ModRoundUptoSaid : Prop := modRoundUptoRow.holds Tryd.pinned (OpenSpec.upto modRoundSpec)

/-- 'glowwormlaw12.OutWindow', WHERE WHAT IT READS IS OF BULK AT MOST 1048576: true; the input reads as it did. -/
def outWindowUptoRow : OpenClaim := { program := "ytochnineebgbgaadoor", sum := "b7e9eeacdbce43bd7c022f0f54181994c1db2defee2e3f4bacd10242268a69e5", func := "glowworm/glowwormlaw12.OutWindow", spec := "outWindow", named := ["unicode/utf8.first", "unicode/utf8.acceptRanges"], apart := false, laid := [("unicode/utf8.acceptRanges", laid_unicode_utf8_acceptRanges), ("unicode/utf8.first", laid_unicode_utf8_first)], narrowed := true }
def OutWindowUptoSaid : Prop := outWindowUptoRow.holds Tryd.pinned (OpenSpec.upto outWindowSpec)

/-- 'glowwormlaw12.OutFull', WHERE WHAT IT READS IS OF BULK AT MOST 1048576: true; the input reads as it did. -/
def outFullUptoRow : OpenClaim := { program := "ytochnineebgbgaadoor", sum := "b7e9eeacdbce43bd7c022f0f54181994c1db2defee2e3f4bacd10242268a69e5", func := "glowworm/glowwormlaw12.OutFull", spec := "outFull", named := ["unicode/utf8.first", "unicode/utf8.acceptRanges"], apart := false, laid := [("unicode/utf8.acceptRanges", laid_unicode_utf8_acceptRanges), ("unicode/utf8.first", laid_unicode_utf8_first)], narrowed := true }
def OutFullUptoSaid : Prop := outFullUptoRow.holds Tryd.pinned (OpenSpec.upto outFullSpec)

/-- 'glowwormlaw12.OutForeign', WHERE WHAT IT READS IS OF BULK AT MOST 1048576: true; the input reads as it did. -/
def outForeignUptoRow : OpenClaim := { program := "ytochnineebgbgaadoor", sum := "b7e9eeacdbce43bd7c022f0f54181994c1db2defee2e3f4bacd10242268a69e5", func := "glowworm/glowwormlaw12.OutForeign", spec := "outForeign", named := ["unicode/utf8.first", "unicode/utf8.acceptRanges"], apart := false, laid := [("unicode/utf8.acceptRanges", laid_unicode_utf8_acceptRanges), ("unicode/utf8.first", laid_unicode_utf8_first)], narrowed := true }
def OutForeignUptoSaid : Prop := outForeignUptoRow.holds Tryd.pinned (OpenSpec.upto outForeignSpec)

/-- 'glowwormlaw12.InOrder', WHERE WHAT IT READS IS OF BULK AT MOST 1048576: true; the input reads as it did. -/
def inOrderUptoRow : OpenClaim := { program := "ytochnineebgbgaadoor", sum := "b7e9eeacdbce43bd7c022f0f54181994c1db2defee2e3f4bacd10242268a69e5", func := "glowworm/glowwormlaw12.InOrder", spec := "inOrder", named := ["unicode/utf8.first", "unicode/utf8.acceptRanges"], apart := false, laid := [("unicode/utf8.acceptRanges", laid_unicode_utf8_acceptRanges), ("unicode/utf8.first", laid_unicode_utf8_first)], narrowed := true }
def InOrderUptoSaid : Prop := inOrderUptoRow.holds Tryd.pinned (OpenSpec.upto inOrderSpec)

/-- 'glowwormlaw12.TurnGo', WHERE WHAT IT READS IS OF BULK AT MOST 1048576: true; the input reads as it did. -/
def turnGoUptoRow : OpenClaim := { program := "ytochnineebgbgaadoor", sum := "b7e9eeacdbce43bd7c022f0f54181994c1db2defee2e3f4bacd10242268a69e5", func := "glowworm/glowwormlaw12.TurnGo", spec := "turnGo", named := ["unicode/utf8.first", "unicode/utf8.acceptRanges"], apart := false, laid := [("unicode/utf8.acceptRanges", laid_unicode_utf8_acceptRanges), ("unicode/utf8.first", laid_unicode_utf8_first)], narrowed := true }
def TurnGoUptoSaid : Prop := turnGoUptoRow.holds Tryd.pinned (OpenSpec.upto turnGoSpec)

/-- 'glowwormlaw12.TurnSize', WHERE WHAT IT READS IS OF BULK AT MOST 1048576: true; the input reads as it did. -/
def turnSizeUptoRow : OpenClaim := { program := "ytochnineebgbgaadoor", sum := "b7e9eeacdbce43bd7c022f0f54181994c1db2defee2e3f4bacd10242268a69e5", func := "glowworm/glowwormlaw12.TurnSize", spec := "turnSize", named := ["unicode/utf8.first", "unicode/utf8.acceptRanges"], apart := false, laid := [("unicode/utf8.acceptRanges", laid_unicode_utf8_acceptRanges), ("unicode/utf8.first", laid_unicode_utf8_first)], narrowed := true }
def TurnSizeUptoSaid : Prop := turnSizeUptoRow.holds Tryd.pinned (OpenSpec.upto turnSizeSpec)

/-- 'glowwormlaw12.OutTwice', WHERE WHAT IT READS IS OF BULK AT MOST 1048576: true; the input reads as it did. -/
def outTwiceUptoRow : OpenClaim := { program := "ytochnineebgbgaadoor", sum := "b7e9eeacdbce43bd7c022f0f54181994c1db2defee2e3f4bacd10242268a69e5", func := "glowworm/glowwormlaw12.OutTwice", spec := "outTwice", named := ["unicode/utf8.first", "unicode/utf8.acceptRanges"], apart := false, laid := [("unicode/utf8.acceptRanges", laid_unicode_utf8_acceptRanges), ("unicode/utf8.first", laid_unicode_utf8_first)], narrowed := true }
def OutTwiceUptoSaid : Prop := outTwiceUptoRow.holds Tryd.pinned (OpenSpec.upto outTwiceSpec)

/-- 'glowwormlaw12.OutAgain', WHERE WHAT IT READS IS OF BULK AT MOST 1048576: true; the input reads as it did. -/
def outAgainUptoRow : OpenClaim := { program := "ytochnineebgbgaadoor", sum := "b7e9eeacdbce43bd7c022f0f54181994c1db2defee2e3f4bacd10242268a69e5", func := "glowworm/glowwormlaw12.OutAgain", spec := "outAgain", named := ["unicode/utf8.first", "unicode/utf8.acceptRanges"], apart := false, laid := [("unicode/utf8.acceptRanges", laid_unicode_utf8_acceptRanges), ("unicode/utf8.first", laid_unicode_utf8_first)], narrowed := true }
def OutAgainUptoSaid : Prop := outAgainUptoRow.holds Tryd.pinned (OpenSpec.upto outAgainSpec)

/-- 'glowwormlaw12.TwoComplete', WHERE WHAT IT READS IS OF BULK AT MOST 1048576: true; the input reads as it did. -/
def twoCompleteUptoRow : OpenClaim := { program := "ytochnineebgbgaadoor", sum := "b7e9eeacdbce43bd7c022f0f54181994c1db2defee2e3f4bacd10242268a69e5", func := "glowworm/glowwormlaw12.TwoComplete", spec := "twoComplete", named := ["unicode/utf8.first", "unicode/utf8.acceptRanges"], apart := false, laid := [("unicode/utf8.acceptRanges", laid_unicode_utf8_acceptRanges), ("unicode/utf8.first", laid_unicode_utf8_first)], narrowed := true }
def TwoCompleteUptoSaid : Prop := twoCompleteUptoRow.holds Tryd.pinned (OpenSpec.upto twoCompleteSpec)

/-- 'glowwormlaw12.TurnReject', WHERE WHAT IT READS IS OF BULK AT MOST 1048576: true; the input reads as it did. -/
def turnRejectUptoRow : OpenClaim := { program := "ytochnineebgbgaadoor", sum := "b7e9eeacdbce43bd7c022f0f54181994c1db2defee2e3f4bacd10242268a69e5", func := "glowworm/glowwormlaw12.TurnReject", spec := "turnReject", named := ["unicode/utf8.first", "unicode/utf8.acceptRanges"], apart := false, laid := [("unicode/utf8.acceptRanges", laid_unicode_utf8_acceptRanges), ("unicode/utf8.first", laid_unicode_utf8_first)], narrowed := true }
def TurnRejectUptoSaid : Prop := turnRejectUptoRow.holds Tryd.pinned (OpenSpec.upto turnRejectSpec)

/-- 'glowwormlaw12.TurnAck', WHERE WHAT IT READS IS OF BULK AT MOST 1048576: true; the input reads as it did. -/
def turnAckUptoRow : OpenClaim := { program := "ytochnineebgbgaadoor", sum := "b7e9eeacdbce43bd7c022f0f54181994c1db2defee2e3f4bacd10242268a69e5", func := "glowworm/glowwormlaw12.TurnAck", spec := "turnAck", named := ["unicode/utf8.first", "unicode/utf8.acceptRanges"], apart := false, laid := [("unicode/utf8.acceptRanges", laid_unicode_utf8_acceptRanges), ("unicode/utf8.first", laid_unicode_utf8_first)], narrowed := true }
def TurnAckUptoSaid : Prop := turnAckUptoRow.holds Tryd.pinned (OpenSpec.upto turnAckSpec)

/-- 'glowwormlaw12.TurnOther', WHERE WHAT IT READS IS OF BULK AT MOST 1048576: true; the input reads as it did. -/
def turnOtherUptoRow : OpenClaim := { program := "ytochnineebgbgaadoor", sum := "b7e9eeacdbce43bd7c022f0f54181994c1db2defee2e3f4bacd10242268a69e5", func := "glowworm/glowwormlaw12.TurnOther", spec := "turnOther", named := ["unicode/utf8.first", "unicode/utf8.acceptRanges"], apart := false, laid := [("unicode/utf8.acceptRanges", laid_unicode_utf8_acceptRanges), ("unicode/utf8.first", laid_unicode_utf8_first)], narrowed := true }
def TurnOtherUptoSaid : Prop := turnOtherUptoRow.holds Tryd.pinned (OpenSpec.upto turnOtherSpec)

/-- 'glowwormlaw12.TurnAll', WHERE WHAT IT READS IS OF BULK AT MOST 1048576: true; the input reads as it did. -/
def turnAllUptoRow : OpenClaim := { program := "ytochnineebgbgaadoor", sum := "b7e9eeacdbce43bd7c022f0f54181994c1db2defee2e3f4bacd10242268a69e5", func := "glowworm/glowwormlaw12.TurnAll", spec := "turnAll", named := ["unicode/utf8.first", "unicode/utf8.acceptRanges"], apart := false, laid := [("unicode/utf8.acceptRanges", laid_unicode_utf8_acceptRanges), ("unicode/utf8.first", laid_unicode_utf8_first)], narrowed := true }
def TurnAllUptoSaid : Prop := turnAllUptoRow.holds Tryd.pinned (OpenSpec.upto turnAllSpec)

/-- 'glowwormlaw12.TurnSwap', WHERE WHAT IT READS IS OF BULK AT MOST 1048576: true; the input reads as it did. -/
def turnSwapUptoRow : OpenClaim := { program := "ytochnineebgbgaadoor", sum := "b7e9eeacdbce43bd7c022f0f54181994c1db2defee2e3f4bacd10242268a69e5", func := "glowworm/glowwormlaw12.TurnSwap", spec := "turnSwap", named := ["unicode/utf8.first", "unicode/utf8.acceptRanges"], apart := false, laid := [("unicode/utf8.acceptRanges", laid_unicode_utf8_acceptRanges), ("unicode/utf8.first", laid_unicode_utf8_first)], narrowed := true }
def TurnSwapUptoSaid : Prop := turnSwapUptoRow.holds Tryd.pinned (OpenSpec.upto turnSwapSpec)

/-- 'glowwormlaw12.TurnNone', WHERE WHAT IT READS IS OF BULK AT MOST 1048576: true; the input reads as it did. -/
def turnNoneUptoRow : OpenClaim := { program := "ytochnineebgbgaadoor", sum := "b7e9eeacdbce43bd7c022f0f54181994c1db2defee2e3f4bacd10242268a69e5", func := "glowworm/glowwormlaw12.TurnNone", spec := "turnNone", named := ["unicode/utf8.first", "unicode/utf8.acceptRanges"], apart := false, laid := [("unicode/utf8.acceptRanges", laid_unicode_utf8_acceptRanges), ("unicode/utf8.first", laid_unicode_utf8_first)], narrowed := true }
def TurnNoneUptoSaid : Prop := turnNoneUptoRow.holds Tryd.pinned (OpenSpec.upto turnNoneSpec)

end Rows
end Go.Proofs.YtochnineebgbgaaDoor
