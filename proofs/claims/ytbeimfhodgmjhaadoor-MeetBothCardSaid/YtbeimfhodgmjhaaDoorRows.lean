/-
  NARROWER THAN 'FOR EVERY INPUT', by the rows' own cells (each row's printed sentence says how): QosAll: laid · QosMore: laid · MeetAll: laid · MeetBoth: laid · XidAll: laid · SetupAll: laid · SetupNone: laid · QosTurn: laid · QosBits: laid · QosTicks: laid · MeetBest: laid · MeetMine: laid · XidTurn: laid · XidFresh: laid · SetupMore: laid · QosCut: laid · MeetLeast: laid · SetupUnlike: laid.
  DERIVED. THE GIVEN ROWS OF THIS SEAT. 18 by the template 'for every input the law returns true; each argument reads behind the call as it read before'; 0 by the template 'total and deterministic' (their statements: YtbeimfhodgmjhaaDoorTotals.lean).
  GIVEN WITH THE SEED: the statements are not yours to turn. If you find one false, say at which input.
  Laid BY PROGRAM, IN A SANDBOX (cutbox-rows.mjs): the forced cells as the released guide's own fill.sh prints them over the translation fe6da00abbe7226a… (all of the seat's roots in one cut). By AI agents, Wed Nov 11 2026. No macro, syntax, notation, axiom, sorry.
-/
import Derived.Test.YtbeimfhodgmjhaaDoorChecked
import GoSem.PinnedTables
import GoSem.Claim
import GoSem.ClaimJoined
import GoSem.ClaimMapViews
import Derived.JoinedTies
import Derived.KernelRfl
namespace Go.Proofs.YtbeimfhodgmjhaaDoor
/- THE CELL 'sum', in the pinned program and in every row, IS THE sha256 OF THE DUMP (.gsa) THAT YtbeimfhodgmjhaaDoorProg.lean LOADS. Nothing in Lean hashes anything: it is a label: what it is worth is what the hold of that sum in a sandbox is worth. -/
noncomputable def Tryd.pinned : Pinned := { name := "ytbeimfhodgmjhaadoor", sum := "fe6da00abbe7226a459dab598c34b18965a3458ec3f6e47583f4b42250489a02", checked := Tryd.checked }
namespace Rows
def none {H : Type} : Left H := { results := [], args := [] }

/- WHAT THE LISTED PACKAGE-LEVEL VARIABLES READ AS WHEN THE CALL BEGINS. Each datum BY PROGRAM (the guide's laid-datum.mjs) off the statement by which the dump's own 'gosem.cut.vars' lays the variable. In a bare row this is a premise. The card (YtbeimfhodgmjhaaDoorCards.lean) ties it to the program's text. -/
def laid_math_bits_deBruijn32tab {H : Type} : DataW H := .agg [.lit (.int .u8 0), .lit (.int .u8 1), .lit (.int .u8 28), .lit (.int .u8 2), .lit (.int .u8 29), .lit (.int .u8 14), .lit (.int .u8 24), .lit (.int .u8 3), .lit (.int .u8 30), .lit (.int .u8 22), .lit (.int .u8 20), .lit (.int .u8 15), .lit (.int .u8 25), .lit (.int .u8 17), .lit (.int .u8 4), .lit (.int .u8 8), .lit (.int .u8 31), .lit (.int .u8 27), .lit (.int .u8 13), .lit (.int .u8 23), .lit (.int .u8 21), .lit (.int .u8 19), .lit (.int .u8 16), .lit (.int .u8 7), .lit (.int .u8 26), .lit (.int .u8 12), .lit (.int .u8 18), .lit (.int .u8 6), .lit (.int .u8 11), .lit (.int .u8 5), .lit (.int .u8 10), .lit (.int .u8 9)]
def laid_unicode_utf8_acceptRanges {H : Type} : DataW H := .agg [.agg [.lit (.int .u8 128), .lit (.int .u8 191)], .agg [.lit (.int .u8 160), .lit (.int .u8 191)], .agg [.lit (.int .u8 128), .lit (.int .u8 159)], .agg [.lit (.int .u8 144), .lit (.int .u8 191)], .agg [.lit (.int .u8 128), .lit (.int .u8 143)], .agg [.lit (.int .u8 0), .lit (.int .u8 0)], .agg [.lit (.int .u8 0), .lit (.int .u8 0)], .agg [.lit (.int .u8 0), .lit (.int .u8 0)], .agg [.lit (.int .u8 0), .lit (.int .u8 0)], .agg [.lit (.int .u8 0), .lit (.int .u8 0)], .agg [.lit (.int .u8 0), .lit (.int .u8 0)], .agg [.lit (.int .u8 0), .lit (.int .u8 0)], .agg [.lit (.int .u8 0), .lit (.int .u8 0)], .agg [.lit (.int .u8 0), .lit (.int .u8 0)], .agg [.lit (.int .u8 0), .lit (.int .u8 0)], .agg [.lit (.int .u8 0), .lit (.int .u8 0)]]
/-- One of Go's own tables, pinned by name: the form's constant. -/
def laid_unicode_utf8_first : DataW Unit := Go.Pinned.utf8First

/-- 'glowwormlaw8.QosAll': WHATEVER THE INPUT: true; the input reads as it did. -/
def qosAllSpec : ChangeSpec := { name := "qosAll", fn := fun _ => fun
  | [d1, d2, d3, d4, d5, d6] => { results := [.lit (.bool true)], args := [d1, d2, d3, d4, d5, d6] }
  | _ => none }
def qosAllRow : OpenClaim := { program := "ytbeimfhodgmjhaadoor", sum := "fe6da00abbe7226a459dab598c34b18965a3458ec3f6e47583f4b42250489a02", func := "glowworm/glowwormlaw8.QosAll", spec := "qosAll", named := ["math/bits.deBruijn32tab", "unicode/utf8.first", "unicode/utf8.acceptRanges"], apart := false, laid := [("math/bits.deBruijn32tab", laid_math_bits_deBruijn32tab), ("unicode/utf8.acceptRanges", laid_unicode_utf8_acceptRanges), ("unicode/utf8.first", laid_unicode_utf8_first)] }
def QosAllSaid : Prop := qosAllRow.holds Tryd.pinned (OpenSpec.ofChange qosAllSpec)

/-- ITS FALSE NEIGHBOUR: 'it returns false'. Refute it at one input. -/
def qosAllWrong : ChangeSpec := { name := "qosAll", fn := fun _ => fun
  | [d1, d2, d3, d4, d5, d6] => { results := [.lit (.bool false)], args := [d1, d2, d3, d4, d5, d6] }
  | _ => none }
def QosAllWrongFalsely : Prop := qosAllRow.holds Tryd.pinned (OpenSpec.ofChange qosAllWrong)

/-- 'glowwormlaw8.QosMore': WHATEVER THE INPUT: true; the input reads as it did. -/
def qosMoreSpec : ChangeSpec := { name := "qosMore", fn := fun _ => fun
  | [d1, d2, d3] => { results := [.lit (.bool true)], args := [d1, d2, d3] }
  | _ => none }
def qosMoreRow : OpenClaim := { program := "ytbeimfhodgmjhaadoor", sum := "fe6da00abbe7226a459dab598c34b18965a3458ec3f6e47583f4b42250489a02", func := "glowworm/glowwormlaw8.QosMore", spec := "qosMore", named := ["math/bits.deBruijn32tab", "unicode/utf8.first", "unicode/utf8.acceptRanges"], apart := false, laid := [("math/bits.deBruijn32tab", laid_math_bits_deBruijn32tab), ("unicode/utf8.acceptRanges", laid_unicode_utf8_acceptRanges), ("unicode/utf8.first", laid_unicode_utf8_first)] }
def QosMoreSaid : Prop := qosMoreRow.holds Tryd.pinned (OpenSpec.ofChange qosMoreSpec)

/-- ITS FALSE NEIGHBOUR: 'it returns false'. Refute it at one input. -/
def qosMoreWrong : ChangeSpec := { name := "qosMore", fn := fun _ => fun
  | [d1, d2, d3] => { results := [.lit (.bool false)], args := [d1, d2, d3] }
  | _ => none }
def QosMoreWrongFalsely : Prop := qosMoreRow.holds Tryd.pinned (OpenSpec.ofChange qosMoreWrong)

/-- 'glowwormlaw8.MeetAll': WHATEVER THE INPUT: true; the input reads as it did. -/
def meetAllSpec : ChangeSpec := { name := "meetAll", fn := fun _ => fun
  | [d1, d2, d3, d4] => { results := [.lit (.bool true)], args := [d1, d2, d3, d4] }
  | _ => none }
def meetAllRow : OpenClaim := { program := "ytbeimfhodgmjhaadoor", sum := "fe6da00abbe7226a459dab598c34b18965a3458ec3f6e47583f4b42250489a02", func := "glowworm/glowwormlaw8.MeetAll", spec := "meetAll", named := ["math/bits.deBruijn32tab", "unicode/utf8.first", "unicode/utf8.acceptRanges"], apart := false, laid := [("math/bits.deBruijn32tab", laid_math_bits_deBruijn32tab), ("unicode/utf8.acceptRanges", laid_unicode_utf8_acceptRanges), ("unicode/utf8.first", laid_unicode_utf8_first)] }
def MeetAllSaid : Prop := meetAllRow.holds Tryd.pinned (OpenSpec.ofChange meetAllSpec)

/-- ITS FALSE NEIGHBOUR: 'it returns false'. Refute it at one input. -/
def meetAllWrong : ChangeSpec := { name := "meetAll", fn := fun _ => fun
  | [d1, d2, d3, d4] => { results := [.lit (.bool false)], args := [d1, d2, d3, d4] }
  | _ => none }
def MeetAllWrongFalsely : Prop := meetAllRow.holds Tryd.pinned (OpenSpec.ofChange meetAllWrong)

/-- 'glowwormlaw8.MeetBoth': WHATEVER THE INPUT: true; the input reads as it did. -/
def meetBothSpec : ChangeSpec := { name := "meetBoth", fn := fun _ => fun
  | [d1, d2, d3] => { results := [.lit (.bool true)], args := [d1, d2, d3] }
  | _ => none }
def meetBothRow : OpenClaim := { program := "ytbeimfhodgmjhaadoor", sum := "fe6da00abbe7226a459dab598c34b18965a3458ec3f6e47583f4b42250489a02", func := "glowworm/glowwormlaw8.MeetBoth", spec := "meetBoth", named := ["math/bits.deBruijn32tab", "unicode/utf8.first", "unicode/utf8.acceptRanges"], apart := false, laid := [("math/bits.deBruijn32tab", laid_math_bits_deBruijn32tab), ("unicode/utf8.acceptRanges", laid_unicode_utf8_acceptRanges), ("unicode/utf8.first", laid_unicode_utf8_first)] }
def MeetBothSaid : Prop := meetBothRow.holds Tryd.pinned (OpenSpec.ofChange meetBothSpec)

/-- ITS FALSE NEIGHBOUR: 'it returns false'. Refute it at one input. -/
def meetBothWrong : ChangeSpec := { name := "meetBoth", fn := fun _ => fun
  | [d1, d2, d3] => { results := [.lit (.bool false)], args := [d1, d2, d3] }
  | _ => none }
def MeetBothWrongFalsely : Prop := meetBothRow.holds Tryd.pinned (OpenSpec.ofChange meetBothWrong)

/-- 'glowwormlaw8.XidAll': WHATEVER THE INPUT: true; the input reads as it did. -/
def xidAllSpec : ChangeSpec := { name := "xidAll", fn := fun _ => fun
  | [d1, d2, d3, d4] => { results := [.lit (.bool true)], args := [d1, d2, d3, d4] }
  | _ => none }
def xidAllRow : OpenClaim := { program := "ytbeimfhodgmjhaadoor", sum := "fe6da00abbe7226a459dab598c34b18965a3458ec3f6e47583f4b42250489a02", func := "glowworm/glowwormlaw8.XidAll", spec := "xidAll", named := ["math/bits.deBruijn32tab", "unicode/utf8.first", "unicode/utf8.acceptRanges"], apart := false, laid := [("math/bits.deBruijn32tab", laid_math_bits_deBruijn32tab), ("unicode/utf8.acceptRanges", laid_unicode_utf8_acceptRanges), ("unicode/utf8.first", laid_unicode_utf8_first)] }
def XidAllSaid : Prop := xidAllRow.holds Tryd.pinned (OpenSpec.ofChange xidAllSpec)

/-- ITS FALSE NEIGHBOUR: 'it returns false'. Refute it at one input. -/
def xidAllWrong : ChangeSpec := { name := "xidAll", fn := fun _ => fun
  | [d1, d2, d3, d4] => { results := [.lit (.bool false)], args := [d1, d2, d3, d4] }
  | _ => none }
def XidAllWrongFalsely : Prop := xidAllRow.holds Tryd.pinned (OpenSpec.ofChange xidAllWrong)

/-- 'glowwormlaw8.SetupAll': WHATEVER THE INPUT: true; the input reads as it did. -/
def setupAllSpec : ChangeSpec := { name := "setupAll", fn := fun _ => fun
  | [d1, d2, d3, d4] => { results := [.lit (.bool true)], args := [d1, d2, d3, d4] }
  | _ => none }
def setupAllRow : OpenClaim := { program := "ytbeimfhodgmjhaadoor", sum := "fe6da00abbe7226a459dab598c34b18965a3458ec3f6e47583f4b42250489a02", func := "glowworm/glowwormlaw8.SetupAll", spec := "setupAll", named := ["math/bits.deBruijn32tab", "unicode/utf8.first", "unicode/utf8.acceptRanges"], apart := false, laid := [("math/bits.deBruijn32tab", laid_math_bits_deBruijn32tab), ("unicode/utf8.acceptRanges", laid_unicode_utf8_acceptRanges), ("unicode/utf8.first", laid_unicode_utf8_first)] }
def SetupAllSaid : Prop := setupAllRow.holds Tryd.pinned (OpenSpec.ofChange setupAllSpec)

/-- ITS FALSE NEIGHBOUR: 'it returns false'. Refute it at one input. -/
def setupAllWrong : ChangeSpec := { name := "setupAll", fn := fun _ => fun
  | [d1, d2, d3, d4] => { results := [.lit (.bool false)], args := [d1, d2, d3, d4] }
  | _ => none }
def SetupAllWrongFalsely : Prop := setupAllRow.holds Tryd.pinned (OpenSpec.ofChange setupAllWrong)

/-- 'glowwormlaw8.SetupNone': WHATEVER THE INPUT: true; the input reads as it did. -/
def setupNoneSpec : ChangeSpec := { name := "setupNone", fn := fun _ => fun
  | [] => { results := [.lit (.bool true)], args := [] }
  | _ => none }
def setupNoneRow : OpenClaim := { program := "ytbeimfhodgmjhaadoor", sum := "fe6da00abbe7226a459dab598c34b18965a3458ec3f6e47583f4b42250489a02", func := "glowworm/glowwormlaw8.SetupNone", spec := "setupNone", named := ["math/bits.deBruijn32tab", "unicode/utf8.first", "unicode/utf8.acceptRanges"], apart := false, laid := [("math/bits.deBruijn32tab", laid_math_bits_deBruijn32tab), ("unicode/utf8.acceptRanges", laid_unicode_utf8_acceptRanges), ("unicode/utf8.first", laid_unicode_utf8_first)] }
def SetupNoneSaid : Prop := setupNoneRow.holds Tryd.pinned (OpenSpec.ofChange setupNoneSpec)

/-- ITS FALSE NEIGHBOUR: 'it returns false'. Refute it at one input. -/
def setupNoneWrong : ChangeSpec := { name := "setupNone", fn := fun _ => fun
  | [] => { results := [.lit (.bool false)], args := [] }
  | _ => none }
def SetupNoneWrongFalsely : Prop := setupNoneRow.holds Tryd.pinned (OpenSpec.ofChange setupNoneWrong)

/-- 'glowwormlaw8.QosTurn': WHATEVER THE INPUT: true; the input reads as it did. -/
def qosTurnSpec : ChangeSpec := { name := "qosTurn", fn := fun _ => fun
  | [d1, d2, d3] => { results := [.lit (.bool true)], args := [d1, d2, d3] }
  | _ => none }
def qosTurnRow : OpenClaim := { program := "ytbeimfhodgmjhaadoor", sum := "fe6da00abbe7226a459dab598c34b18965a3458ec3f6e47583f4b42250489a02", func := "glowworm/glowwormlaw8.QosTurn", spec := "qosTurn", named := ["math/bits.deBruijn32tab", "unicode/utf8.first", "unicode/utf8.acceptRanges"], apart := false, laid := [("math/bits.deBruijn32tab", laid_math_bits_deBruijn32tab), ("unicode/utf8.acceptRanges", laid_unicode_utf8_acceptRanges), ("unicode/utf8.first", laid_unicode_utf8_first)] }
def QosTurnSaid : Prop := qosTurnRow.holds Tryd.pinned (OpenSpec.ofChange qosTurnSpec)

/-- ITS FALSE NEIGHBOUR: 'it returns false'. Refute it at one input. -/
def qosTurnWrong : ChangeSpec := { name := "qosTurn", fn := fun _ => fun
  | [d1, d2, d3] => { results := [.lit (.bool false)], args := [d1, d2, d3] }
  | _ => none }
def QosTurnWrongFalsely : Prop := qosTurnRow.holds Tryd.pinned (OpenSpec.ofChange qosTurnWrong)

/-- 'glowwormlaw8.QosBits': WHATEVER THE INPUT: true; the input reads as it did. -/
def qosBitsSpec : ChangeSpec := { name := "qosBits", fn := fun _ => fun
  | [d] => { results := [.lit (.bool true)], args := [d] }
  | _ => none }
def qosBitsRow : OpenClaim := { program := "ytbeimfhodgmjhaadoor", sum := "fe6da00abbe7226a459dab598c34b18965a3458ec3f6e47583f4b42250489a02", func := "glowworm/glowwormlaw8.QosBits", spec := "qosBits", named := ["math/bits.deBruijn32tab", "unicode/utf8.first", "unicode/utf8.acceptRanges"], apart := false, laid := [("math/bits.deBruijn32tab", laid_math_bits_deBruijn32tab), ("unicode/utf8.acceptRanges", laid_unicode_utf8_acceptRanges), ("unicode/utf8.first", laid_unicode_utf8_first)] }
def QosBitsSaid : Prop := qosBitsRow.holds Tryd.pinned (OpenSpec.ofChange qosBitsSpec)

/-- ITS FALSE NEIGHBOUR: 'it returns false'. Refute it at one input. -/
def qosBitsWrong : ChangeSpec := { name := "qosBits", fn := fun _ => fun
  | [d] => { results := [.lit (.bool false)], args := [d] }
  | _ => none }
def QosBitsWrongFalsely : Prop := qosBitsRow.holds Tryd.pinned (OpenSpec.ofChange qosBitsWrong)

/-- 'glowwormlaw8.QosTicks': WHATEVER THE INPUT: true; the input reads as it did. -/
def qosTicksSpec : ChangeSpec := { name := "qosTicks", fn := fun _ => fun
  | [d1, d2] => { results := [.lit (.bool true)], args := [d1, d2] }
  | _ => none }
def qosTicksRow : OpenClaim := { program := "ytbeimfhodgmjhaadoor", sum := "fe6da00abbe7226a459dab598c34b18965a3458ec3f6e47583f4b42250489a02", func := "glowworm/glowwormlaw8.QosTicks", spec := "qosTicks", named := ["math/bits.deBruijn32tab", "unicode/utf8.first", "unicode/utf8.acceptRanges"], apart := false, laid := [("math/bits.deBruijn32tab", laid_math_bits_deBruijn32tab), ("unicode/utf8.acceptRanges", laid_unicode_utf8_acceptRanges), ("unicode/utf8.first", laid_unicode_utf8_first)] }
def QosTicksSaid : Prop := qosTicksRow.holds Tryd.pinned (OpenSpec.ofChange qosTicksSpec)

/-- ITS FALSE NEIGHBOUR: 'it returns false'. Refute it at one input. -/
def qosTicksWrong : ChangeSpec := { name := "qosTicks", fn := fun _ => fun
  | [d1, d2] => { results := [.lit (.bool false)], args := [d1, d2] }
  | _ => none }
def QosTicksWrongFalsely : Prop := qosTicksRow.holds Tryd.pinned (OpenSpec.ofChange qosTicksWrong)

/-- 'glowwormlaw8.MeetBest': WHATEVER THE INPUT: true; the input reads as it did. -/
def meetBestSpec : ChangeSpec := { name := "meetBest", fn := fun _ => fun
  | [d1, d2] => { results := [.lit (.bool true)], args := [d1, d2] }
  | _ => none }
def meetBestRow : OpenClaim := { program := "ytbeimfhodgmjhaadoor", sum := "fe6da00abbe7226a459dab598c34b18965a3458ec3f6e47583f4b42250489a02", func := "glowworm/glowwormlaw8.MeetBest", spec := "meetBest", named := ["math/bits.deBruijn32tab", "unicode/utf8.first", "unicode/utf8.acceptRanges"], apart := false, laid := [("math/bits.deBruijn32tab", laid_math_bits_deBruijn32tab), ("unicode/utf8.acceptRanges", laid_unicode_utf8_acceptRanges), ("unicode/utf8.first", laid_unicode_utf8_first)] }
def MeetBestSaid : Prop := meetBestRow.holds Tryd.pinned (OpenSpec.ofChange meetBestSpec)

/-- ITS FALSE NEIGHBOUR: 'it returns false'. Refute it at one input. -/
def meetBestWrong : ChangeSpec := { name := "meetBest", fn := fun _ => fun
  | [d1, d2] => { results := [.lit (.bool false)], args := [d1, d2] }
  | _ => none }
def MeetBestWrongFalsely : Prop := meetBestRow.holds Tryd.pinned (OpenSpec.ofChange meetBestWrong)

/-- 'glowwormlaw8.MeetMine': WHATEVER THE INPUT: true; the input reads as it did. -/
def meetMineSpec : ChangeSpec := { name := "meetMine", fn := fun _ => fun
  | [d1, d2, d3] => { results := [.lit (.bool true)], args := [d1, d2, d3] }
  | _ => none }
def meetMineRow : OpenClaim := { program := "ytbeimfhodgmjhaadoor", sum := "fe6da00abbe7226a459dab598c34b18965a3458ec3f6e47583f4b42250489a02", func := "glowworm/glowwormlaw8.MeetMine", spec := "meetMine", named := ["math/bits.deBruijn32tab", "unicode/utf8.first", "unicode/utf8.acceptRanges"], apart := false, laid := [("math/bits.deBruijn32tab", laid_math_bits_deBruijn32tab), ("unicode/utf8.acceptRanges", laid_unicode_utf8_acceptRanges), ("unicode/utf8.first", laid_unicode_utf8_first)] }
def MeetMineSaid : Prop := meetMineRow.holds Tryd.pinned (OpenSpec.ofChange meetMineSpec)

/-- ITS FALSE NEIGHBOUR: 'it returns false'. Refute it at one input. -/
def meetMineWrong : ChangeSpec := { name := "meetMine", fn := fun _ => fun
  | [d1, d2, d3] => { results := [.lit (.bool false)], args := [d1, d2, d3] }
  | _ => none }
def MeetMineWrongFalsely : Prop := meetMineRow.holds Tryd.pinned (OpenSpec.ofChange meetMineWrong)

/-- 'glowwormlaw8.XidTurn': WHATEVER THE INPUT: true; the input reads as it did. -/
def xidTurnSpec : ChangeSpec := { name := "xidTurn", fn := fun _ => fun
  | [d1, d2, d3] => { results := [.lit (.bool true)], args := [d1, d2, d3] }
  | _ => none }
def xidTurnRow : OpenClaim := { program := "ytbeimfhodgmjhaadoor", sum := "fe6da00abbe7226a459dab598c34b18965a3458ec3f6e47583f4b42250489a02", func := "glowworm/glowwormlaw8.XidTurn", spec := "xidTurn", named := ["math/bits.deBruijn32tab", "unicode/utf8.first", "unicode/utf8.acceptRanges"], apart := false, laid := [("math/bits.deBruijn32tab", laid_math_bits_deBruijn32tab), ("unicode/utf8.acceptRanges", laid_unicode_utf8_acceptRanges), ("unicode/utf8.first", laid_unicode_utf8_first)] }
def XidTurnSaid : Prop := xidTurnRow.holds Tryd.pinned (OpenSpec.ofChange xidTurnSpec)

/-- ITS FALSE NEIGHBOUR: 'it returns false'. Refute it at one input. -/
def xidTurnWrong : ChangeSpec := { name := "xidTurn", fn := fun _ => fun
  | [d1, d2, d3] => { results := [.lit (.bool false)], args := [d1, d2, d3] }
  | _ => none }
def XidTurnWrongFalsely : Prop := xidTurnRow.holds Tryd.pinned (OpenSpec.ofChange xidTurnWrong)

/-- 'glowwormlaw8.XidFresh': WHATEVER THE INPUT: true; the input reads as it did. -/
def xidFreshSpec : ChangeSpec := { name := "xidFresh", fn := fun _ => fun
  | [d1, d2] => { results := [.lit (.bool true)], args := [d1, d2] }
  | _ => none }
def xidFreshRow : OpenClaim := { program := "ytbeimfhodgmjhaadoor", sum := "fe6da00abbe7226a459dab598c34b18965a3458ec3f6e47583f4b42250489a02", func := "glowworm/glowwormlaw8.XidFresh", spec := "xidFresh", named := ["math/bits.deBruijn32tab", "unicode/utf8.first", "unicode/utf8.acceptRanges"], apart := false, laid := [("math/bits.deBruijn32tab", laid_math_bits_deBruijn32tab), ("unicode/utf8.acceptRanges", laid_unicode_utf8_acceptRanges), ("unicode/utf8.first", laid_unicode_utf8_first)] }
def XidFreshSaid : Prop := xidFreshRow.holds Tryd.pinned (OpenSpec.ofChange xidFreshSpec)

/-- ITS FALSE NEIGHBOUR: 'it returns false'. Refute it at one input. -/
def xidFreshWrong : ChangeSpec := { name := "xidFresh", fn := fun _ => fun
  | [d1, d2] => { results := [.lit (.bool false)], args := [d1, d2] }
  | _ => none }
def XidFreshWrongFalsely : Prop := xidFreshRow.holds Tryd.pinned (OpenSpec.ofChange xidFreshWrong)

/-- 'glowwormlaw8.SetupMore': WHATEVER THE INPUT: true; the input reads as it did. -/
def setupMoreSpec : ChangeSpec := { name := "setupMore", fn := fun _ => fun
  | [d1, d2, d3] => { results := [.lit (.bool true)], args := [d1, d2, d3] }
  | _ => none }
def setupMoreRow : OpenClaim := { program := "ytbeimfhodgmjhaadoor", sum := "fe6da00abbe7226a459dab598c34b18965a3458ec3f6e47583f4b42250489a02", func := "glowworm/glowwormlaw8.SetupMore", spec := "setupMore", named := ["math/bits.deBruijn32tab", "unicode/utf8.first", "unicode/utf8.acceptRanges"], apart := false, laid := [("math/bits.deBruijn32tab", laid_math_bits_deBruijn32tab), ("unicode/utf8.acceptRanges", laid_unicode_utf8_acceptRanges), ("unicode/utf8.first", laid_unicode_utf8_first)] }
def SetupMoreSaid : Prop := setupMoreRow.holds Tryd.pinned (OpenSpec.ofChange setupMoreSpec)

/-- ITS FALSE NEIGHBOUR: 'it returns false'. Refute it at one input. -/
def setupMoreWrong : ChangeSpec := { name := "setupMore", fn := fun _ => fun
  | [d1, d2, d3] => { results := [.lit (.bool false)], args := [d1, d2, d3] }
  | _ => none }
def SetupMoreWrongFalsely : Prop := setupMoreRow.holds Tryd.pinned (OpenSpec.ofChange setupMoreWrong)

/-- 'glowwormlaw8.QosCut': WHATEVER THE INPUT: true; the input reads as it did. -/
def qosCutSpec : ChangeSpec := { name := "qosCut", fn := fun _ => fun
  | [d1, d2] => { results := [.lit (.bool true)], args := [d1, d2] }
  | _ => none }
def qosCutRow : OpenClaim := { program := "ytbeimfhodgmjhaadoor", sum := "fe6da00abbe7226a459dab598c34b18965a3458ec3f6e47583f4b42250489a02", func := "glowworm/glowwormlaw8.QosCut", spec := "qosCut", named := ["math/bits.deBruijn32tab", "unicode/utf8.first", "unicode/utf8.acceptRanges"], apart := false, laid := [("math/bits.deBruijn32tab", laid_math_bits_deBruijn32tab), ("unicode/utf8.acceptRanges", laid_unicode_utf8_acceptRanges), ("unicode/utf8.first", laid_unicode_utf8_first)] }
def QosCutSaid : Prop := qosCutRow.holds Tryd.pinned (OpenSpec.ofChange qosCutSpec)

/-- ITS FALSE NEIGHBOUR: 'it returns false'. Refute it at one input. -/
def qosCutWrong : ChangeSpec := { name := "qosCut", fn := fun _ => fun
  | [d1, d2] => { results := [.lit (.bool false)], args := [d1, d2] }
  | _ => none }
def QosCutWrongFalsely : Prop := qosCutRow.holds Tryd.pinned (OpenSpec.ofChange qosCutWrong)

/-- 'glowwormlaw8.MeetLeast': WHATEVER THE INPUT: true; the input reads as it did. -/
def meetLeastSpec : ChangeSpec := { name := "meetLeast", fn := fun _ => fun
  | [d] => { results := [.lit (.bool true)], args := [d] }
  | _ => none }
def meetLeastRow : OpenClaim := { program := "ytbeimfhodgmjhaadoor", sum := "fe6da00abbe7226a459dab598c34b18965a3458ec3f6e47583f4b42250489a02", func := "glowworm/glowwormlaw8.MeetLeast", spec := "meetLeast", named := ["math/bits.deBruijn32tab", "unicode/utf8.first", "unicode/utf8.acceptRanges"], apart := false, laid := [("math/bits.deBruijn32tab", laid_math_bits_deBruijn32tab), ("unicode/utf8.acceptRanges", laid_unicode_utf8_acceptRanges), ("unicode/utf8.first", laid_unicode_utf8_first)] }
def MeetLeastSaid : Prop := meetLeastRow.holds Tryd.pinned (OpenSpec.ofChange meetLeastSpec)

/-- ITS FALSE NEIGHBOUR: 'it returns false'. Refute it at one input. -/
def meetLeastWrong : ChangeSpec := { name := "meetLeast", fn := fun _ => fun
  | [d] => { results := [.lit (.bool false)], args := [d] }
  | _ => none }
def MeetLeastWrongFalsely : Prop := meetLeastRow.holds Tryd.pinned (OpenSpec.ofChange meetLeastWrong)

/-- 'glowwormlaw8.SetupUnlike': WHATEVER THE INPUT: true; the input reads as it did. -/
def setupUnlikeSpec : ChangeSpec := { name := "setupUnlike", fn := fun _ => fun
  | [d1, d2, d3, d4] => { results := [.lit (.bool true)], args := [d1, d2, d3, d4] }
  | _ => none }
def setupUnlikeRow : OpenClaim := { program := "ytbeimfhodgmjhaadoor", sum := "fe6da00abbe7226a459dab598c34b18965a3458ec3f6e47583f4b42250489a02", func := "glowworm/glowwormlaw8.SetupUnlike", spec := "setupUnlike", named := ["math/bits.deBruijn32tab", "unicode/utf8.first", "unicode/utf8.acceptRanges"], apart := false, laid := [("math/bits.deBruijn32tab", laid_math_bits_deBruijn32tab), ("unicode/utf8.acceptRanges", laid_unicode_utf8_acceptRanges), ("unicode/utf8.first", laid_unicode_utf8_first)] }
def SetupUnlikeSaid : Prop := setupUnlikeRow.holds Tryd.pinned (OpenSpec.ofChange setupUnlikeSpec)

/-- ITS FALSE NEIGHBOUR: 'it returns false'. Refute it at one input. -/
def setupUnlikeWrong : ChangeSpec := { name := "setupUnlike", fn := fun _ => fun
  | [d1, d2, d3, d4] => { results := [.lit (.bool false)], args := [d1, d2, d3, d4] }
  | _ => none }
def SetupUnlikeWrongFalsely : Prop := setupUnlikeRow.holds Tryd.pinned (OpenSpec.ofChange setupUnlikeWrong)

/- THE SECOND FORM. 'bulk': how many values and letters a reading holds, each counted each time it is reached (what is shared counts as often as it is met; a slice's spare places count too). A statement '..UptoSaid' is the law's where the arguments, and the package variables that the reading takes, are together of bulk at most 1048576: NARROWER than '..Said'. Prove '..Said' where nothing that the law and all that it calls make is longer than what came in: it says more and counts as full. Else prove '..UptoSaid'. A law counts once. -/
mutual
def uptoBulk {H : Type} : DataW H → Nat
  | .lit (.string bytes) => bytes.length + 1
  | .lit _ => 1
  | .nil => 1
  | .ptr d => uptoBulk d + 1
  | .slice elems spare => uptoBulkAll elems + uptoBulkAll spare + 1
  | .agg parts => uptoBulkAll parts + 1
  | .iface _ d => uptoBulk d + 1
  | .map entries => uptoBulkEntries entries + 1
  | .held _ => 1
def uptoBulkAll {H : Type} : List (DataW H) → Nat
  | [] => 0
  | d :: r => uptoBulk d + uptoBulkAll r
def uptoBulkEntries {H : Type} : List (Lit × DataW H) → Nat
  | [] => 0
  | x :: r => uptoBulkEntry x + uptoBulkEntries r
def uptoBulkEntry {H : Type} : Lit × DataW H → Nat
  | (.string bytes, d) => bytes.length + uptoBulk d + 1
  | (_, d) => uptoBulk d + 1
 end
def uptoSmall : (H : Type) → List (DataW H) → Bool := fun _ ds => decide (uptoBulkAll ds ≤ 1048576)
def OpenSpec.upto (s : _root_.Go.ChangeSpec) : _root_.Go.OpenSpec := { _root_.Go.OpenSpec.ofChange s with cond := some uptoSmall }

/-- 'glowwormlaw8.QosAll', WHERE WHAT IT READS IS OF BULK AT MOST 1048576: true; the input reads as it did. -/
def qosAllUptoRow : OpenClaim := { program := "ytbeimfhodgmjhaadoor", sum := "fe6da00abbe7226a459dab598c34b18965a3458ec3f6e47583f4b42250489a02", func := "glowworm/glowwormlaw8.QosAll", spec := "qosAll", named := ["math/bits.deBruijn32tab", "unicode/utf8.first", "unicode/utf8.acceptRanges"], apart := false, laid := [("math/bits.deBruijn32tab", laid_math_bits_deBruijn32tab), ("unicode/utf8.acceptRanges", laid_unicode_utf8_acceptRanges), ("unicode/utf8.first", laid_unicode_utf8_first)], narrowed := true }
def QosAllUptoSaid : Prop := qosAllUptoRow.holds Tryd.pinned (OpenSpec.upto qosAllSpec)

/-- 'glowwormlaw8.QosMore', WHERE WHAT IT READS IS OF BULK AT MOST 1048576: true; the input reads as it did. -/
def qosMoreUptoRow : OpenClaim := { program := "ytbeimfhodgmjhaadoor", sum := "fe6da00abbe7226a459dab598c34b18965a3458ec3f6e47583f4b42250489a02", func := "glowworm/glowwormlaw8.QosMore", spec := "qosMore", named := ["math/bits.deBruijn32tab", "unicode/utf8.first", "unicode/utf8.acceptRanges"], apart := false, laid := [("math/bits.deBruijn32tab", laid_math_bits_deBruijn32tab), ("unicode/utf8.acceptRanges", laid_unicode_utf8_acceptRanges), ("unicode/utf8.first", laid_unicode_utf8_first)], narrowed := true }
def QosMoreUptoSaid : Prop := qosMoreUptoRow.holds Tryd.pinned (OpenSpec.upto qosMoreSpec)

/-- 'glowwormlaw8.MeetAll', WHERE WHAT IT READS IS OF BULK AT MOST 1048576: true; the input reads as it did. -/
def meetAllUptoRow : OpenClaim := { program := "ytbeimfhodgmjhaadoor", sum := "fe6da00abbe7226a459dab598c34b18965a3458ec3f6e47583f4b42250489a02", func := "glowworm/glowwormlaw8.MeetAll", spec := "meetAll", named := ["math/bits.deBruijn32tab", "unicode/utf8.first", "unicode/utf8.acceptRanges"], apart := false, laid := [("math/bits.deBruijn32tab", laid_math_bits_deBruijn32tab), ("unicode/utf8.acceptRanges", laid_unicode_utf8_acceptRanges), ("unicode/utf8.first", laid_unicode_utf8_first)], narrowed := true }
def MeetAllUptoSaid : Prop := meetAllUptoRow.holds Tryd.pinned (OpenSpec.upto meetAllSpec)

/-- 'glowwormlaw8.MeetBoth', WHERE WHAT IT READS IS OF BULK AT MOST 1048576: true; the input reads as it did. -/
def meetBothUptoRow : OpenClaim := { program := "ytbeimfhodgmjhaadoor", sum := "fe6da00abbe7226a459dab598c34b18965a3458ec3f6e47583f4b42250489a02", func := "glowworm/glowwormlaw8.MeetBoth", spec := "meetBoth", named := ["math/bits.deBruijn32tab", "unicode/utf8.first", "unicode/utf8.acceptRanges"], apart := false, laid := [("math/bits.deBruijn32tab", laid_math_bits_deBruijn32tab), ("unicode/utf8.acceptRanges", laid_unicode_utf8_acceptRanges), ("unicode/utf8.first", laid_unicode_utf8_first)], narrowed := true }
def MeetBothUptoSaid : Prop := meetBothUptoRow.holds Tryd.pinned (OpenSpec.upto meetBothSpec)

/-- 'glowwormlaw8.XidAll', WHERE WHAT IT READS IS OF BULK AT MOST 1048576: true; the input reads as it did. -/
def xidAllUptoRow : OpenClaim := { program := "ytbeimfhodgmjhaadoor", sum := "fe6da00abbe7226a459dab598c34b18965a3458ec3f6e47583f4b42250489a02", func := "glowworm/glowwormlaw8.XidAll", spec := "xidAll", named := ["math/bits.deBruijn32tab", "unicode/utf8.first", "unicode/utf8.acceptRanges"], apart := false, laid := [("math/bits.deBruijn32tab", laid_math_bits_deBruijn32tab), ("unicode/utf8.acceptRanges", laid_unicode_utf8_acceptRanges), ("unicode/utf8.first", laid_unicode_utf8_first)], narrowed := true }
def XidAllUptoSaid : Prop := xidAllUptoRow.holds Tryd.pinned (OpenSpec.upto xidAllSpec)

/-- 'glowwormlaw8.SetupAll', WHERE WHAT IT READS IS OF BULK AT MOST 1048576: true; the input reads as it did. -/
def setupAllUptoRow : OpenClaim := { program := "ytbeimfhodgmjhaadoor", sum := "fe6da00abbe7226a459dab598c34b18965a3458ec3f6e47583f4b42250489a02", func := "glowworm/glowwormlaw8.SetupAll", spec := "setupAll", named := ["math/bits.deBruijn32tab", "unicode/utf8.first", "unicode/utf8.acceptRanges"], apart := false, laid := [("math/bits.deBruijn32tab", laid_math_bits_deBruijn32tab), ("unicode/utf8.acceptRanges", laid_unicode_utf8_acceptRanges), ("unicode/utf8.first", laid_unicode_utf8_first)], narrowed := true }
def SetupAllUptoSaid : Prop := setupAllUptoRow.holds Tryd.pinned (OpenSpec.upto setupAllSpec)

/-- 'glowwormlaw8.SetupNone', WHERE WHAT IT READS IS OF BULK AT MOST 1048576: true; the input reads as it did. -/
def setupNoneUptoRow : OpenClaim := { program := "ytbeimfhodgmjhaadoor", sum := "fe6da00abbe7226a459dab598c34b18965a3458ec3f6e47583f4b42250489a02", func := "glowworm/glowwormlaw8.SetupNone", spec := "setupNone", named := ["math/bits.deBruijn32tab", "unicode/utf8.first", "unicode/utf8.acceptRanges"], apart := false, laid := [("math/bits.deBruijn32tab", laid_math_bits_deBruijn32tab), ("unicode/utf8.acceptRanges", laid_unicode_utf8_acceptRanges), ("unicode/utf8.first", laid_unicode_utf8_first)], narrowed := true }
def SetupNoneUptoSaid : Prop := setupNoneUptoRow.holds Tryd.pinned (OpenSpec.upto setupNoneSpec)

/-- 'glowwormlaw8.QosTurn', WHERE WHAT IT READS IS OF BULK AT MOST 1048576: true; the input reads as it did. -/
def qosTurnUptoRow : OpenClaim := { program := "ytbeimfhodgmjhaadoor", sum := "fe6da00abbe7226a459dab598c34b18965a3458ec3f6e47583f4b42250489a02", func := "glowworm/glowwormlaw8.QosTurn", spec := "qosTurn", named := ["math/bits.deBruijn32tab", "unicode/utf8.first", "unicode/utf8.acceptRanges"], apart := false, laid := [("math/bits.deBruijn32tab", laid_math_bits_deBruijn32tab), ("unicode/utf8.acceptRanges", laid_unicode_utf8_acceptRanges), ("unicode/utf8.first", laid_unicode_utf8_first)], narrowed := true }
def QosTurnUptoSaid : Prop := qosTurnUptoRow.holds Tryd.pinned (OpenSpec.upto qosTurnSpec)

/-- 'glowwormlaw8.QosBits', WHERE WHAT IT READS IS OF BULK AT MOST 1048576: true; the input reads as it did. -/
def qosBitsUptoRow : OpenClaim := { program := "ytbeimfhodgmjhaadoor", sum := "fe6da00abbe7226a459dab598c34b18965a3458ec3f6e47583f4b42250489a02", func := "glowworm/glowwormlaw8.QosBits", spec := "qosBits", named := ["math/bits.deBruijn32tab", "unicode/utf8.first", "unicode/utf8.acceptRanges"], apart := false, laid := [("math/bits.deBruijn32tab", laid_math_bits_deBruijn32tab), ("unicode/utf8.acceptRanges", laid_unicode_utf8_acceptRanges), ("unicode/utf8.first", laid_unicode_utf8_first)], narrowed := true }
def QosBitsUptoSaid : Prop := qosBitsUptoRow.holds Tryd.pinned (OpenSpec.upto qosBitsSpec)

/-- 'glowwormlaw8.QosTicks', WHERE WHAT IT READS IS OF BULK AT MOST 1048576: true; the input reads as it did. -/
def qosTicksUptoRow : OpenClaim := { program := "ytbeimfhodgmjhaadoor", sum := "fe6da00abbe7226a459dab598c34b18965a3458ec3f6e47583f4b42250489a02", func := "glowworm/glowwormlaw8.QosTicks", spec := "qosTicks", named := ["math/bits.deBruijn32tab", "unicode/utf8.first", "unicode/utf8.acceptRanges"], apart := false, laid := [("math/bits.deBruijn32tab", laid_math_bits_deBruijn32tab), ("unicode/utf8.acceptRanges", laid_unicode_utf8_acceptRanges), ("unicode/utf8.first", laid_unicode_utf8_first)], narrowed := true }
def QosTicksUptoSaid : Prop := qosTicksUptoRow.holds Tryd.pinned (OpenSpec.upto qosTicksSpec)

/-- 'glowwormlaw8.MeetBest', WHERE WHAT IT READS IS OF BULK AT MOST 1048576: true; the input reads as it did. -/
def meetBestUptoRow : OpenClaim := { program := "ytbeimfhodgmjhaadoor", sum := "fe6da00abbe7226a459dab598c34b18965a3458ec3f6e47583f4b42250489a02", func := "glowworm/glowwormlaw8.MeetBest", spec := "meetBest", named := ["math/bits.deBruijn32tab", "unicode/utf8.first", "unicode/utf8.acceptRanges"], apart := false, laid := [("math/bits.deBruijn32tab", laid_math_bits_deBruijn32tab), ("unicode/utf8.acceptRanges", laid_unicode_utf8_acceptRanges), ("unicode/utf8.first", laid_unicode_utf8_first)], narrowed := true }
def MeetBestUptoSaid : Prop := meetBestUptoRow.holds Tryd.pinned (OpenSpec.upto meetBestSpec)

/-- 'glowwormlaw8.MeetMine', WHERE WHAT IT READS IS OF BULK AT MOST 1048576: true; the input reads as it did. -/
def meetMineUptoRow : OpenClaim := { program := "ytbeimfhodgmjhaadoor", sum := "fe6da00abbe7226a459dab598c34b18965a3458ec3f6e47583f4b42250489a02", func := "glowworm/glowwormlaw8.MeetMine", spec := "meetMine", named := ["math/bits.deBruijn32tab", "unicode/utf8.first", "unicode/utf8.acceptRanges"], apart := false, laid := [("math/bits.deBruijn32tab", laid_math_bits_deBruijn32tab), ("unicode/utf8.acceptRanges", laid_unicode_utf8_acceptRanges), ("unicode/utf8.first", laid_unicode_utf8_first)], narrowed := true }
def MeetMineUptoSaid : Prop := meetMineUptoRow.holds Tryd.pinned (OpenSpec.upto meetMineSpec)

/-- 'glowwormlaw8.XidTurn', WHERE WHAT IT READS IS OF BULK AT MOST 1048576: true; the input reads as it did. -/
def xidTurnUptoRow : OpenClaim := { program := "ytbeimfhodgmjhaadoor", sum := "fe6da00abbe7226a459dab598c34b18965a3458ec3f6e47583f4b42250489a02", func := "glowworm/glowwormlaw8.XidTurn", spec := "xidTurn", named := ["math/bits.deBruijn32tab", "unicode/utf8.first", "unicode/utf8.acceptRanges"], apart := false, laid := [("math/bits.deBruijn32tab", laid_math_bits_deBruijn32tab), ("unicode/utf8.acceptRanges", laid_unicode_utf8_acceptRanges), ("unicode/utf8.first", laid_unicode_utf8_first)], narrowed := true }
def XidTurnUptoSaid : Prop := xidTurnUptoRow.holds Tryd.pinned (OpenSpec.upto xidTurnSpec)

/-- 'glowwormlaw8.XidFresh', WHERE WHAT IT READS IS OF BULK AT MOST 1048576: true; the input reads as it did. -/
def xidFreshUptoRow : OpenClaim := { program := "ytbeimfhodgmjhaadoor", sum := "fe6da00abbe7226a459dab598c34b18965a3458ec3f6e47583f4b42250489a02", func := "glowworm/glowwormlaw8.XidFresh", spec := "xidFresh", named := ["math/bits.deBruijn32tab", "unicode/utf8.first", "unicode/utf8.acceptRanges"], apart := false, laid := [("math/bits.deBruijn32tab", laid_math_bits_deBruijn32tab), ("unicode/utf8.acceptRanges", laid_unicode_utf8_acceptRanges), ("unicode/utf8.first", laid_unicode_utf8_first)], narrowed := true }
def XidFreshUptoSaid : Prop := xidFreshUptoRow.holds Tryd.pinned (OpenSpec.upto xidFreshSpec)

/-- 'glowwormlaw8.SetupMore', WHERE WHAT IT READS IS OF BULK AT MOST 1048576: true; the input reads as it did. -/
def setupMoreUptoRow : OpenClaim := { program := "ytbeimfhodgmjhaadoor", sum := "fe6da00abbe7226a459dab598c34b18965a3458ec3f6e47583f4b42250489a02", func := "glowworm/glowwormlaw8.SetupMore", spec := "setupMore", named := ["math/bits.deBruijn32tab", "unicode/utf8.first", "unicode/utf8.acceptRanges"], apart := false, laid := [("math/bits.deBruijn32tab", laid_math_bits_deBruijn32tab), ("unicode/utf8.acceptRanges", laid_unicode_utf8_acceptRanges), ("unicode/utf8.first", laid_unicode_utf8_first)], narrowed := true }
def SetupMoreUptoSaid : Prop := setupMoreUptoRow.holds Tryd.pinned (OpenSpec.upto setupMoreSpec)

/-- 'glowwormlaw8.QosCut', WHERE WHAT IT READS IS OF BULK AT MOST 1048576: true; the input reads as it did. -/
def qosCutUptoRow : OpenClaim := { program := "ytbeimfhodgmjhaadoor", sum := "fe6da00abbe7226a459dab598c34b18965a3458ec3f6e47583f4b42250489a02", func := "glowworm/glowwormlaw8.QosCut", spec := "qosCut", named := ["math/bits.deBruijn32tab", "unicode/utf8.first", "unicode/utf8.acceptRanges"], apart := false, laid := [("math/bits.deBruijn32tab", laid_math_bits_deBruijn32tab), ("unicode/utf8.acceptRanges", laid_unicode_utf8_acceptRanges), ("unicode/utf8.first", laid_unicode_utf8_first)], narrowed := true }
def QosCutUptoSaid : Prop := qosCutUptoRow.holds Tryd.pinned (OpenSpec.upto qosCutSpec)

/-- 'glowwormlaw8.MeetLeast', WHERE WHAT IT READS IS OF BULK AT MOST 1048576: true; the input reads as it did. -/
def meetLeastUptoRow : OpenClaim := { program := "ytbeimfhodgmjhaadoor", sum := "fe6da00abbe7226a459dab598c34b18965a3458ec3f6e47583f4b42250489a02", func := "glowworm/glowwormlaw8.MeetLeast", spec := "meetLeast", named := ["math/bits.deBruijn32tab", "unicode/utf8.first", "unicode/utf8.acceptRanges"], apart := false, laid := [("math/bits.deBruijn32tab", laid_math_bits_deBruijn32tab), ("unicode/utf8.acceptRanges", laid_unicode_utf8_acceptRanges), ("unicode/utf8.first", laid_unicode_utf8_first)], narrowed := true }
def MeetLeastUptoSaid : Prop := meetLeastUptoRow.holds Tryd.pinned (OpenSpec.upto meetLeastSpec)

/-- 'glowwormlaw8.SetupUnlike', WHERE WHAT IT READS IS OF BULK AT MOST 1048576: true; the input reads as it did. -/
def setupUnlikeUptoRow : OpenClaim := { program := "ytbeimfhodgmjhaadoor", sum := "fe6da00abbe7226a459dab598c34b18965a3458ec3f6e47583f4b42250489a02", func := "glowworm/glowwormlaw8.SetupUnlike", spec := "setupUnlike", named := ["math/bits.deBruijn32tab", "unicode/utf8.first", "unicode/utf8.acceptRanges"], apart := false, laid := [("math/bits.deBruijn32tab", laid_math_bits_deBruijn32tab), ("unicode/utf8.acceptRanges", laid_unicode_utf8_acceptRanges), ("unicode/utf8.first", laid_unicode_utf8_first)], narrowed := true }
def SetupUnlikeUptoSaid : Prop := setupUnlikeUptoRow.holds Tryd.pinned (OpenSpec.upto setupUnlikeSpec)

end Rows
end Go.Proofs.YtbeimfhodgmjhaaDoor
