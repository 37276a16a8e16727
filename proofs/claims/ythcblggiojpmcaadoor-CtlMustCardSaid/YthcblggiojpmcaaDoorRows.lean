/-
  NARROWER THAN 'FOR EVERY INPUT', by the rows' own cells (each row's printed sentence says how): NickAll: laid · NickLaws: laid · CtlAll: laid · FrameAll: laid · FrameAny: laid · TupleAll: laid · FrameNone: laid · NickJoin: laid · NickRune: laid · NickBroken: laid · CtlBytes: laid · CtlCount: laid · FrameTurn: laid · FrameBody: laid · TupleJoin: laid · TupleCut: laid · CtlMust: laid.
  DERIVED. THE GIVEN ROWS OF THIS SEAT. 17 by the template 'for every input the law returns true; each argument reads behind the call as it read before'; 0 by the template 'total and deterministic' (their statements: YthcblggiojpmcaaDoorTotals.lean).
  GIVEN WITH THE SEED: the statements are not yours to turn. If you find one false, say at which input.
  Laid BY PROGRAM, IN A SANDBOX (cutbox-rows.mjs): the forced cells as the released guide's own fill.sh prints them over the translation 6db1483828777cc2… (all of the seat's roots in one cut). By AI agents, Wed Nov 11 2026. No macro, syntax, notation, axiom, sorry.
-/
import Derived.Test.YthcblggiojpmcaaDoorChecked
import GoSem.PinnedTables
import GoSem.Claim
import GoSem.ClaimJoined
import GoSem.ClaimMapViews
import Derived.JoinedTies
import Derived.KernelRfl
namespace Go.Proofs.YthcblggiojpmcaaDoor
/- THE CELL 'sum', in the pinned program and in every row, IS THE sha256 OF THE DUMP (.gsa) THAT YthcblggiojpmcaaDoorProg.lean LOADS. Nothing in Lean hashes anything: it is a label: what it is worth is what the hold of that sum in a sandbox is worth. -/
noncomputable def Tryd.pinned : Pinned := { name := "ythcblggiojpmcaadoor", sum := "6db1483828777cc2816c1368ca5a84af2cc329224e4757443fc53e2350dfda4c", checked := Tryd.checked }
namespace Rows
def none {H : Type} : Left H := { results := [], args := [] }

/- WHAT THE LISTED PACKAGE-LEVEL VARIABLES READ AS WHEN THE CALL BEGINS. Each datum BY PROGRAM (the guide's laid-datum.mjs) off the statement by which the dump's own 'gosem.cut.vars' lays the variable. In a bare row this is a premise. The card (YthcblggiojpmcaaDoorCards.lean) ties it to the program's text. -/
def laid_unicode_utf8_acceptRanges {H : Type} : DataW H := .agg [.agg [.lit (.int .u8 128), .lit (.int .u8 191)], .agg [.lit (.int .u8 160), .lit (.int .u8 191)], .agg [.lit (.int .u8 128), .lit (.int .u8 159)], .agg [.lit (.int .u8 144), .lit (.int .u8 191)], .agg [.lit (.int .u8 128), .lit (.int .u8 143)], .agg [.lit (.int .u8 0), .lit (.int .u8 0)], .agg [.lit (.int .u8 0), .lit (.int .u8 0)], .agg [.lit (.int .u8 0), .lit (.int .u8 0)], .agg [.lit (.int .u8 0), .lit (.int .u8 0)], .agg [.lit (.int .u8 0), .lit (.int .u8 0)], .agg [.lit (.int .u8 0), .lit (.int .u8 0)], .agg [.lit (.int .u8 0), .lit (.int .u8 0)], .agg [.lit (.int .u8 0), .lit (.int .u8 0)], .agg [.lit (.int .u8 0), .lit (.int .u8 0)], .agg [.lit (.int .u8 0), .lit (.int .u8 0)], .agg [.lit (.int .u8 0), .lit (.int .u8 0)]]
/-- One of Go's own tables, pinned by name: the form's constant. -/
def laid_unicode_utf8_first : DataW Unit := Go.Pinned.utf8First

/-- 'glowwormlaw4.NickAll': WHATEVER THE INPUT: true; the input reads as it did. -/
def nickAllSpec : ChangeSpec := { name := "nickAll", fn := fun _ => fun
  | [d1, d2, d3] => { results := [.lit (.bool true)], args := [d1, d2, d3] }
  | _ => none }
def nickAllRow : OpenClaim := { program := "ythcblggiojpmcaadoor", sum := "6db1483828777cc2816c1368ca5a84af2cc329224e4757443fc53e2350dfda4c", func := "glowworm/glowwormlaw4.NickAll", spec := "nickAll", named := ["unicode/utf8.first", "unicode/utf8.acceptRanges"], apart := false, laid := [("unicode/utf8.acceptRanges", laid_unicode_utf8_acceptRanges), ("unicode/utf8.first", laid_unicode_utf8_first)] }
def NickAllSaid : Prop := nickAllRow.holds Tryd.pinned (OpenSpec.ofChange nickAllSpec)

/-- ITS FALSE NEIGHBOUR: 'it returns false'. Refute it at one input. -/
def nickAllWrong : ChangeSpec := { name := "nickAll", fn := fun _ => fun
  | [d1, d2, d3] => { results := [.lit (.bool false)], args := [d1, d2, d3] }
  | _ => none }
def NickAllWrongFalsely : Prop := nickAllRow.holds Tryd.pinned (OpenSpec.ofChange nickAllWrong)

/-- 'glowwormlaw4.NickLaws': WHATEVER THE INPUT: true; the input reads as it did. -/
def nickLawsSpec : ChangeSpec := { name := "nickLaws", fn := fun _ => fun
  | [d1, d2, d3] => { results := [.lit (.bool true)], args := [d1, d2, d3] }
  | _ => none }
def nickLawsRow : OpenClaim := { program := "ythcblggiojpmcaadoor", sum := "6db1483828777cc2816c1368ca5a84af2cc329224e4757443fc53e2350dfda4c", func := "glowworm/glowwormlaw4.NickLaws", spec := "nickLaws", named := ["unicode/utf8.first", "unicode/utf8.acceptRanges"], apart := false, laid := [("unicode/utf8.acceptRanges", laid_unicode_utf8_acceptRanges), ("unicode/utf8.first", laid_unicode_utf8_first)] }
def NickLawsSaid : Prop := nickLawsRow.holds Tryd.pinned (OpenSpec.ofChange nickLawsSpec)

/-- ITS FALSE NEIGHBOUR: 'it returns false'. Refute it at one input. -/
def nickLawsWrong : ChangeSpec := { name := "nickLaws", fn := fun _ => fun
  | [d1, d2, d3] => { results := [.lit (.bool false)], args := [d1, d2, d3] }
  | _ => none }
def NickLawsWrongFalsely : Prop := nickLawsRow.holds Tryd.pinned (OpenSpec.ofChange nickLawsWrong)

/-- 'glowwormlaw4.CtlAll': WHATEVER THE INPUT: true; the input reads as it did. -/
def ctlAllSpec : ChangeSpec := { name := "ctlAll", fn := fun _ => fun
  | [d1, d2] => { results := [.lit (.bool true)], args := [d1, d2] }
  | _ => none }
def ctlAllRow : OpenClaim := { program := "ythcblggiojpmcaadoor", sum := "6db1483828777cc2816c1368ca5a84af2cc329224e4757443fc53e2350dfda4c", func := "glowworm/glowwormlaw4.CtlAll", spec := "ctlAll", named := ["unicode/utf8.first", "unicode/utf8.acceptRanges"], apart := false, laid := [("unicode/utf8.acceptRanges", laid_unicode_utf8_acceptRanges), ("unicode/utf8.first", laid_unicode_utf8_first)] }
def CtlAllSaid : Prop := ctlAllRow.holds Tryd.pinned (OpenSpec.ofChange ctlAllSpec)

/-- ITS FALSE NEIGHBOUR: 'it returns false'. Refute it at one input. -/
def ctlAllWrong : ChangeSpec := { name := "ctlAll", fn := fun _ => fun
  | [d1, d2] => { results := [.lit (.bool false)], args := [d1, d2] }
  | _ => none }
def CtlAllWrongFalsely : Prop := ctlAllRow.holds Tryd.pinned (OpenSpec.ofChange ctlAllWrong)

/-- 'glowwormlaw4.FrameAll': WHATEVER THE INPUT: true; the input reads as it did. -/
def frameAllSpec : ChangeSpec := { name := "frameAll", fn := fun _ => fun
  | [d1, d2] => { results := [.lit (.bool true)], args := [d1, d2] }
  | _ => none }
def frameAllRow : OpenClaim := { program := "ythcblggiojpmcaadoor", sum := "6db1483828777cc2816c1368ca5a84af2cc329224e4757443fc53e2350dfda4c", func := "glowworm/glowwormlaw4.FrameAll", spec := "frameAll", named := ["unicode/utf8.first", "unicode/utf8.acceptRanges"], apart := false, laid := [("unicode/utf8.acceptRanges", laid_unicode_utf8_acceptRanges), ("unicode/utf8.first", laid_unicode_utf8_first)] }
def FrameAllSaid : Prop := frameAllRow.holds Tryd.pinned (OpenSpec.ofChange frameAllSpec)

/-- ITS FALSE NEIGHBOUR: 'it returns false'. Refute it at one input. -/
def frameAllWrong : ChangeSpec := { name := "frameAll", fn := fun _ => fun
  | [d1, d2] => { results := [.lit (.bool false)], args := [d1, d2] }
  | _ => none }
def FrameAllWrongFalsely : Prop := frameAllRow.holds Tryd.pinned (OpenSpec.ofChange frameAllWrong)

/-- 'glowwormlaw4.FrameAny': WHATEVER THE INPUT: true; the input reads as it did. -/
def frameAnySpec : ChangeSpec := { name := "frameAny", fn := fun _ => fun
  | [d1, d2] => { results := [.lit (.bool true)], args := [d1, d2] }
  | _ => none }
def frameAnyRow : OpenClaim := { program := "ythcblggiojpmcaadoor", sum := "6db1483828777cc2816c1368ca5a84af2cc329224e4757443fc53e2350dfda4c", func := "glowworm/glowwormlaw4.FrameAny", spec := "frameAny", named := ["unicode/utf8.first", "unicode/utf8.acceptRanges"], apart := false, laid := [("unicode/utf8.acceptRanges", laid_unicode_utf8_acceptRanges), ("unicode/utf8.first", laid_unicode_utf8_first)] }
def FrameAnySaid : Prop := frameAnyRow.holds Tryd.pinned (OpenSpec.ofChange frameAnySpec)

/-- ITS FALSE NEIGHBOUR: 'it returns false'. Refute it at one input. -/
def frameAnyWrong : ChangeSpec := { name := "frameAny", fn := fun _ => fun
  | [d1, d2] => { results := [.lit (.bool false)], args := [d1, d2] }
  | _ => none }
def FrameAnyWrongFalsely : Prop := frameAnyRow.holds Tryd.pinned (OpenSpec.ofChange frameAnyWrong)

/-- 'glowwormlaw4.TupleAll': WHATEVER THE INPUT: true; the input reads as it did. -/
def tupleAllSpec : ChangeSpec := { name := "tupleAll", fn := fun _ => fun
  | [d1, d2, d3] => { results := [.lit (.bool true)], args := [d1, d2, d3] }
  | _ => none }
def tupleAllRow : OpenClaim := { program := "ythcblggiojpmcaadoor", sum := "6db1483828777cc2816c1368ca5a84af2cc329224e4757443fc53e2350dfda4c", func := "glowworm/glowwormlaw4.TupleAll", spec := "tupleAll", named := ["unicode/utf8.first", "unicode/utf8.acceptRanges"], apart := false, laid := [("unicode/utf8.acceptRanges", laid_unicode_utf8_acceptRanges), ("unicode/utf8.first", laid_unicode_utf8_first)] }
def TupleAllSaid : Prop := tupleAllRow.holds Tryd.pinned (OpenSpec.ofChange tupleAllSpec)

/-- ITS FALSE NEIGHBOUR: 'it returns false'. Refute it at one input. -/
def tupleAllWrong : ChangeSpec := { name := "tupleAll", fn := fun _ => fun
  | [d1, d2, d3] => { results := [.lit (.bool false)], args := [d1, d2, d3] }
  | _ => none }
def TupleAllWrongFalsely : Prop := tupleAllRow.holds Tryd.pinned (OpenSpec.ofChange tupleAllWrong)

/-- 'glowwormlaw4.FrameNone': WHATEVER THE INPUT: true; the input reads as it did. -/
def frameNoneSpec : ChangeSpec := { name := "frameNone", fn := fun _ => fun
  | [] => { results := [.lit (.bool true)], args := [] }
  | _ => none }
def frameNoneRow : OpenClaim := { program := "ythcblggiojpmcaadoor", sum := "6db1483828777cc2816c1368ca5a84af2cc329224e4757443fc53e2350dfda4c", func := "glowworm/glowwormlaw4.FrameNone", spec := "frameNone", named := ["unicode/utf8.first", "unicode/utf8.acceptRanges"], apart := false, laid := [("unicode/utf8.acceptRanges", laid_unicode_utf8_acceptRanges), ("unicode/utf8.first", laid_unicode_utf8_first)] }
def FrameNoneSaid : Prop := frameNoneRow.holds Tryd.pinned (OpenSpec.ofChange frameNoneSpec)

/-- ITS FALSE NEIGHBOUR: 'it returns false'. Refute it at one input. -/
def frameNoneWrong : ChangeSpec := { name := "frameNone", fn := fun _ => fun
  | [] => { results := [.lit (.bool false)], args := [] }
  | _ => none }
def FrameNoneWrongFalsely : Prop := frameNoneRow.holds Tryd.pinned (OpenSpec.ofChange frameNoneWrong)

/-- 'glowwormlaw4.NickJoin': WHATEVER THE INPUT: true; the input reads as it did. -/
def nickJoinSpec : ChangeSpec := { name := "nickJoin", fn := fun _ => fun
  | [d1, d2] => { results := [.lit (.bool true)], args := [d1, d2] }
  | _ => none }
def nickJoinRow : OpenClaim := { program := "ythcblggiojpmcaadoor", sum := "6db1483828777cc2816c1368ca5a84af2cc329224e4757443fc53e2350dfda4c", func := "glowworm/glowwormlaw4.NickJoin", spec := "nickJoin", named := ["unicode/utf8.first", "unicode/utf8.acceptRanges"], apart := false, laid := [("unicode/utf8.acceptRanges", laid_unicode_utf8_acceptRanges), ("unicode/utf8.first", laid_unicode_utf8_first)] }
def NickJoinSaid : Prop := nickJoinRow.holds Tryd.pinned (OpenSpec.ofChange nickJoinSpec)

/-- ITS FALSE NEIGHBOUR: 'it returns false'. Refute it at one input. -/
def nickJoinWrong : ChangeSpec := { name := "nickJoin", fn := fun _ => fun
  | [d1, d2] => { results := [.lit (.bool false)], args := [d1, d2] }
  | _ => none }
def NickJoinWrongFalsely : Prop := nickJoinRow.holds Tryd.pinned (OpenSpec.ofChange nickJoinWrong)

/-- 'glowwormlaw4.NickRune': WHATEVER THE INPUT: true; the input reads as it did. -/
def nickRuneSpec : ChangeSpec := { name := "nickRune", fn := fun _ => fun
  | [d] => { results := [.lit (.bool true)], args := [d] }
  | _ => none }
def nickRuneRow : OpenClaim := { program := "ythcblggiojpmcaadoor", sum := "6db1483828777cc2816c1368ca5a84af2cc329224e4757443fc53e2350dfda4c", func := "glowworm/glowwormlaw4.NickRune", spec := "nickRune", named := ["unicode/utf8.first", "unicode/utf8.acceptRanges"], apart := false, laid := [("unicode/utf8.acceptRanges", laid_unicode_utf8_acceptRanges), ("unicode/utf8.first", laid_unicode_utf8_first)] }
def NickRuneSaid : Prop := nickRuneRow.holds Tryd.pinned (OpenSpec.ofChange nickRuneSpec)

/-- ITS FALSE NEIGHBOUR: 'it returns false'. Refute it at one input. -/
def nickRuneWrong : ChangeSpec := { name := "nickRune", fn := fun _ => fun
  | [d] => { results := [.lit (.bool false)], args := [d] }
  | _ => none }
def NickRuneWrongFalsely : Prop := nickRuneRow.holds Tryd.pinned (OpenSpec.ofChange nickRuneWrong)

/-- 'glowwormlaw4.NickBroken': WHATEVER THE INPUT: true; the input reads as it did. -/
def nickBrokenSpec : ChangeSpec := { name := "nickBroken", fn := fun _ => fun
  | [d1, d2] => { results := [.lit (.bool true)], args := [d1, d2] }
  | _ => none }
def nickBrokenRow : OpenClaim := { program := "ythcblggiojpmcaadoor", sum := "6db1483828777cc2816c1368ca5a84af2cc329224e4757443fc53e2350dfda4c", func := "glowworm/glowwormlaw4.NickBroken", spec := "nickBroken", named := ["unicode/utf8.first", "unicode/utf8.acceptRanges"], apart := false, laid := [("unicode/utf8.acceptRanges", laid_unicode_utf8_acceptRanges), ("unicode/utf8.first", laid_unicode_utf8_first)] }
def NickBrokenSaid : Prop := nickBrokenRow.holds Tryd.pinned (OpenSpec.ofChange nickBrokenSpec)

/-- ITS FALSE NEIGHBOUR: 'it returns false'. Refute it at one input. -/
def nickBrokenWrong : ChangeSpec := { name := "nickBroken", fn := fun _ => fun
  | [d1, d2] => { results := [.lit (.bool false)], args := [d1, d2] }
  | _ => none }
def NickBrokenWrongFalsely : Prop := nickBrokenRow.holds Tryd.pinned (OpenSpec.ofChange nickBrokenWrong)

/-- 'glowwormlaw4.CtlBytes': WHATEVER THE INPUT: true; the input reads as it did. -/
def ctlBytesSpec : ChangeSpec := { name := "ctlBytes", fn := fun _ => fun
  | [d1, d2] => { results := [.lit (.bool true)], args := [d1, d2] }
  | _ => none }
def ctlBytesRow : OpenClaim := { program := "ythcblggiojpmcaadoor", sum := "6db1483828777cc2816c1368ca5a84af2cc329224e4757443fc53e2350dfda4c", func := "glowworm/glowwormlaw4.CtlBytes", spec := "ctlBytes", named := ["unicode/utf8.first", "unicode/utf8.acceptRanges"], apart := false, laid := [("unicode/utf8.acceptRanges", laid_unicode_utf8_acceptRanges), ("unicode/utf8.first", laid_unicode_utf8_first)] }
def CtlBytesSaid : Prop := ctlBytesRow.holds Tryd.pinned (OpenSpec.ofChange ctlBytesSpec)

/-- ITS FALSE NEIGHBOUR: 'it returns false'. Refute it at one input. -/
def ctlBytesWrong : ChangeSpec := { name := "ctlBytes", fn := fun _ => fun
  | [d1, d2] => { results := [.lit (.bool false)], args := [d1, d2] }
  | _ => none }
def CtlBytesWrongFalsely : Prop := ctlBytesRow.holds Tryd.pinned (OpenSpec.ofChange ctlBytesWrong)

/-- 'glowwormlaw4.CtlCount': WHATEVER THE INPUT: true; the input reads as it did. -/
def ctlCountSpec : ChangeSpec := { name := "ctlCount", fn := fun _ => fun
  | [] => { results := [.lit (.bool true)], args := [] }
  | _ => none }
def ctlCountRow : OpenClaim := { program := "ythcblggiojpmcaadoor", sum := "6db1483828777cc2816c1368ca5a84af2cc329224e4757443fc53e2350dfda4c", func := "glowworm/glowwormlaw4.CtlCount", spec := "ctlCount", named := ["unicode/utf8.first", "unicode/utf8.acceptRanges"], apart := false, laid := [("unicode/utf8.acceptRanges", laid_unicode_utf8_acceptRanges), ("unicode/utf8.first", laid_unicode_utf8_first)] }
def CtlCountSaid : Prop := ctlCountRow.holds Tryd.pinned (OpenSpec.ofChange ctlCountSpec)

/-- ITS FALSE NEIGHBOUR: 'it returns false'. Refute it at one input. -/
def ctlCountWrong : ChangeSpec := { name := "ctlCount", fn := fun _ => fun
  | [] => { results := [.lit (.bool false)], args := [] }
  | _ => none }
def CtlCountWrongFalsely : Prop := ctlCountRow.holds Tryd.pinned (OpenSpec.ofChange ctlCountWrong)

/-- 'glowwormlaw4.FrameTurn': WHATEVER THE INPUT: true; the input reads as it did. -/
def frameTurnSpec : ChangeSpec := { name := "frameTurn", fn := fun _ => fun
  | [d1, d2, d3, d4] => { results := [.lit (.bool true)], args := [d1, d2, d3, d4] }
  | _ => none }
def frameTurnRow : OpenClaim := { program := "ythcblggiojpmcaadoor", sum := "6db1483828777cc2816c1368ca5a84af2cc329224e4757443fc53e2350dfda4c", func := "glowworm/glowwormlaw4.FrameTurn", spec := "frameTurn", named := ["unicode/utf8.first", "unicode/utf8.acceptRanges"], apart := false, laid := [("unicode/utf8.acceptRanges", laid_unicode_utf8_acceptRanges), ("unicode/utf8.first", laid_unicode_utf8_first)] }
def FrameTurnSaid : Prop := frameTurnRow.holds Tryd.pinned (OpenSpec.ofChange frameTurnSpec)

/-- ITS FALSE NEIGHBOUR: 'it returns false'. Refute it at one input. -/
def frameTurnWrong : ChangeSpec := { name := "frameTurn", fn := fun _ => fun
  | [d1, d2, d3, d4] => { results := [.lit (.bool false)], args := [d1, d2, d3, d4] }
  | _ => none }
def FrameTurnWrongFalsely : Prop := frameTurnRow.holds Tryd.pinned (OpenSpec.ofChange frameTurnWrong)

/-- 'glowwormlaw4.FrameBody': WHATEVER THE INPUT: true; the input reads as it did. -/
def frameBodySpec : ChangeSpec := { name := "frameBody", fn := fun _ => fun
  | [d1, d2] => { results := [.lit (.bool true)], args := [d1, d2] }
  | _ => none }
def frameBodyRow : OpenClaim := { program := "ythcblggiojpmcaadoor", sum := "6db1483828777cc2816c1368ca5a84af2cc329224e4757443fc53e2350dfda4c", func := "glowworm/glowwormlaw4.FrameBody", spec := "frameBody", named := ["unicode/utf8.first", "unicode/utf8.acceptRanges"], apart := false, laid := [("unicode/utf8.acceptRanges", laid_unicode_utf8_acceptRanges), ("unicode/utf8.first", laid_unicode_utf8_first)] }
def FrameBodySaid : Prop := frameBodyRow.holds Tryd.pinned (OpenSpec.ofChange frameBodySpec)

/-- ITS FALSE NEIGHBOUR: 'it returns false'. Refute it at one input. -/
def frameBodyWrong : ChangeSpec := { name := "frameBody", fn := fun _ => fun
  | [d1, d2] => { results := [.lit (.bool false)], args := [d1, d2] }
  | _ => none }
def FrameBodyWrongFalsely : Prop := frameBodyRow.holds Tryd.pinned (OpenSpec.ofChange frameBodyWrong)

/-- 'glowwormlaw4.TupleJoin': WHATEVER THE INPUT: true; the input reads as it did. -/
def tupleJoinSpec : ChangeSpec := { name := "tupleJoin", fn := fun _ => fun
  | [d1, d2] => { results := [.lit (.bool true)], args := [d1, d2] }
  | _ => none }
def tupleJoinRow : OpenClaim := { program := "ythcblggiojpmcaadoor", sum := "6db1483828777cc2816c1368ca5a84af2cc329224e4757443fc53e2350dfda4c", func := "glowworm/glowwormlaw4.TupleJoin", spec := "tupleJoin", named := ["unicode/utf8.first", "unicode/utf8.acceptRanges"], apart := false, laid := [("unicode/utf8.acceptRanges", laid_unicode_utf8_acceptRanges), ("unicode/utf8.first", laid_unicode_utf8_first)] }
def TupleJoinSaid : Prop := tupleJoinRow.holds Tryd.pinned (OpenSpec.ofChange tupleJoinSpec)

/-- ITS FALSE NEIGHBOUR: 'it returns false'. Refute it at one input. -/
def tupleJoinWrong : ChangeSpec := { name := "tupleJoin", fn := fun _ => fun
  | [d1, d2] => { results := [.lit (.bool false)], args := [d1, d2] }
  | _ => none }
def TupleJoinWrongFalsely : Prop := tupleJoinRow.holds Tryd.pinned (OpenSpec.ofChange tupleJoinWrong)

/-- 'glowwormlaw4.TupleCut': WHATEVER THE INPUT: true; the input reads as it did. -/
def tupleCutSpec : ChangeSpec := { name := "tupleCut", fn := fun _ => fun
  | [d1, d2] => { results := [.lit (.bool true)], args := [d1, d2] }
  | _ => none }
def tupleCutRow : OpenClaim := { program := "ythcblggiojpmcaadoor", sum := "6db1483828777cc2816c1368ca5a84af2cc329224e4757443fc53e2350dfda4c", func := "glowworm/glowwormlaw4.TupleCut", spec := "tupleCut", named := ["unicode/utf8.first", "unicode/utf8.acceptRanges"], apart := false, laid := [("unicode/utf8.acceptRanges", laid_unicode_utf8_acceptRanges), ("unicode/utf8.first", laid_unicode_utf8_first)] }
def TupleCutSaid : Prop := tupleCutRow.holds Tryd.pinned (OpenSpec.ofChange tupleCutSpec)

/-- ITS FALSE NEIGHBOUR: 'it returns false'. Refute it at one input. -/
def tupleCutWrong : ChangeSpec := { name := "tupleCut", fn := fun _ => fun
  | [d1, d2] => { results := [.lit (.bool false)], args := [d1, d2] }
  | _ => none }
def TupleCutWrongFalsely : Prop := tupleCutRow.holds Tryd.pinned (OpenSpec.ofChange tupleCutWrong)

/-- 'glowwormlaw4.CtlMust': WHATEVER THE INPUT: true; the input reads as it did. -/
def ctlMustSpec : ChangeSpec := { name := "ctlMust", fn := fun _ => fun
  | [d] => { results := [.lit (.bool true)], args := [d] }
  | _ => none }
def ctlMustRow : OpenClaim := { program := "ythcblggiojpmcaadoor", sum := "6db1483828777cc2816c1368ca5a84af2cc329224e4757443fc53e2350dfda4c", func := "glowworm/glowwormlaw4.CtlMust", spec := "ctlMust", unfollowed := true, recurses := true, named := ["unicode/utf8.first", "unicode/utf8.acceptRanges"], apart := false, laid := [("unicode/utf8.acceptRanges", laid_unicode_utf8_acceptRanges), ("unicode/utf8.first", laid_unicode_utf8_first)] }
def CtlMustSaid : Prop := ctlMustRow.holds Tryd.pinned (OpenSpec.ofChange ctlMustSpec)

/-- ITS FALSE NEIGHBOUR: 'it returns false'. Refute it at one input. -/
def ctlMustWrong : ChangeSpec := { name := "ctlMust", fn := fun _ => fun
  | [d] => { results := [.lit (.bool false)], args := [d] }
  | _ => none }
def CtlMustWrongFalsely : Prop := ctlMustRow.holds Tryd.pinned (OpenSpec.ofChange ctlMustWrong)

/- THE SECOND FORM. 'bulk': how many values and letters a reading holds, each counted each time it is reached (what is shared counts as often as it is met; a slice's spare places count too). A statement '..UptoSaid' is the law's where the arguments, and the package variables that the reading takes, are together of bulk at most 1048576: NARROWER than '..Said'. Prove '..Said' where nothing that the law and all that it calls make is longer than what came in: it says more and counts as full. Else prove '..UptoSaid'. A law counts once. -/
mutual
def uptoBulk {H : Type} : DataW H → Nat
  | .lit (.string bytes) => bytes.length + 1
  | .lit _ => 1
  | .nil => 1
  | .ptr d => uptoBulk d + 1
  | .slice elems spare => uptoBulkAll elems + uptoBulkAll spare + 1
  | .agg parts => uptoBulkAll parts + 1
  | .iface _ d => uptoBulk d + 1
  | .map entries => uptoBulkEntries entries + 1
  | .held _ => 1
def uptoBulkAll {H : Type} : List (DataW H) → Nat
  | [] => 0
  | d :: r => uptoBulk d + uptoBulkAll r
def uptoBulkEntries {H : Type} : List (Lit × DataW H) → Nat
  | [] => 0
  | x :: r => uptoBulkEntry x + uptoBulkEntries r
def uptoBulkEntry {H : Type} : Lit × DataW H → Nat
  | (.string bytes, d) => bytes.length + uptoBulk d + 1
  | (_, d) => uptoBulk d + 1
 end
def uptoSmall : (H : Type) → List (DataW H) → Bool := fun _ ds => decide (uptoBulkAll ds ≤ 1048576)
def OpenSpec.upto (s : _root_.Go.ChangeSpec) : _root_.Go.OpenSpec := { _root_.Go.OpenSpec.ofChange s with cond := some uptoSmall }

/-- 'glowwormlaw4.NickAll', WHERE WHAT IT READS IS OF BULK AT MOST 1048576: true; the input reads as it did. -/
def nickAllUptoRow : OpenClaim := { program := "ythcblggiojpmcaadoor", sum := "6db1483828777cc2816c1368ca5a84af2cc329224e4757443fc53e2350dfda4c", func := "glowworm/glowwormlaw4.NickAll", spec := "nickAll", named := ["unicode/utf8.first", "unicode/utf8.acceptRanges"], apart := false, laid := [("unicode/utf8.acceptRanges", laid_unicode_utf8_acceptRanges), ("unicode/utf8.first", laid_unicode_utf8_first)], narrowed := true }
def NickAllUptoSaid : Prop := nickAllUptoRow.holds Tryd.pinned (OpenSpec.upto nickAllSpec)

/-- 'glowwormlaw4.NickLaws', WHERE WHAT IT READS IS OF BULK AT MOST 1048576: true; the input reads as it did. -/
def nickLawsUptoRow : OpenClaim := { program := "ythcblggiojpmcaadoor", sum := "6db1483828777cc2816c1368ca5a84af2cc329224e4757443fc53e2350dfda4c", func := "glowworm/glowwormlaw4.NickLaws", spec := "nickLaws", named := ["unicode/utf8.first", "unicode/utf8.acceptRanges"], apart := false, laid := [("unicode/utf8.acceptRanges", laid_unicode_utf8_acceptRanges), ("unicode/utf8.first", laid_unicode_utf8_first)], narrowed := true }
def NickLawsUptoSaid : Prop := nickLawsUptoRow.holds Tryd.pinned (OpenSpec.upto nickLawsSpec)

/-- 'glowwormlaw4.CtlAll', WHERE WHAT IT READS IS OF BULK AT MOST 1048576: true; the input reads as it did. -/
def ctlAllUptoRow : OpenClaim := { program := "ythcblggiojpmcaadoor", sum := "6db1483828777cc2816c1368ca5a84af2cc329224e4757443fc53e2350dfda4c", func := "glowworm/glowwormlaw4.CtlAll", spec := "ctlAll", named := ["unicode/utf8.first", "unicode/utf8.acceptRanges"], apart := false, laid := [("unicode/utf8.acceptRanges", laid_unicode_utf8_acceptRanges), ("unicode/utf8.first", laid_unicode_utf8_first)], narrowed := true }
def CtlAllUptoSaid : Prop := ctlAllUptoRow.holds Tryd.pinned (OpenSpec.upto ctlAllSpec)

/-- 'glowwormlaw4.FrameAll', WHERE WHAT IT READS IS OF BULK AT MOST 1048576: true; the input reads as it did. -/
def frameAllUptoRow : OpenClaim := { program := "ythcblggiojpmcaadoor", sum := "6db1483828777cc2816c1368ca5a84af2cc329224e4757443fc53e2350dfda4c", func := "glowworm/glowwormlaw4.FrameAll", spec := "frameAll", named := ["unicode/utf8.first", "unicode/utf8.acceptRanges"], apart := false, laid := [("unicode/utf8.acceptRanges", laid_unicode_utf8_acceptRanges), ("unicode/utf8.first", laid_unicode_utf8_first)], narrowed := true }
def FrameAllUptoSaid : Prop := frameAllUptoRow.holds Tryd.pinned (OpenSpec.upto frameAllSpec)

/-- 'glowwormlaw4.FrameAny', WHERE WHAT IT READS IS OF BULK AT MOST 1048576: true; the input reads as it did. -/
def frameAnyUptoRow : OpenClaim := { program := "ythcblggiojpmcaadoor", sum := "6db1483828777cc2816c1368ca5a84af2cc329224e4757443fc53e2350dfda4c", func := "glowworm/glowwormlaw4.FrameAny", spec := "frameAny", named := ["unicode/utf8.first", "unicode/utf8.acceptRanges"], apart := false, laid := [("unicode/utf8.acceptRanges", laid_unicode_utf8_acceptRanges), ("unicode/utf8.first", laid_unicode_utf8_first)], narrowed := true }
def FrameAnyUptoSaid : Prop := frameAnyUptoRow.holds Tryd.pinned (OpenSpec.upto frameAnySpec)

/-- 'glowwormlaw4.TupleAll', WHERE WHAT IT READS IS OF BULK AT MOST 1048576: true; the input reads as it did. -/
def tupleAllUptoRow : OpenClaim := { program := "ythcblggiojpmcaadoor", sum := "6db1483828777cc2816c1368ca5a84af2cc329224e4757443fc53e2350dfda4c", func := "glowworm/glowwormlaw4.TupleAll", spec := "tupleAll", named := ["unicode/utf8.first", "unicode/utf8.acceptRanges"], apart := false, laid := [("unicode/utf8.acceptRanges", laid_unicode_utf8_acceptRanges), ("unicode/utf8.first", laid_unicode_utf8_first)], narrowed := true }
def TupleAllUptoSaid : Prop := tupleAllUptoRow.holds Tryd.pinned (OpenSpec.upto tupleAllSpec)

/-- 'glowwormlaw4.FrameNone', WHERE WHAT IT READS IS OF BULK AT MOST 1048576: true; the input reads as it did. -/
def frameNoneUptoRow : OpenClaim := { program := "ythcblggiojpmcaadoor", sum := "6db1483828777cc2816c1368ca5a84af2cc329224e4757443fc53e2350dfda4c", func := "glowworm/glowwormlaw4.FrameNone", spec := "frameNone", named := ["unicode/utf8.first", "unicode/utf8.acceptRanges"], apart := false, laid := [("unicode/utf8.acceptRanges", laid_unicode_utf8_acceptRanges), ("unicode/utf8.first", laid_unicode_utf8_first)], narrowed := true }
def FrameNoneUptoSaid : Prop := frameNoneUptoRow.holds Tryd.pinned (OpenSpec.upto frameNoneSpec)

/-- 'glowwormlaw4.NickJoin', WHERE WHAT IT READS IS OF BULK AT MOST 1048576: true; the input reads as it did. -/
def nickJoinUptoRow : OpenClaim := { program := "ythcblggiojpmcaadoor", sum := "6db1483828777cc2816c1368ca5a84af2cc329224e4757443fc53e2350dfda4c", func := "glowworm/glowwormlaw4.NickJoin", spec := "nickJoin", named := ["unicode/utf8.first", "unicode/utf8.acceptRanges"], apart := false, laid := [("unicode/utf8.acceptRanges", laid_unicode_utf8_acceptRanges), ("unicode/utf8.first", laid_unicode_utf8_first)], narrowed := true }
def NickJoinUptoSaid : Prop := nickJoinUptoRow.holds Tryd.pinned (OpenSpec.upto nickJoinSpec)

/-- 'glowwormlaw4.NickRune', WHERE WHAT IT READS IS OF BULK AT MOST 1048576: true; the input reads as it did. -/
def nickRuneUptoRow : OpenClaim := { program := "ythcblggiojpmcaadoor", sum := "6db1483828777cc2816c1368ca5a84af2cc329224e4757443fc53e2350dfda4c", func := "glowworm/glowwormlaw4.NickRune", spec := "nickRune", named := ["unicode/utf8.first", "unicode/utf8.acceptRanges"], apart := false, laid := [("unicode/utf8.acceptRanges", laid_unicode_utf8_acceptRanges), ("unicode/utf8.first", laid_unicode_utf8_first)], narrowed := true }
def NickRuneUptoSaid : Prop := nickRuneUptoRow.holds Tryd.pinned (OpenSpec.upto nickRuneSpec)

/-- 'glowwormlaw4.NickBroken', WHERE WHAT IT READS IS OF BULK AT MOST 1048576: true; the input reads as it did. -/
def nickBrokenUptoRow : OpenClaim := { program := "ythcblggiojpmcaadoor", sum := "6db1483828777cc2816c1368ca5a84af2cc329224e4757443fc53e2350dfda4c", func := "glowworm/glowwormlaw4.NickBroken", spec := "nickBroken", named := ["unicode/utf8.first", "unicode/utf8.acceptRanges"], apart := false, laid := [("unicode/utf8.acceptRanges", laid_unicode_utf8_acceptRanges), ("unicode/utf8.first", laid_unicode_utf8_first)], narrowed := true }
def NickBrokenUptoSaid : Prop := nickBrokenUptoRow.holds Tryd.pinned (OpenSpec.upto nickBrokenSpec)

/-- 'glowwormlaw4.CtlBytes', WHERE WHAT IT READS IS OF BULK AT MOST 1048576: true; the input reads as it did. -/
def ctlBytesUptoRow : OpenClaim := { program := "ythcblggiojpmcaadoor", sum := "6db1483828777cc2816c1368ca5a84af2cc329224e4757443fc53e2350dfda4c", func := "glowworm/glowwormlaw4.CtlBytes", spec := "ctlBytes", named := ["unicode/utf8.first", "unicode/utf8.acceptRanges"], apart := false, laid := [("unicode/utf8.acceptRanges", laid_unicode_utf8_acceptRanges), ("unicode/utf8.first", laid_unicode_utf8_first)], narrowed := true }
def CtlBytesUptoSaid : Prop := ctlBytesUptoRow.holds Tryd.pinned (OpenSpec.upto ctlBytesSpec)

/-- 'glowwormlaw4.CtlCount', WHERE WHAT IT READS IS OF BULK AT MOST 1048576: true; the input reads as it did. -/
def ctlCountUptoRow : OpenClaim := { program := "ythcblggiojpmcaadoor", sum := "6db1483828777cc2816c1368ca5a84af2cc329224e4757443fc53e2350dfda4c", func := "glowworm/glowwormlaw4.CtlCount", spec := "ctlCount", named := ["unicode/utf8.first", "unicode/utf8.acceptRanges"], apart := false, laid := [("unicode/utf8.acceptRanges", laid_unicode_utf8_acceptRanges), ("unicode/utf8.first", laid_unicode_utf8_first)], narrowed := true }
def CtlCountUptoSaid : Prop := ctlCountUptoRow.holds Tryd.pinned (OpenSpec.upto ctlCountSpec)

/-- 'glowwormlaw4.FrameTurn', WHERE WHAT IT READS IS OF BULK AT MOST 1048576: true; the input reads as it did. -/
def frameTurnUptoRow : OpenClaim := { program := "ythcblggiojpmcaadoor", sum := "6db1483828777cc2816c1368ca5a84af2cc329224e4757443fc53e2350dfda4c", func := "glowworm/glowwormlaw4.FrameTurn", spec := "frameTurn", named := ["unicode/utf8.first", "unicode/utf8.acceptRanges"], apart := false, laid := [("unicode/utf8.acceptRanges", laid_unicode_utf8_acceptRanges), ("unicode/utf8.first", laid_unicode_utf8_first)], narrowed := true }
def FrameTurnUptoSaid : Prop := frameTurnUptoRow.holds Tryd.pinned (OpenSpec.upto frameTurnSpec)

/-- 'glowwormlaw4.FrameBody', WHERE WHAT IT READS IS OF BULK AT MOST 1048576: true; the input reads as it did. -/
def frameBodyUptoRow : OpenClaim := { program := "ythcblggiojpmcaadoor", sum := "6db1483828777cc2816c1368ca5a84af2cc329224e4757443fc53e2350dfda4c", func := "glowworm/glowwormlaw4.FrameBody", spec := "frameBody", named := ["unicode/utf8.first", "unicode/utf8.acceptRanges"], apart := false, laid := [("unicode/utf8.acceptRanges", laid_unicode_utf8_acceptRanges), ("unicode/utf8.first", laid_unicode_utf8_first)], narrowed := true }
def FrameBodyUptoSaid : Prop := frameBodyUptoRow.holds Tryd.pinned (OpenSpec.upto frameBodySpec)

/-- 'glowwormlaw4.TupleJoin', WHERE WHAT IT READS IS OF BULK AT MOST 1048576: true; the input reads as it did. -/
def tupleJoinUptoRow : OpenClaim := { program := "ythcblggiojpmcaadoor", sum := "6db1483828777cc2816c1368ca5a84af2cc329224e4757443fc53e2350dfda4c", func := "glowworm/glowwormlaw4.TupleJoin", spec := "tupleJoin", named := ["unicode/utf8.first", "unicode/utf8.acceptRanges"], apart := false, laid := [("unicode/utf8.acceptRanges", laid_unicode_utf8_acceptRanges), ("unicode/utf8.first", laid_unicode_utf8_first)], narrowed := true }
def TupleJoinUptoSaid : Prop := tupleJoinUptoRow.holds Tryd.pinned (OpenSpec.upto tupleJoinSpec)

/-- 'glowwormlaw4.TupleCut', WHERE WHAT IT READS IS OF BULK AT MOST 1048576: true; the input reads as it did. -/
def tupleCutUptoRow : OpenClaim := { program := "ythcblggiojpmcaadoor", sum := "6db1483828777cc2816c1368ca5a84af2cc329224e4757443fc53e2350dfda4c", func := "glowworm/glowwormlaw4.TupleCut", spec := "tupleCut", named := ["unicode/utf8.first", "unicode/utf8.acceptRanges"], apart := false, laid := [("unicode/utf8.acceptRanges", laid_unicode_utf8_acceptRanges), ("unicode/utf8.first", laid_unicode_utf8_first)], narrowed := true }
def TupleCutUptoSaid : Prop := tupleCutUptoRow.holds Tryd.pinned (OpenSpec.upto tupleCutSpec)

/-- 'glowwormlaw4.CtlMust', WHERE WHAT IT READS IS OF BULK AT MOST 1048576: true; the input reads as it did. -/
def ctlMustUptoRow : OpenClaim := { program := "ythcblggiojpmcaadoor", sum := "6db1483828777cc2816c1368ca5a84af2cc329224e4757443fc53e2350dfda4c", func := "glowworm/glowwormlaw4.CtlMust", spec := "ctlMust", unfollowed := true, recurses := true, named := ["unicode/utf8.first", "unicode/utf8.acceptRanges"], apart := false, laid := [("unicode/utf8.acceptRanges", laid_unicode_utf8_acceptRanges), ("unicode/utf8.first", laid_unicode_utf8_first)], narrowed := true }
def CtlMustUptoSaid : Prop := ctlMustUptoRow.holds Tryd.pinned (OpenSpec.upto ctlMustSpec)

end Rows
end Go.Proofs.YthcblggiojpmcaaDoor
