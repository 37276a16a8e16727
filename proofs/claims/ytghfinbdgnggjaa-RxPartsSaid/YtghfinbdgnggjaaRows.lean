/-
  No cell of these rows narrows 'for every input' (looked for: loops, veiled, ifaces, maps, wideKeys, modest, calm, conditions, laid).
  DERIVED. THE GIVEN ROWS OF THIS SEAT. 16 by the template 'for every input the law returns true; each argument reads behind the call as it read before'; 0 by the template 'total and deterministic' (their statements: YtghfinbdgnggjaaTotals.lean).
  GIVEN WITH THE SEED: the statements are not yours to turn. If you find one false, say at which input.
  Laid BY PROGRAM, IN A SANDBOX (cutbox-rows.mjs): the forced cells as the released guide's own fill.sh prints them over the translation 4045dc160fea494f… (all of the seat's roots in one cut). By AI agents, Wed Nov 11 2026. No macro, syntax, notation, axiom, sorry.
-/
import Derived.Test.YtghfinbdgnggjaaChecked
import GoSem.Claim
import GoSem.ClaimJoined
import GoSem.ClaimMapViews
import Derived.JoinedTies
import Derived.KernelRfl
namespace Go.Proofs.Ytghfinbdgnggjaa
/- THE CELL 'sum', in the pinned program and in every row, IS THE sha256 OF THE DUMP (.gsa) THAT YtghfinbdgnggjaaProg.lean LOADS. Nothing in Lean hashes anything: it is a label: what it is worth is what the hold of that sum in a sandbox is worth. -/
noncomputable def Try.pinned : Pinned := { name := "ytghfinbdgnggjaa", sum := "4045dc160fea494fcded8eb82fc19db6e4653fd080e6fed10ad6897fa0338d3c", checked := Try.checked }
namespace Rows
def none {H : Type} : Left H := { results := [], args := [] }

/-- 'glowwormlaw0.Names': WHATEVER THE INPUT: true; the input reads as it did. -/
def namesSpec : ChangeSpec := { name := "names", fn := fun _ => fun
  | [] => { results := [.lit (.bool true)], args := [] }
  | _ => none }
def namesRow : OpenClaim := { program := "ytghfinbdgnggjaa", sum := "4045dc160fea494fcded8eb82fc19db6e4653fd080e6fed10ad6897fa0338d3c", func := "glowworm/glowwormlaw0.Names", spec := "names", apart := false }
def NamesSaid : Prop := namesRow.holds Try.pinned (OpenSpec.ofChange namesSpec)

/-- ITS FALSE NEIGHBOUR: 'it returns false'. Refute it at one input. -/
def namesWrong : ChangeSpec := { name := "names", fn := fun _ => fun
  | [] => { results := [.lit (.bool false)], args := [] }
  | _ => none }
def NamesWrongFalsely : Prop := namesRow.holds Try.pinned (OpenSpec.ofChange namesWrong)

/-- 'glowwormlaw1.CrcAll': WHATEVER THE INPUT: true; the input reads as it did. -/
def crcAllSpec : ChangeSpec := { name := "crcAll", fn := fun _ => fun
  | [d1, d2, d3] => { results := [.lit (.bool true)], args := [d1, d2, d3] }
  | _ => none }
def crcAllRow : OpenClaim := { program := "ytghfinbdgnggjaa", sum := "4045dc160fea494fcded8eb82fc19db6e4653fd080e6fed10ad6897fa0338d3c", func := "glowworm/glowwormlaw1.CrcAll", spec := "crcAll", apart := false }
def CrcAllSaid : Prop := crcAllRow.holds Try.pinned (OpenSpec.ofChange crcAllSpec)

/-- ITS FALSE NEIGHBOUR: 'it returns false'. Refute it at one input. -/
def crcAllWrong : ChangeSpec := { name := "crcAll", fn := fun _ => fun
  | [d1, d2, d3] => { results := [.lit (.bool false)], args := [d1, d2, d3] }
  | _ => none }
def CrcAllWrongFalsely : Prop := crcAllRow.holds Try.pinned (OpenSpec.ofChange crcAllWrong)

/-- 'glowwormlaw1.CrcTurn': WHATEVER THE INPUT: true; the input reads as it did. -/
def crcTurnSpec : ChangeSpec := { name := "crcTurn", fn := fun _ => fun
  | [d1, d2, d3] => { results := [.lit (.bool true)], args := [d1, d2, d3] }
  | _ => none }
def crcTurnRow : OpenClaim := { program := "ytghfinbdgnggjaa", sum := "4045dc160fea494fcded8eb82fc19db6e4653fd080e6fed10ad6897fa0338d3c", func := "glowworm/glowwormlaw1.CrcTurn", spec := "crcTurn", apart := false }
def CrcTurnSaid : Prop := crcTurnRow.holds Try.pinned (OpenSpec.ofChange crcTurnSpec)

/-- ITS FALSE NEIGHBOUR: 'it returns false'. Refute it at one input. -/
def crcTurnWrong : ChangeSpec := { name := "crcTurn", fn := fun _ => fun
  | [d1, d2, d3] => { results := [.lit (.bool false)], args := [d1, d2, d3] }
  | _ => none }
def CrcTurnWrongFalsely : Prop := crcTurnRow.holds Try.pinned (OpenSpec.ofChange crcTurnWrong)

/-- 'glowwormlaw1.CrcJoin': WHATEVER THE INPUT: true; the input reads as it did. -/
def crcJoinSpec : ChangeSpec := { name := "crcJoin", fn := fun _ => fun
  | [d1, d2] => { results := [.lit (.bool true)], args := [d1, d2] }
  | _ => none }
def crcJoinRow : OpenClaim := { program := "ytghfinbdgnggjaa", sum := "4045dc160fea494fcded8eb82fc19db6e4653fd080e6fed10ad6897fa0338d3c", func := "glowworm/glowwormlaw1.CrcJoin", spec := "crcJoin", apart := false }
def CrcJoinSaid : Prop := crcJoinRow.holds Try.pinned (OpenSpec.ofChange crcJoinSpec)

/-- ITS FALSE NEIGHBOUR: 'it returns false'. Refute it at one input. -/
def crcJoinWrong : ChangeSpec := { name := "crcJoin", fn := fun _ => fun
  | [d1, d2] => { results := [.lit (.bool false)], args := [d1, d2] }
  | _ => none }
def CrcJoinWrongFalsely : Prop := crcJoinRow.holds Try.pinned (OpenSpec.ofChange crcJoinWrong)

/-- 'glowwormlaw1.SirAll': WHATEVER THE INPUT: true; the input reads as it did. -/
def sirAllSpec : ChangeSpec := { name := "sirAll", fn := fun _ => fun
  | [d1, d2] => { results := [.lit (.bool true)], args := [d1, d2] }
  | _ => none }
def sirAllRow : OpenClaim := { program := "ytghfinbdgnggjaa", sum := "4045dc160fea494fcded8eb82fc19db6e4653fd080e6fed10ad6897fa0338d3c", func := "glowworm/glowwormlaw1.SirAll", spec := "sirAll", apart := false }
def SirAllSaid : Prop := sirAllRow.holds Try.pinned (OpenSpec.ofChange sirAllSpec)

/-- ITS FALSE NEIGHBOUR: 'it returns false'. Refute it at one input. -/
def sirAllWrong : ChangeSpec := { name := "sirAll", fn := fun _ => fun
  | [d1, d2] => { results := [.lit (.bool false)], args := [d1, d2] }
  | _ => none }
def SirAllWrongFalsely : Prop := sirAllRow.holds Try.pinned (OpenSpec.ofChange sirAllWrong)

/-- 'glowwormlaw1.SirBack': WHATEVER THE INPUT: true; the input reads as it did. -/
def sirBackSpec : ChangeSpec := { name := "sirBack", fn := fun _ => fun
  | [d1, d2, d3, d4] => { results := [.lit (.bool true)], args := [d1, d2, d3, d4] }
  | _ => none }
def sirBackRow : OpenClaim := { program := "ytghfinbdgnggjaa", sum := "4045dc160fea494fcded8eb82fc19db6e4653fd080e6fed10ad6897fa0338d3c", func := "glowworm/glowwormlaw1.SirBack", spec := "sirBack", apart := false }
def SirBackSaid : Prop := sirBackRow.holds Try.pinned (OpenSpec.ofChange sirBackSpec)

/-- ITS FALSE NEIGHBOUR: 'it returns false'. Refute it at one input. -/
def sirBackWrong : ChangeSpec := { name := "sirBack", fn := fun _ => fun
  | [d1, d2, d3, d4] => { results := [.lit (.bool false)], args := [d1, d2, d3, d4] }
  | _ => none }
def SirBackWrongFalsely : Prop := sirBackRow.holds Try.pinned (OpenSpec.ofChange sirBackWrong)

/-- 'glowwormlaw1.RxMany': WHATEVER THE INPUT: true; the input reads as it did. -/
def rxManySpec : ChangeSpec := { name := "rxMany", fn := fun _ => fun
  | [d1, d2] => { results := [.lit (.bool true)], args := [d1, d2] }
  | _ => none }
def rxManyRow : OpenClaim := { program := "ytghfinbdgnggjaa", sum := "4045dc160fea494fcded8eb82fc19db6e4653fd080e6fed10ad6897fa0338d3c", func := "glowworm/glowwormlaw1.RxMany", spec := "rxMany", apart := false }
def RxManySaid : Prop := rxManyRow.holds Try.pinned (OpenSpec.ofChange rxManySpec)

/-- ITS FALSE NEIGHBOUR: 'it returns false'. Refute it at one input. -/
def rxManyWrong : ChangeSpec := { name := "rxMany", fn := fun _ => fun
  | [d1, d2] => { results := [.lit (.bool false)], args := [d1, d2] }
  | _ => none }
def RxManyWrongFalsely : Prop := rxManyRow.holds Try.pinned (OpenSpec.ofChange rxManyWrong)

/-- 'glowwormlaw1.RxLong': WHATEVER THE INPUT: true; the input reads as it did. -/
def rxLongSpec : ChangeSpec := { name := "rxLong", fn := fun _ => fun
  | [d1, d2, d3] => { results := [.lit (.bool true)], args := [d1, d2, d3] }
  | _ => none }
def rxLongRow : OpenClaim := { program := "ytghfinbdgnggjaa", sum := "4045dc160fea494fcded8eb82fc19db6e4653fd080e6fed10ad6897fa0338d3c", func := "glowworm/glowwormlaw1.RxLong", spec := "rxLong", apart := false }
def RxLongSaid : Prop := rxLongRow.holds Try.pinned (OpenSpec.ofChange rxLongSpec)

/-- ITS FALSE NEIGHBOUR: 'it returns false'. Refute it at one input. -/
def rxLongWrong : ChangeSpec := { name := "rxLong", fn := fun _ => fun
  | [d1, d2, d3] => { results := [.lit (.bool false)], args := [d1, d2, d3] }
  | _ => none }
def RxLongWrongFalsely : Prop := rxLongRow.holds Try.pinned (OpenSpec.ofChange rxLongWrong)

/-- 'glowwormlaw1.RxNone': WHATEVER THE INPUT: true; the input reads as it did. -/
def rxNoneSpec : ChangeSpec := { name := "rxNone", fn := fun _ => fun
  | [] => { results := [.lit (.bool true)], args := [] }
  | _ => none }
def rxNoneRow : OpenClaim := { program := "ytghfinbdgnggjaa", sum := "4045dc160fea494fcded8eb82fc19db6e4653fd080e6fed10ad6897fa0338d3c", func := "glowworm/glowwormlaw1.RxNone", spec := "rxNone", apart := false }
def RxNoneSaid : Prop := rxNoneRow.holds Try.pinned (OpenSpec.ofChange rxNoneSpec)

/-- ITS FALSE NEIGHBOUR: 'it returns false'. Refute it at one input. -/
def rxNoneWrong : ChangeSpec := { name := "rxNone", fn := fun _ => fun
  | [] => { results := [.lit (.bool false)], args := [] }
  | _ => none }
def RxNoneWrongFalsely : Prop := rxNoneRow.holds Try.pinned (OpenSpec.ofChange rxNoneWrong)

/-- 'glowwormlaw1.CrcBit': WHATEVER THE INPUT: true; the input reads as it did. -/
def crcBitSpec : ChangeSpec := { name := "crcBit", fn := fun _ => fun
  | [d1, d2, d3] => { results := [.lit (.bool true)], args := [d1, d2, d3] }
  | _ => none }
def crcBitRow : OpenClaim := { program := "ytghfinbdgnggjaa", sum := "4045dc160fea494fcded8eb82fc19db6e4653fd080e6fed10ad6897fa0338d3c", func := "glowworm/glowwormlaw1.CrcBit", spec := "crcBit", apart := false }
def CrcBitSaid : Prop := crcBitRow.holds Try.pinned (OpenSpec.ofChange crcBitSpec)

/-- ITS FALSE NEIGHBOUR: 'it returns false'. Refute it at one input. -/
def crcBitWrong : ChangeSpec := { name := "crcBit", fn := fun _ => fun
  | [d1, d2, d3] => { results := [.lit (.bool false)], args := [d1, d2, d3] }
  | _ => none }
def CrcBitWrongFalsely : Prop := crcBitRow.holds Try.pinned (OpenSpec.ofChange crcBitWrong)

/-- 'glowwormlaw1.CrcZero': WHATEVER THE INPUT: true; the input reads as it did. -/
def crcZeroSpec : ChangeSpec := { name := "crcZero", fn := fun _ => fun
  | [d] => { results := [.lit (.bool true)], args := [d] }
  | _ => none }
def crcZeroRow : OpenClaim := { program := "ytghfinbdgnggjaa", sum := "4045dc160fea494fcded8eb82fc19db6e4653fd080e6fed10ad6897fa0338d3c", func := "glowworm/glowwormlaw1.CrcZero", spec := "crcZero", apart := false }
def CrcZeroSaid : Prop := crcZeroRow.holds Try.pinned (OpenSpec.ofChange crcZeroSpec)

/-- ITS FALSE NEIGHBOUR: 'it returns false'. Refute it at one input. -/
def crcZeroWrong : ChangeSpec := { name := "crcZero", fn := fun _ => fun
  | [d] => { results := [.lit (.bool false)], args := [d] }
  | _ => none }
def CrcZeroWrongFalsely : Prop := crcZeroRow.holds Try.pinned (OpenSpec.ofChange crcZeroWrong)

/-- 'glowwormlaw1.SirLong': WHATEVER THE INPUT: true; the input reads as it did. -/
def sirLongSpec : ChangeSpec := { name := "sirLong", fn := fun _ => fun
  | [d1, d2] => { results := [.lit (.bool true)], args := [d1, d2] }
  | _ => none }
def sirLongRow : OpenClaim := { program := "ytghfinbdgnggjaa", sum := "4045dc160fea494fcded8eb82fc19db6e4653fd080e6fed10ad6897fa0338d3c", func := "glowworm/glowwormlaw1.SirLong", spec := "sirLong", apart := false }
def SirLongSaid : Prop := sirLongRow.holds Try.pinned (OpenSpec.ofChange sirLongSpec)

/-- ITS FALSE NEIGHBOUR: 'it returns false'. Refute it at one input. -/
def sirLongWrong : ChangeSpec := { name := "sirLong", fn := fun _ => fun
  | [d1, d2] => { results := [.lit (.bool false)], args := [d1, d2] }
  | _ => none }
def SirLongWrongFalsely : Prop := sirLongRow.holds Try.pinned (OpenSpec.ofChange sirLongWrong)

/-- 'glowwormlaw1.SirEscape': WHATEVER THE INPUT: true; the input reads as it did. -/
def sirEscapeSpec : ChangeSpec := { name := "sirEscape", fn := fun _ => fun
  | [d1, d2] => { results := [.lit (.bool true)], args := [d1, d2] }
  | _ => none }
def sirEscapeRow : OpenClaim := { program := "ytghfinbdgnggjaa", sum := "4045dc160fea494fcded8eb82fc19db6e4653fd080e6fed10ad6897fa0338d3c", func := "glowworm/glowwormlaw1.SirEscape", spec := "sirEscape", apart := false }
def SirEscapeSaid : Prop := sirEscapeRow.holds Try.pinned (OpenSpec.ofChange sirEscapeSpec)

/-- ITS FALSE NEIGHBOUR: 'it returns false'. Refute it at one input. -/
def sirEscapeWrong : ChangeSpec := { name := "sirEscape", fn := fun _ => fun
  | [d1, d2] => { results := [.lit (.bool false)], args := [d1, d2] }
  | _ => none }
def SirEscapeWrongFalsely : Prop := sirEscapeRow.holds Try.pinned (OpenSpec.ofChange sirEscapeWrong)

/-- 'glowwormlaw1.RxTurn': WHATEVER THE INPUT: true; the input reads as it did. -/
def rxTurnSpec : ChangeSpec := { name := "rxTurn", fn := fun _ => fun
  | [d1, d2, d3] => { results := [.lit (.bool true)], args := [d1, d2, d3] }
  | _ => none }
def rxTurnRow : OpenClaim := { program := "ytghfinbdgnggjaa", sum := "4045dc160fea494fcded8eb82fc19db6e4653fd080e6fed10ad6897fa0338d3c", func := "glowworm/glowwormlaw1.RxTurn", spec := "rxTurn", apart := false }
def RxTurnSaid : Prop := rxTurnRow.holds Try.pinned (OpenSpec.ofChange rxTurnSpec)

/-- ITS FALSE NEIGHBOUR: 'it returns false'. Refute it at one input. -/
def rxTurnWrong : ChangeSpec := { name := "rxTurn", fn := fun _ => fun
  | [d1, d2, d3] => { results := [.lit (.bool false)], args := [d1, d2, d3] }
  | _ => none }
def RxTurnWrongFalsely : Prop := rxTurnRow.holds Try.pinned (OpenSpec.ofChange rxTurnWrong)

/-- 'glowwormlaw1.RxCut': WHATEVER THE INPUT: true; the input reads as it did. -/
def rxCutSpec : ChangeSpec := { name := "rxCut", fn := fun _ => fun
  | [d1, d2, d3] => { results := [.lit (.bool true)], args := [d1, d2, d3] }
  | _ => none }
def rxCutRow : OpenClaim := { program := "ytghfinbdgnggjaa", sum := "4045dc160fea494fcded8eb82fc19db6e4653fd080e6fed10ad6897fa0338d3c", func := "glowworm/glowwormlaw1.RxCut", spec := "rxCut", apart := false }
def RxCutSaid : Prop := rxCutRow.holds Try.pinned (OpenSpec.ofChange rxCutSpec)

/-- ITS FALSE NEIGHBOUR: 'it returns false'. Refute it at one input. -/
def rxCutWrong : ChangeSpec := { name := "rxCut", fn := fun _ => fun
  | [d1, d2, d3] => { results := [.lit (.bool false)], args := [d1, d2, d3] }
  | _ => none }
def RxCutWrongFalsely : Prop := rxCutRow.holds Try.pinned (OpenSpec.ofChange rxCutWrong)

/-- 'glowwormlaw1.RxParts': WHATEVER THE INPUT: true; the input reads as it did. -/
def rxPartsSpec : ChangeSpec := { name := "rxParts", fn := fun _ => fun
  | [d] => { results := [.lit (.bool true)], args := [d] }
  | _ => none }
def rxPartsRow : OpenClaim := { program := "ytghfinbdgnggjaa", sum := "4045dc160fea494fcded8eb82fc19db6e4653fd080e6fed10ad6897fa0338d3c", func := "glowworm/glowwormlaw1.RxParts", spec := "rxParts", apart := false }
def RxPartsSaid : Prop := rxPartsRow.holds Try.pinned (OpenSpec.ofChange rxPartsSpec)

/-- ITS FALSE NEIGHBOUR: 'it returns false'. Refute it at one input. -/
def rxPartsWrong : ChangeSpec := { name := "rxParts", fn := fun _ => fun
  | [d] => { results := [.lit (.bool false)], args := [d] }
  | _ => none }
def RxPartsWrongFalsely : Prop := rxPartsRow.holds Try.pinned (OpenSpec.ofChange rxPartsWrong)

/- THE SECOND FORM. 'bulk': how many values and letters a reading holds, each counted each time it is reached (what is shared counts as often as it is met; a slice's spare places count too). A statement '..UptoSaid' is the law's where the arguments, and the package variables that the reading takes, are together of bulk at most 1048576: NARROWER than '..Said'. Prove '..Said' where nothing that the law and all that it calls make is longer than what came in: it says more and counts as full. Else prove '..UptoSaid'. A law counts once. -/
mutual
def uptoBulk {H : Type} : DataW H → Nat
  | .lit (.string bytes) => bytes.length + 1
  | .lit _ => 1
  | .nil => 1
  | .ptr d => uptoBulk d + 1
  | .slice elems spare => uptoBulkAll elems + uptoBulkAll spare + 1
  | .agg parts => uptoBulkAll parts + 1
  | .iface _ d => uptoBulk d + 1
  | .map entries => uptoBulkEntries entries + 1
  | .held _ => 1
def uptoBulkAll {H : Type} : List (DataW H) → Nat
  | [] => 0
  | d :: r => uptoBulk d + uptoBulkAll r
def uptoBulkEntries {H : Type} : List (Lit × DataW H) → Nat
  | [] => 0
  | x :: r => uptoBulkEntry x + uptoBulkEntries r
def uptoBulkEntry {H : Type} : Lit × DataW H → Nat
  | (.string bytes, d) => bytes.length + uptoBulk d + 1
  | (_, d) => uptoBulk d + 1
 end
def uptoSmall : (H : Type) → List (DataW H) → Bool := fun _ ds => decide (uptoBulkAll ds ≤ 1048576)
def OpenSpec.upto (s : _root_.Go.ChangeSpec) : _root_.Go.OpenSpec := { _root_.Go.OpenSpec.ofChange s with cond := some uptoSmall }

/-- 'glowwormlaw0.Names', WHERE WHAT IT READS IS OF BULK AT MOST 1048576: true; the input reads as it did. -/
def namesUptoRow : OpenClaim := { program := "ytghfinbdgnggjaa", sum := "4045dc160fea494fcded8eb82fc19db6e4653fd080e6fed10ad6897fa0338d3c", func := "glowworm/glowwormlaw0.Names", spec := "names", apart := false, narrowed := true }
def NamesUptoSaid : Prop := namesUptoRow.holds Try.pinned (OpenSpec.upto namesSpec)

/-- 'glowwormlaw1.CrcAll', WHERE WHAT IT READS IS OF BULK AT MOST 1048576: true; the input reads as it did. -/
def crcAllUptoRow : OpenClaim := { program := "ytghfinbdgnggjaa", sum := "4045dc160fea494fcded8eb82fc19db6e4653fd080e6fed10ad6897fa0338d3c", func := "glowworm/glowwormlaw1.CrcAll", spec := "crcAll", apart := false, narrowed := true }
def CrcAllUptoSaid : Prop := crcAllUptoRow.holds Try.pinned (OpenSpec.upto crcAllSpec)

/-- 'glowwormlaw1.CrcTurn', WHERE WHAT IT READS IS OF BULK AT MOST 1048576: true; the input reads as it did. -/
def crcTurnUptoRow : OpenClaim := { program := "ytghfinbdgnggjaa", sum := "4045dc160fea494fcded8eb82fc19db6e4653fd080e6fed10ad6897fa0338d3c", func := "glowworm/glowwormlaw1.CrcTurn", spec := "crcTurn", apart := false, narrowed := true }
def CrcTurnUptoSaid : Prop := crcTurnUptoRow.holds Try.pinned (OpenSpec.upto crcTurnSpec)

/-- 'glowwormlaw1.CrcJoin', WHERE WHAT IT READS IS OF BULK AT MOST 1048576: true; the input reads as it did. -/
def crcJoinUptoRow : OpenClaim := { program := "ytghfinbdgnggjaa", sum := "4045dc160fea494fcded8eb82fc19db6e4653fd080e6fed10ad6897fa0338d3c", func := "glowworm/glowwormlaw1.CrcJoin", spec := "crcJoin", apart := false, narrowed := true }
def CrcJoinUptoSaid : Prop := crcJoinUptoRow.holds Try.pinned (OpenSpec.upto crcJoinSpec)

/-- 'glowwormlaw1.SirAll', WHERE WHAT IT READS IS OF BULK AT MOST 1048576: true; the input reads as it did. -/
def sirAllUptoRow : OpenClaim := { program := "ytghfinbdgnggjaa", sum := "4045dc160fea494fcded8eb82fc19db6e4653fd080e6fed10ad6897fa0338d3c", func := "glowworm/glowwormlaw1.SirAll", spec := "sirAll", apart := false, narrowed := true }
def SirAllUptoSaid : Prop := sirAllUptoRow.holds Try.pinned (OpenSpec.upto sirAllSpec)

/-- 'glowwormlaw1.SirBack', WHERE WHAT IT READS IS OF BULK AT MOST 1048576: true; the input reads as it did. -/
def sirBackUptoRow : OpenClaim := { program := "ytghfinbdgnggjaa", sum := "4045dc160fea494fcded8eb82fc19db6e4653fd080e6fed10ad6897fa0338d3c", func := "glowworm/glowwormlaw1.SirBack", spec := "sirBack", apart := false, narrowed := true }
def SirBackUptoSaid : Prop := sirBackUptoRow.holds Try.pinned (OpenSpec.upto sirBackSpec)

/-- 'glowwormlaw1.RxMany', WHERE WHAT IT READS IS OF BULK AT MOST 1048576: true; the input reads as it did. -/
def rxManyUptoRow : OpenClaim := { program := "ytghfinbdgnggjaa", sum := "4045dc160fea494fcded8eb82fc19db6e4653fd080e6fed10ad6897fa0338d3c", func := "glowworm/glowwormlaw1.RxMany", spec := "rxMany", apart := false, narrowed := true }
def RxManyUptoSaid : Prop := rxManyUptoRow.holds Try.pinned (OpenSpec.upto rxManySpec)

/-- 'glowwormlaw1.RxLong', WHERE WHAT IT READS IS OF BULK AT MOST 1048576: true; the input reads as it did. -/
def rxLongUptoRow : OpenClaim := { program := "ytghfinbdgnggjaa", sum := "4045dc160fea494fcded8eb82fc19db6e4653fd080e6fed10ad6897fa0338d3c", func := "glowworm/glowwormlaw1.RxLong", spec := "rxLong", apart := false, narrowed := true }
def RxLongUptoSaid : Prop := rxLongUptoRow.holds Try.pinned (OpenSpec.upto rxLongSpec)

/-- 'glowwormlaw1.RxNone', WHERE WHAT IT READS IS OF BULK AT MOST 1048576: true; the input reads as it did. -/
def rxNoneUptoRow : OpenClaim := { program := "ytghfinbdgnggjaa", sum := "4045dc160fea494fcded8eb82fc19db6e4653fd080e6fed10ad6897fa0338d3c", func := "glowworm/glowwormlaw1.RxNone", spec := "rxNone", apart := false, narrowed := true }
def RxNoneUptoSaid : Prop := rxNoneUptoRow.holds Try.pinned (OpenSpec.upto rxNoneSpec)

/-- 'glowwormlaw1.CrcBit', WHERE WHAT IT READS IS OF BULK AT MOST 1048576: true; the input reads as it did. -/
def crcBitUptoRow : OpenClaim := { program := "ytghfinbdgnggjaa", sum := "4045dc160fea494fcded8eb82fc19db6e4653fd080e6fed10ad6897fa0338d3c", func := "glowworm/glowwormlaw1.CrcBit", spec := "crcBit", apart := false, narrowed := true }
def CrcBitUptoSaid : Prop := crcBitUptoRow.holds Try.pinned (OpenSpec.upto crcBitSpec)

/-- 'glowwormlaw1.CrcZero', WHERE WHAT IT READS IS OF BULK AT MOST 1048576: true; the input reads as it did. -/
def crcZeroUptoRow : OpenClaim := { program := "ytghfinbdgnggjaa", sum := "4045dc160fea494fcded8eb82fc19db6e4653fd080e6fed10ad6897fa0338d3c", func := "glowworm/glowwormlaw1.CrcZero", spec := "crcZero", apart := false, narrowed := true }
def CrcZeroUptoSaid : Prop := crcZeroUptoRow.holds Try.pinned (OpenSpec.upto crcZeroSpec)

/-- 'glowwormlaw1.SirLong', WHERE WHAT IT READS IS OF BULK AT MOST 1048576: true; the input reads as it did. -/
def sirLongUptoRow : OpenClaim := { program := "ytghfinbdgnggjaa", sum := "4045dc160fea494fcded8eb82fc19db6e4653fd080e6fed10ad6897fa0338d3c", func := "glowworm/glowwormlaw1.SirLong", spec := "sirLong", apart := false, narrowed := true }
def SirLongUptoSaid : Prop := sirLongUptoRow.holds Try.pinned (OpenSpec.upto sirLongSpec)

/-- 'glowwormlaw1.SirEscape', WHERE WHAT IT READS IS OF BULK AT MOST 1048576: true; the input reads as it did. -/
def sirEscapeUptoRow : OpenClaim := { program := "ytghfinbdgnggjaa", sum := "4045dc160fea494fcded8eb82fc19db6e4653fd080e6fed10ad6897fa0338d3c", func := "glowworm/glowwormlaw1.SirEscape", spec := "sirEscape", apart := false, narrowed := true }
def SirEscapeUptoSaid : Prop := sirEscapeUptoRow.holds Try.pinned (OpenSpec.upto sirEscapeSpec)

/-- 'glowwormlaw1.RxTurn', WHERE WHAT IT READS IS OF BULK AT MOST 1048576: true; the input reads as it did. -/
def rxTurnUptoRow : OpenClaim := { program := "ytghfinbdgnggjaa", sum := "4045dc160fea494fcded8eb82fc19db6e4653fd080e6fed10ad6897fa0338d3c", func := "glowworm/glowwormlaw1.RxTurn", spec := "rxTurn", apart := false, narrowed := true }
def RxTurnUptoSaid : Prop := rxTurnUptoRow.holds Try.pinned (OpenSpec.upto rxTurnSpec)

/-- 'glowwormlaw1.RxCut', WHERE WHAT IT READS IS OF BULK AT MOST 1048576: true; the input reads as it did. -/
def rxCutUptoRow : OpenClaim := { program := "ytghfinbdgnggjaa", sum := "4045dc160fea494fcded8eb82fc19db6e4653fd080e6fed10ad6897fa0338d3c", func := "glowworm/glowwormlaw1.RxCut", spec := "rxCut", apart := false, narrowed := true }
def RxCutUptoSaid : Prop := rxCutUptoRow.holds Try.pinned (OpenSpec.upto rxCutSpec)

/-- 'glowwormlaw1.RxParts', WHERE WHAT IT READS IS OF BULK AT MOST 1048576: true; the input reads as it did. -/
def rxPartsUptoRow : OpenClaim := { program := "ytghfinbdgnggjaa", sum := "4045dc160fea494fcded8eb82fc19db6e4653fd080e6fed10ad6897fa0338d3c", func := "glowworm/glowwormlaw1.RxParts", spec := "rxParts", apart := false, narrowed := true }
def RxPartsUptoSaid : Prop := rxPartsUptoRow.holds Try.pinned (OpenSpec.upto rxPartsSpec)

end Rows
end Go.Proofs.Ytghfinbdgnggjaa
