/- Turns a loaded function into the evaluator's form, by program. Definitions alone. No conditions. -/
import Derived.Test.YtgflghhffmjojaaGreatDoorAb0
namespace Go.Ab
open Go

def toAV : Value → Option AV
  | .bool b => some (.bool b)
  | .int k n => some (.int k n)
  | .string s => some (.str s.data.toList)
  | .pointer none => some .nilp
  | .slice none 0 0 => some .nils
  | .nilIface => some .nili
  | _ => none
def toAVs : List Value → Option (List AV)
  | [] => some []
  | v :: vs => match toAV v, toAVs vs with
    | some x, some xs => some (x :: xs)
    | _, _ => none
def toAVa : Value → Option AV
  | .agg cs => (toAVs cs.toList).map .agg
  | v => toAV v

section
variable (P : Program)
def cOpd : Operand → Option Opd
  | .tmp t => some (.s t)
  | .const v => (toAVa v).map .c
  | .global g => some (.g g)
  | _ => none
def cOpds : List Operand → Option (List Opd)
  | [] => some []
  | v :: vs => match cOpd v, cOpds vs with
    | some x, some xs => some (x :: xs)
    | _, _ => none
def cOpdO : Option Operand → Option (Option Opd)
  | none => some none
  | some x => (cOpd x).map some
def szOf (t : TypeId) : Option Nat := (P.info? t).map (·.size)
def isAg (t : TypeId) : Option Bool :=
  match P.underlying t with
  | some (.struct _) | some (.array _ _) => some true
  | some _ => some false
  | none => none
/-- Cells of a value of the type when it is read whole: none for one cell. -/
def cellsN (t : TypeId) : Option (Option Nat) :=
  match isAg P t, szOf P t with
  | some true, some n => some (some n)
  | some false, some 1 => some none
  | _, _ => none
def zeroOf (t : TypeId) : Option AV := match (P.info? t).bind (·.zero) with
  | some z => toAVa z
  | none => none
def zcells : AV → List AV
  | .agg cs => cs
  | v => [v]
def zeroCells' (t : TypeId) : Option (List AV) := (zeroOf P t).map zcells
def sliceSize (t : TypeId) : Nat :=
  match P.underlying t with
  | some (.slice e) => (szOf P e).getD 0
  | _ => 0
/-- Types that '==' compares cell by cell. -/
def scKind (t : TypeId) : Option SK :=
  match P.underlying t with
  | some .bool => some .b
  | some (.int _) => some .i
  | some .string => some .s
  | _ => none
def fieldKinds (sub : TypeId → Option (List SK)) (t : TypeId) : Option (List SK) :=
  match scKind P t with
  | some k => some [k]
  | none => match sub t with
    | some ks => if szOf P t = some ks.length then some ks else none
    | none => none
def flatFields (sub : TypeId → Option (List SK)) : List Field → Nat → Option (List SK)
  | [], _ => some []
  | f :: fs, off => match fieldKinds P sub f.type with
    | some ks1 => match flatFields sub fs (off + ks1.length) with
      | some ks => if f.offset = off ∧ f.name ≠ "_" then some (ks1 ++ ks) else none
      | none => none
    | none => none
def flatSub : Nat → TypeId → Option (List SK)
  | 0, _ => none
  | d + 1, t => match P.underlying t with
    | some (.struct fs) => if P.stoodInHeld t then none else flatFields P (flatSub d) fs.toList 0
    | _ => none
def flatKind (t : TypeId) : Option EqF :=
  match P.underlying t with
  | some (.struct _) => (flatSub P 4 t).map .many
  | some (.array n e) => match scKind P e, szOf P e with
    | some k, some 1 => some (.many (List.replicate n k))
    | _, _ => none
  | _ => (scKind P t).map .one
def eqOksL : List TypeId → List (Nat × EqF)
  | [] => []
  | t :: ts => match flatKind P t, P.info? t with
    | some q, some i => if i.comparable then (t, q) :: eqOksL ts else eqOksL ts
    | _, _ => eqOksL ts
def eqOks : List (Nat × EqF) := eqOksL P (List.range P.types.size)

def cParts (place : Nat → Option (Nat × Nat)) : List (Nat × Operand) → Option (List (Nat × Nat × Opd))
  | [] => some []
  | (i, x) :: ps => match place i, cOpd x, cParts place ps with
    | some (off, size), some y, some l => some ((off, size, y) :: l)
    | _, _, _ => none
def cArgs : List Operand → List TypeId → Option (List (Nat × Opd))
  | [], _ => some []
  | x :: xs, ts => match cOpd x, cArgs xs ts.tail with
    | some y, some ys => some (((ts.head?.map (sliceSize P)).getD 0, y) :: ys)
    | _, _ => none
def cOp (oks : List (Nat × EqF)) (ht : List TypeId) (o : Oper) : Option MOp :=
  match o.op with
  | .move x | .assign x => (cOpd x).map .mv
  | .pick c a b => match cOpd c, cOpd a, cOpd b with
    | some c, some a, some b => some (.pick c a b)
    | _, _, _ => none
  | .alloc t => (zeroCells' P t).map .alloc
  | .box t x => match szOf P t with
    | some _ => (cOpd x).map .box
    | none => none
  | .build t parts => match P.underlying t, zeroCells' P t with
    | some (.struct fs), some zs => match fs.toList.mapM (fun f => (P.info? f.type).map fun i => (f.offset, i.size)) with
      | some places => match cParts (fun i => places.toArray[i]?) parts.toList with
        | some ps => some (.build zs ps)
        | none => none
      | none => none
    | some (.array _ e), some zs => match szOf P e with
      | some size => match cParts (fun i => some (i * size, size)) parts.toList with
        | some ps => some (.build zs ps)
        | none => none
      | none => none
    | _, _ => none
  | .buildSlice t len parts => match P.underlying t with
    | some (.slice e) => match szOf P e, zeroCells' P e with
      | some size, some zs => match cParts (fun i => some (i * size, size)) parts.toList with
        | some ps => if len * size ≤ 2 ^ 24 ∧ 0 < size ∧ zs.length = size then (if ht.contains (t + 1000000) then some (.bsi size len (List.replicate len zs).flatten ps) else some (.bsl (ht.contains t) size len (List.replicate len zs).flatten ps)) else none
        | none => none
      | _, _ => none
    | _ => none
  | .load t x => match cellsN P t, cOpd x with
    | some n, some y => some (.load n y)
    | _, _ => none
  | .store t a v => match szOf P t, cOpd a, cOpd v with
    | some n, some x, some y => some (.store n x y)
    | _, _, _ => none
  | .nilCheck x => (cOpd x).map .nchk
  | .binOp op t x y _ => match cOpd x, cOpd y with
    | some x', some y' => match op, P.underlying t with
      | .eql, some (.int _) | .eql, some .string | .neq, some (.int _) | .neq, some .string => some (.bin op x' y')
      | .eql, some (.interface ms) | .neq, some (.interface ms) => if ms.size = 0 then some (.eqv (isNeq op) (.ifc oks) x' y') else none
      | .eql, some (.pointer _) | .neq, some (.pointer _) => some (.eqv (isNeq op) .ptr x' y')
      | .eql, some (.slice _) | .neq, some (.slice _) => some (.eqv (isNeq op) .slc x' y')
      | .eql, some (.struct _) | .neq, some (.struct _) | .eql, some .bool | .neq, some .bool | .eql, some (.array _ _) | .neq, some (.array _ _) => match flatKind P t with
        | some q => if P.eqGuardType P.depth t then none else some (.eqv (isNeq op) (.flat q) x' y')
        | none => none
      | .eql, _ | .neq, _ => none
      | _, _ => some (.bin op x' y')
    | _, _ => none
  | .unOp op _ x => (cOpd x).map (.un op)
  | .convert src dst x => match P.underlying src, P.underlying dst, cOpd x with
    | some _, some (.int k), some y => some (.conv (.toInt k) y)
    | some (.int _), some .string, some y => some (.conv .itos y)
    | some .string, some .string, some y => some (.conv .same y)
    | some .string, some (.slice e), some y => match P.underlying e with
      | some (.int .u8) => if ht.contains dst then some (.conv .s2h y) else some (.conv .s2b y)
      | _ => none
    | some (.slice e), some .string, some y => match P.underlying e with
      | some (.int .u8) => some (.conv .b2s y)
      | some (.int .i32) => some (.conv .r2s y)
      | _ => none
    | some (.slice _), some (.slice e), some y => match src == dst, P.underlying e with
      | true, some (.int .u8) => some (.conv .mark y)
      | _, _ => none
    | _, _, _ => none
  | .makeInterface t x => match P.underlying t with
    | some (.interface _) => none
    | none => none
    | _ => (cOpd x).map (.mki t)
  | .slice t x lo hi none => match P.underlying t, cOpd x, cOpdO lo, cOpdO hi with
    | some .string, some y, some l, some h => some (.sls y l h)
    | some (.slice e), some y, some l, some h => match szOf P e with
      | some n => some (.slc n y l h)
      | none => none
    | _, _, _, _ => none
  | .fieldAddr t x f => match P.underlying t with
    | some (.struct fs) => match fs[f]? with
      | some fd => match szOf P fd.type with
        | some (_ + 1) => (cOpd x).map (.fa fd.offset)
        | _ => none
      | none => none
    | _ => none
  | .field t x f => match P.underlying t with
    | some (.struct fs) => match fs[f]? with
      | some fd => match cellsN P fd.type, cOpd x with
        | some n, some y => some (.fld fd.offset n y)
        | _, _ => none
      | none => none
    | _ => none
  | .indexAddr t x i => match P.underlying t, cOpd x, cOpd i with
    | some (.slice e), some y, some j => match szOf P e with
      | some n => some (.ixa n y j)
      | none => none
    | some (.array len e), some y, some j => match szOf P e with
      | some n => some (.ixp len n y j)
      | none => none
    | _, _, _ => none
  | .index t x i => match P.underlying t, cOpd x, cOpd i with
    | some (.array len e), some y, some j => match isAg P e, szOf P e with
      | some b, some n => some (.ix len n b y j)
      | _, _ => none
    | some .string, some y, some j => some (.ixs y j)
    | _, _, _ => none
  | .typeAssert x _ t ok => match P.underlying t, zeroOf P t, cOpd x with
    | some (.interface _), _, _ => none
    | some _, some z, some y => some (.tas t z ok y)
    | _, _, _ => none
  | .extract x i => (cOpd x).map (.ext i)
  | .call { callee := .builtin .len, args := args, argTypes := ts } => match args.toList, ts.toList with
    | [x], [t] => match P.underlying t, cOpd x with
      | some .string, some y => some (.lens y)
      | some (.slice _), some y => some (.len y)
      | _, _ => none
    | _, _ => none
  | .call { callee := .builtin .min, args := args, argTypes := _ } => (cOpds args.toList).map .mn
  | .call { callee := .builtin .max, args := args, argTypes := _ } => (cOpds args.toList).map .mx
  | .call { callee := .builtin .append, args := args, argTypes := ts } => match args.toList, ts.toList with
    | [x, y], [t, u] => match P.underlying t, P.underlying u, cOpd x, cOpd y with
      | some (.slice e), some (.slice _), some x', some y' | some (.slice e), some .string, some x', some y' => match P.info? e, zeroCells' P e with
        | some i, some zs => if 0 < i.size ∧ zs.length = i.size then some (.app (ht.contains t) i.size i.bytes x' y') else none
        | _, _ => none
      | _, _, _, _ => none
    | _, _ => none
  | .call { callee := .builtin .copy, args := args, argTypes := ts } => match args.toList, ts.toList with
    | [x, y], [t, u] => match P.underlying t, P.underlying u, cOpd x, cOpd y with
      | some (.slice e), some (.slice _), some x', some y' | some (.slice e), some .string, some x', some y' => match szOf P e with
        | some (n + 1) => some (.cpy (n + 1) x' y')
        | _ => none
      | _, _, _, _ => none
    | _, _ => none
  | .call { callee := .value (.func f), args := args, argTypes := ts } => (cArgs P args.toList ts.toList).map (.call f)
  | .makeSlice t l c => match P.underlying t with
    | some (.slice e) => match P.info? e, zeroCells' P e, cOpd l, cOpd c with
      | some i, some zs, some x, some y => if 0 < i.size ∧ zs.length = i.size then some (.mks i.size i.bytes zs x y) else none
      | _, _, _, _ => none
    | _ => none
  | .range t x => match P.underlying t with
    | some .string => (cOpd x).map .rng
    | _ => none
  | .next x true => (cOpd x).map .nxt
  | .call { callee := .value (.tmp t), args := args, argTypes := ts } => (cArgs P args.toList ts.toList).map (.callv (.s t))
  | .makeFunc (.func f) first captured => match first.toList with
    | [] => (cOpds captured.toList).map (.mkc f)
    | _ :: _ => none
  | _ => none

def cIns (oks : List (Nat × EqF)) (ht : List TypeId) (ops : Array Oper) (o : Oper) : Option MIns :=
  match cOp P oks ht o with
  | some m => match o.guard with
    | none => some ⟨o.dst, m, none⟩
    | some (j, b) => match (ops[j]?).bind (·.dst) with
      | some d => some ⟨o.dst, m, some (d, b)⟩
      | none => none
  | none => none
def cInss (oks : List (Nat × EqF)) (ht : List TypeId) (ops : Array Oper) : List Oper → Option (List MIns)
  | [] => some []
  | o :: os => match cIns P oks ht ops o, cInss oks ht ops os with
    | some i, some is => some (i :: is)
    | _, _ => none
/-! Slots as bits. -/
def opdB : Opd → Nat
  | .s i => 2 ^ i
  | _ => 0
def opdBs (l : List Opd) : Nat := l.foldl (fun b x => b ||| opdB x) 0
def reads : MOp → Nat
  | .mv x | .un _ x | .conv _ x | .mki _ x | .fa _ x | .fld _ _ x | .load _ x | .nchk x | .tas _ _ _ x | .ext _ x | .len x | .lens x | .box x | .rng x | .nxt x => opdB x
  | .pick a b c => opdBs [a, b, c]
  | .bin _ x y | .eqv _ _ x y | .ixa _ x y | .ixs x y | .ixp _ _ x y | .ix _ _ _ x y | .store _ x y | .cpy _ x y | .app _ _ _ x y | .mks _ _ _ x y => opdBs [x, y]
  | .slc _ x l h | .sls x l h => opdBs (x :: (l.toList ++ h.toList))
  | .call _ args => opdBs (args.map (·.2))
  | .callv x args => opdBs (x :: args.map (·.2))
  | .mkc _ cs => opdBs cs
  | .mn l | .mx l => opdBs l
  | .build _ ps | .bsl _ _ _ _ ps | .bsi _ _ _ ps => opdBs (ps.map (·.2.2))
  | .alloc _ => 0
/-! Operations that may come in more orders than one. -/
def bfMask (bf : List Nat) : List Edge → Nat
  | [] => 0
  | e :: es => if Region.binds .any e then bfMask bf es ||| 2 ^ e.on ||| bf.getD e.on 0 else bfMask bf es
def bfOk (ops : List Oper) (bf : List Nat) : Bool :=
  (List.range ops.length).all fun j => match ops[j]? with
    | some o => (bf.getD j 0 ||| bfMask bf o.after.toList) == bfMask bf o.after.toList && o.after.toList.all (fun e => !Region.binds .any e || decide (e.on < j))
    | none => true
def dstB (i : MIns) : Nat := match i.dst with
  | some d => 2 ^ d
  | none => 0
def slotsI (i : MIns) : Nat := reads i.op ||| dstB i ||| (match i.guard with
  | some (g, _) => 2 ^ g
  | none => 0)
def slotsOk (is : List MIns) (bf : List Nat) : Bool :=
  (List.range is.length).all fun j => (List.range j).all fun i => match is[i]?, is[j]? with
    | some x, some y => (bf.getD j 0).testBit i || (dstB x &&& slotsI y == 0 && dstB y &&& slotsI x == 0)
    | _, _ => true
/-- A part that has no form here: whoever comes to it gets no answer. -/
def noWay : MC := .cond (.c .undef) .skip .skip
def cCode (oks : List (Nat × EqF)) (ht : List TypeId) : Code → MC
  | .skip => .skip
  | .region _ ops draw => match cInss P oks ht ops ops.toList with
    | some is => if draw then (if bfOk ops.toList (Region.before ops).toList && slotsOk is (Region.before ops).toList then .draw is (Region.before ops).toList else noWay) else .reg is
    | none => noWay
  | .seq a b => .seq (cCode oks ht a) (cCode oks ht b)
  | .cond c a b => match cOpd c with
    | some x => .cond x (cCode oks ht a) (cCode oks ht b)
    | none => noWay
  | .block id a => .block id (cCode oks ht a)
  | .loop a => .loop [] (cCode oks ht a)
  | .exit id => .exit id
  | .ret => .ret
  | _ => noWay

/-! What is alive at a loop's head. -/
def without (b i : Nat) : Nat := if b.testBit i then b - 2 ^ i else b
def liveOps (out : Nat) : List MIns → Nat
  | [] => out
  | i :: is =>
    let b := liveOps out is
    let b := match i.dst with
      | some d => without b d
      | none => b
    b ||| reads i.op ||| (match i.guard with
      | some (g, _) => 2 ^ g
      | none => 0)
def fixL (f : Nat → Nat) : Nat → Nat → Nat
  | 0, b => b
  | k + 1, b => let b' := f b ||| b; if b' = b then b else fixL f k b'
def live (rets : Nat) : MC → (out : Nat) → (ex : List (Nat × Nat)) → Nat
  | .skip, out, _ => out
  | .reg ops, out, _ => liveOps out ops
  | .draw ops _, out, _ => liveOps out ops
  | .seq a b, out, ex => live rets a (live rets b out ex) ex
  | .cond c a b, out, ex => opdB c ||| live rets a out ex ||| live rets b out ex
  | .block id a, out, ex => live rets a out ((id, out) :: ex)
  | .loop _ a, _, ex => fixL (fun b => live rets a b ex) 6 0
  | .exit id, _, ex => (ex.find? (·.1 == id)).elim 0 (·.2)
  | .ret, _, _ => rets
def bitsTo (n b : Nat) : List Bool := (List.range n).map (b.testBit ·)
def mark (n rets : Nat) : MC → (out : Nat) → (ex : List (Nat × Nat)) → MC
  | .seq a b, out, ex => .seq (mark n rets a (live rets b out ex) ex) (mark n rets b out ex)
  | .cond c a b, out, ex => .cond c (mark n rets a out ex) (mark n rets b out ex)
  | .block id a, out, ex => .block id (mark n rets a out ((id, out) :: ex))
  | .loop _ a, _, ex =>
    let l := fixL (fun b => live rets a b ex) 6 0
    .loop (bitsTo n l) (mark n rets a l ex)
  | c, _, _ => c

/-! The slice types into whose elements a function stores. -/
def regions : Code → List (Array Oper)
  | .region _ ops _ => [ops]
  | .seq a b => regions a ++ regions b
  | .cond _ a b => regions a ++ regions b
  | .block _ a => regions a
  | .loop a => regions a
  | _ => []
def storeSlots (ops : List Oper) : List Nat := ops.filterMap fun o => match o.op with
  | .store _ (.tmp a) _ => some a
  | _ => none
def behind (ops : List Oper) (l : List Nat) : List Nat := l ++ ops.filterMap fun o => match o.op, o.dst with
  | .fieldAddr _ (.tmp x) _, some d => if l.contains d then some x else none
  | .nilCheck (.tmp x), some d => if l.contains d then some x else none
  | _, _ => none
def heapTypes (c : Code) : List TypeId :=
  let ops := (regions c).flatMap (·.toList)
  let l := behind ops (behind ops (behind ops (storeSlots ops)))
  ops.filterMap fun o => match o.op, o.dst with
    | .indexAddr t _ _, some d => if l.contains d && (P.underlying t matches some (.slice _)) then some t else none
    | _, _ => none

/-! The types of slice literals that are made but to become a text, beside a call. -/
def drawn : Code → List (Array Oper)
  | .region _ ops draw => if draw then [ops] else []
  | .seq a b => drawn a ++ drawn b
  | .cond _ a b => drawn a ++ drawn b
  | .block _ a => drawn a
  | .loop a => drawn a
  | _ => []
/-- What is appended in a region. -/
def appended (ops : Array Oper) : List Nat := ops.toList.filterMap fun o => match o.op with
  | .call { callee := .builtin .append, args := args, argTypes := _ } => match args.toList with
    | [_, .tmp y] => some y
    | _ => none
  | _ => none
def softTypes (c : Code) : List TypeId :=
  let app := (regions c).flatMap fun ops => ops.toList.filterMap fun o => match o.op with
    | .call { callee := .builtin .append, args := _, argTypes := ts } => ts.toList.head?
    | _ => none
  let l := (drawn c).flatMap fun ops => if ops.any (fun o => match o.op with
      | .call { callee := .value _, args := _, argTypes := _ } => true
      | _ => false) then ops.toList.filterMap (fun o => match o.op with
    | .convert src dst _ => if (P.underlying src matches some (.slice _)) && (P.underlying dst matches some .string) && !app.contains src then some src else none
    | _ => none) else []
  let m := (drawn c).flatMap fun ops => if 2 ≤ (appended ops).length then ops.toList.filterMap (fun o => match o.op, o.dst with
    | .buildSlice t _ _, some d => if (appended ops).contains d then some t else none
    | _, _ => none) else []
  (l ++ m).eraseDups.map (· + 1000000)
def cRes (rt : List TypeId) : List ResultVar → Option (List MRes)
  | [] => some []
  | .tmp t :: rs => match cRes rt.tail rs with
    | some l => some (.tmp ((rt.head?.map (sliceSize P)).getD 0) t :: l)
    | none => none
  | .cell a t :: rs => match cellsN P t, cRes rt.tail rs with
    | some n, some l => some (.cell a n :: l)
    | _, _ => none
def resB : List MRes → Nat
  | [] => 0
  | .tmp _ i :: l => 2 ^ i ||| resB l
  | .cell i _ :: l => 2 ^ i ||| resB l
def cFun (fn : Func) : Option MFun :=
  match fn.body, cRes P fn.resultTypes.toList fn.results.toList with
  | some c, some rs => some ⟨fn.ntmps, rs, mark fn.ntmps (resB rs) (cCode P (eqOks P) ((heapTypes P c).eraseDups ++ softTypes P c) c) (resB rs) []⟩
  | _, _ => none
end
end Go.Ab
