/- An evaluator for the functions of one loaded program: values without addresses, a small heap. Definitions alone; what it answers is shown sound in the next texts. No conditions. -/
import Derived.Calls
import GoSem.Core.Layout
namespace Go.Ab
open Go

/-- A value: slices are lists of cells; `rp`: an address at which these cells can be read for ever; `ptr b o`, `hs z b o n`: into block b of the small heap. -/
inductive AV where
  | undef
  | bool (b : Bool)
  | int (k : IntKind) (n : Int)
  | str (s : List UInt8)
  | nilp
  | ptr (b o : Nat)
  | rp (cs : List AV)
  | nils
  | sl (cs : List AV) (n : Nat) (tk : Option (Nat × Nat × Nat))
  | hs (z b o n : Nat)
  | nili
  | iface (t : Nat) (v : AV)
  | agg (cs : List AV)
  | tup (cs : List AV)
  | clo (f : Nat) (cs : List AV)
  deriving Inhabited, Repr

inductive Obj where
  | cells (sz : Nat) (cs : List AV)
  | tick (sz e : Nat)
  | iter (s : List UInt8) (p : Nat)
  | dead
  | froz (sz : Nat) (cs : List AV)
  deriving Inhabited, Repr

structure St where
  heap : List (Nat × Obj)
  next : Nat
  deriving Inhabited, Repr

def getH : List (Nat × Obj) → Nat → Option Obj
  | [], _ => none
  | (i, o) :: h, b => if i = b then some o else getH h b
def updH : List (Nat × Obj) → Nat → Obj → List (Nat × Obj)
  | [], _, _ => []
  | (i, o) :: h, b, o' => if i = b then (i, o') :: h else (i, o) :: updH h b o'
def St.get (s : St) (b : Nat) : Option Obj := getH s.heap b
def St.upd (s : St) (b : Nat) (o : Obj) : St := { s with heap := updH s.heap b o }
def St.new (s : St) (o : Obj) : St := { heap := (s.next, o) :: s.heap, next := s.next + 1 }

abbrev Env := List AV
inductive Opd where
  | s (i : Nat)
  | c (v : AV)
  | g (i : Nat)
  deriving Inhabited, Repr

inductive Cv where
  | toInt (k : IntKind)
  | same
  | itos
  | b2s
  | r2s
  | s2b
  | s2r
  | mark
  | s2h
  deriving Inhabited, Repr, DecidableEq

/-- What '==' compares: a bool, a number, a text; cells of these; nil pointers, nil slices; interface values whose types are told. -/
inductive SK where
  | b
  | i
  | s
  deriving Inhabited, Repr, DecidableEq
inductive EqF where
  | one (k : SK)
  | many (ks : List SK)
  deriving Inhabited, Repr
inductive EqK where
  | flat (q : EqF)
  | ptr
  | slc
  | ifc (oks : List (Nat × EqF))
  deriving Inhabited, Repr

inductive MOp where
  | mv (x : Opd)
  | pick (c a b : Opd)
  | bin (op : BinOp) (x y : Opd)
  | eqv (neg : Bool) (q : EqK) (x y : Opd)
  | un (op : UnOp) (x : Opd)
  | conv (c : Cv) (x : Opd)
  | mki (t : Nat) (x : Opd)
  | slc (size : Nat) (x : Opd) (lo hi : Option Opd)
  | sls (x : Opd) (lo hi : Option Opd)
  | lens (x : Opd)
  | ixs (x i : Opd)
  | fa (off : Nat) (x : Opd)
  | fld (off : Nat) (n : Option Nat) (x : Opd)
  | ixa (size : Nat) (x i : Opd)
  | ixp (len size : Nat) (x i : Opd)
  | ix (len size : Nat) (agg : Bool) (x i : Opd)
  | load (n : Option Nat) (x : Opd)
  | store (n : Nat) (x v : Opd)
  | nchk (x : Opd)
  | tas (t : Nat) (zero : AV) (ok : Bool) (x : Opd)
  | ext (i : Nat) (x : Opd)
  | call (f : Nat) (args : List (Nat × Opd))
  | len (x : Opd)
  | mn (args : List Opd)
  | mx (args : List Opd)
  | app (heap : Bool) (size bytes : Nat) (x y : Opd)
  | build (zs : List AV) (parts : List (Nat × Nat × Opd))
  | bsl (heap : Bool) (size len : Nat) (zs : List AV) (parts : List (Nat × Nat × Opd))
  | bsi (size len : Nat) (zs : List AV) (parts : List (Nat × Nat × Opd))
  | alloc (zs : List AV)
  | box (x : Opd)
  | mks (size bytes : Nat) (zs : List AV) (l c : Opd)
  | cpy (size : Nat) (x y : Opd)
  | rng (x : Opd)
  | nxt (x : Opd)
  | mkc (f : Nat) (cs : List Opd)
  | callv (x : Opd) (args : List (Nat × Opd))
  deriving Inhabited, Repr

structure MIns where
  dst : Option Nat
  op : MOp
  guard : Option (Nat × Bool)
  deriving Inhabited, Repr

inductive MC where
  | skip
  | reg (ops : List MIns)
  | draw (ops : List MIns) (before : List Nat)
  | seq (a b : MC)
  | cond (c : Opd) (a b : MC)
  | block (id : Nat) (a : MC)
  | loop (live : List Bool) (a : MC)
  | exit (id : Nat)
  | ret
  deriving Inhabited, Repr

inductive MRes where
  | tmp (size : Nat) (i : Nat)
  | cell (i : Nat) (n : Option Nat)
  deriving Inhabited, Repr

structure MFun where
  ntmps : Nat
  res : List MRes
  body : MC
  deriving Inhabited, Repr

def isNeq : BinOp → Bool
  | .neq => true
  | _ => false

/-! ### Operands -/
def Env.at (e : Env) (i : Nat) : AV := e.getD i .undef
def opd (gl : Nat → AV) (e : Env) : Opd → AV
  | .s i => e.at i
  | .c v => v
  | .g i => gl i

/-! ### Pure operations -/
def eqSc : SK → AV → AV → Option Bool
  | .b, .bool a, .bool b => some (a == b)
  | .i, .int k a, .int k' b => if k = k' then some (a == b) else none
  | .s, .str a, .str b => some (a == b)
  | _, _, _ => none
def eqScL : List SK → List AV → List AV → Option Bool
  | [], [], [] => some true
  | k :: ks, x :: xs, y :: ys => match eqSc k x y with
    | some true => eqScL ks xs ys
    | some false => some false
    | none => none
  | _, _, _ => none
def eqFl : EqF → AV → AV → Option Bool
  | .one k, x, y => eqSc k x y
  | .many ks, .agg xs, .agg ys => eqScL ks xs ys
  | _, _, _ => none
def eqOf : List (Nat × EqF) → Nat → Option EqF
  | [], _ => none
  | (t, q) :: l, u => if t = u then some q else eqOf l u
def eqAV : EqK → AV → AV → Option Bool
  | .flat q, x, y => eqFl q x y
  | .ptr, .nilp, .nilp => some true
  | .ptr, .nilp, .ptr _ _ => some false
  | .ptr, .ptr _ _, .nilp => some false
  | .slc, .nils, .nils => some true
  | .slc, .nils, .sl _ _ _ => some false
  | .slc, .sl _ _ _, .nils => some false
  | .slc, .nils, .hs _ _ _ _ => some false
  | .slc, .hs _ _ _ _, .nils => some false
  | .ifc _, .nili, .nili => some true
  | .ifc _, .nili, .iface _ _ => some false
  | .ifc _, .iface _ _, .nili => some false
  | .ifc oks, .iface t x, .iface u y => if t = u then match eqOf oks t with
    | some q => eqFl q x y
    | none => none
    else some false
  | _, _, _ => none

def binS (op : BinOp) (a b : List UInt8) : Option AV :=
  match op with
  | .add => if a.length + b.length ≤ 140737488355328 then some (.str (a ++ b)) else none
  | .eql => some (.bool (a == b))
  | .neq => some (.bool (!(a == b)))
  | _ => none
def binI (op : BinOp) (k : IntKind) (a b : Int) : Option AV :=
  match op with
  | .add => some (.int k (k.wrap (a + b)))
  | .sub => some (.int k (k.wrap (a - b)))
  | .mul => some (.int k (k.wrap (a * b)))
  | .quo => if b = 0 then none else some (.int k (k.wrap (a.tdiv b)))
  | .rem => if b = 0 then none else some (.int k (a.tmod b))
  | .and => some (.int k (k.wrap (BitVec.ofInt k.bits a &&& BitVec.ofInt k.bits b).toNat))
  | .or => some (.int k (k.wrap (BitVec.ofInt k.bits a ||| BitVec.ofInt k.bits b).toNat))
  | .xor => some (.int k (k.wrap (BitVec.ofInt k.bits a ^^^ BitVec.ofInt k.bits b).toNat))
  | .andNot => some (.int k (k.wrap (BitVec.ofInt k.bits a &&& ~~~ BitVec.ofInt k.bits b).toNat))
  | .eql => some (.bool (a == b))
  | .neq => some (.bool (a != b))
  | .lss => some (.bool (decide (a < b)))
  | .leq => some (.bool (decide (a ≤ b)))
  | .gtr => some (.bool (decide (a > b)))
  | .geq => some (.bool (decide (a ≥ b)))
  | _ => none
def shI (op : BinOp) (k : IntKind) (a b : Int) : Option AV :=
  if b < 0 then none
  else match op with
    | .shl => some (.int k (k.wrap (a * 2 ^ (min b.toNat k.bits))))
    | .shr => some (.int k (a.fdiv (2 ^ (min b.toNat k.bits))))
    | _ => none
def binV (op : BinOp) : AV → AV → Option AV
  | .int k a, .int k' b => match op with
    | .shl => shI .shl k a b
    | .shr => shI .shr k a b
    | o => if k = k' then binI o k a b else none
  | .str a, .str b => binS op a b
  | _, _ => none
def unV (op : UnOp) : AV → Option AV
  | .bool b => match op with
    | .not => some (.bool (!b))
    | _ => none
  | .int k n => match op with
    | .neg => some (.int k (k.wrap (0 - n)))
    | .xor => some (.int k (k.wrap (BitVec.ofInt k.bits (if k.signed then -1 else k.max) ^^^ BitVec.ofInt k.bits n).toNat))
    | _ => none
  | _ => none
def toByte : AV → Option UInt8
  | .int .u8 n => some (UInt8.ofNat n.toNat)
  | _ => none
def toBytes : List AV → Option (List UInt8)
  | [] => some []
  | x :: xs => match toByte x, toBytes xs with
    | some b, some l => some (b :: l)
    | _, _ => none
def runes : List AV → Option (List UInt8)
  | [] => some []
  | .int .i32 n :: xs => match runes xs with
    | some l => some ((Utf8.encode n).data.toList ++ l)
    | none => none
  | _ => none
def convP : Cv → AV → Option AV
  | .toInt k, .int _ n => some (.int k (k.wrap n))
  | .same, .str s => some (.str s)
  | .itos, .int _ n => some (.str (Utf8.encode n).data.toList)
  | .b2s, .nils => some (.str [])
  | .b2s, .sl cs n _ => if cs.length = n then (toBytes cs).map .str else none
  | .r2s, .nils => some (.str [])
  | .r2s, .sl cs n _ => if cs.length = n then (runes cs).map .str else none
  | _, _ => none
def idx (n : Nat) : AV → Option Nat
  | .int _ i => if 0 ≤ i ∧ i < n then some i.toNat else none
  | _ => none
def bnd (n : Nat) : AV → Option Nat
  | .int _ i => if 0 ≤ i ∧ i ≤ n then some i.toNat else none
  | _ => none
def bndO (d n : Nat) : Option AV → Option Nat
  | none => some d
  | some v => bnd n v
def tkCut (size h n : Nat) : Option (Nat × Nat × Nat) → Option (Nat × Nat × Nat)
  | none => none
  | some (t, v, z) => if h = n ∧ z = size then some (t, v, z) else none
def slcV (size : Nat) (x : AV) (lo hi : Option AV) : Option AV :=
  match x with
  | .nils => match bndO 0 0 hi with
    | some h => match bndO 0 h lo with
      | some _ => some .nils
      | none => none
    | none => none
  | .sl cs n tk => match bndO n n hi with
    | some h => match bndO 0 h lo with
      | some l => some (.sl ((cs.take (h * size)).drop (l * size)) (h - l) (tkCut size h n tk))
      | none => none
    | none => none
  | .hs z b o n => match bndO n n hi with
    | some h => match bndO 0 h lo with
      | some l => if z = size ∧ (l = 0 ∨ l < h) then some (.hs z b (o + l * size) (h - l)) else none
      | none => none
    | none => none
  | _ => none
def slcS (x : AV) (lo hi : Option AV) : Option AV :=
  match x with
  | .str s => match bndO s.length s.length hi with
    | some h => match bndO 0 h lo with
      | some l => some (.str ((s.take h).drop l))
      | none => none
    | none => none
  | _ => none
def cut (cs : List AV) (off : Nat) : Option Nat → Option AV
  | some n => if off + n ≤ cs.length then some (.agg ((cs.drop off).take n)) else none
  | none => cs[off]?
def fillL (cells : List AV) (off : Nat) : List AV → List AV
  | [] => cells
  | v :: vs => fillL (cells.set off v) (off + 1) vs
def cellsOf : AV → Option (List AV)
  | .agg cs => some cs
  | .undef => none
  | .tup _ => none
  | v => some [v]
def storeL (cs : List AV) (o : Nat) (vs : List AV) : Option (List AV) := if o + vs.length ≤ cs.length then some (fillL cs o vs) else none
def fill (gl : Nat → AV) (e : Env) (cells : List AV) : List (Nat × Nat × Opd) → Option (List AV)
  | [] => some cells
  | (off, size, x) :: ps => match cellsOf (opd gl e x) with
    | some vs => if vs.length = size then match storeL cells off vs with
      | some cells' => fill gl e cells' ps
      | none => none else none
    | none => none
def mnV : AV → AV → Option AV
  | .int k x, .int k' y => if k = k' then some (.int k (if y < x then y else x)) else none
  | _, _ => none
def mxV : AV → AV → Option AV
  | .int k x, .int k' y => if k = k' then some (.int k (if y > x then y else x)) else none
  | _, _ => none
def foldV (f : AV → AV → Option AV) : AV → List AV → Option AV
  | x, [] => some x
  | x, y :: ys => match f x y with
    | some z => foldV f z ys
    | none => none
def isNum : AV → Bool
  | .int _ _ => true
  | _ => false

def evP (gl : Nat → AV) (e : Env) : MOp → Option AV
  | .mv x => some (opd gl e x)
  | .pick c a b => match opd gl e c with
    | .bool true => some (opd gl e a)
    | .bool false => some (opd gl e b)
    | _ => none
  | .bin op x y => binV op (opd gl e x) (opd gl e y)
  | .eqv neg q x y => match eqAV q (opd gl e x) (opd gl e y) with
    | some b => some (.bool (if neg then !b else b))
    | none => none
  | .un op x => unV op (opd gl e x)
  | .conv c x => convP c (opd gl e x)
  | .mki t x => some (.iface t (opd gl e x))
  | .slc size x lo hi => slcV size (opd gl e x) (lo.map (opd gl e)) (hi.map (opd gl e))
  | .sls x lo hi => slcS (opd gl e x) (lo.map (opd gl e)) (hi.map (opd gl e))
  | .lens x => match opd gl e x with
    | .str s => some (.int .i64 s.length)
    | _ => none
  | .ixs x i => match opd gl e x with
    | .str s => match idx s.length (opd gl e i) with
      | some j => match s[j]? with
        | some b => some (.int .u8 b.toNat)
        | none => none
      | none => none
    | _ => none
  | .fa off x => match opd gl e x with
    | .ptr b o => some (.ptr b (o + off))
    | .rp cs => if off ≤ cs.length then some (.rp (cs.drop off)) else none
    | _ => none
  | .fld off n x => match opd gl e x with
    | .agg cs => cut cs off n
    | _ => none
  | .ixa size x i => match opd gl e x with
    | .sl cs n _ => match idx n (opd gl e i) with
      | some j => some (.rp (cs.drop (j * size)))
      | none => none
    | .hs _ b o n => match idx n (opd gl e i) with
      | some j => some (.ptr b (o + j * size))
      | none => none
    | _ => none
  | .ixp len size x i => match opd gl e x with
    | .ptr b o => match idx len (opd gl e i) with
      | some j => some (.ptr b (o + j * size))
      | none => none
    | .rp cs => match idx len (opd gl e i) with
      | some j => if j * size ≤ cs.length then some (.rp (cs.drop (j * size))) else none
      | none => none
    | _ => none
  | .ix len size agg x i => match opd gl e x with
    | .agg cs => match idx len (opd gl e i) with
      | some j => cut cs (j * size) (if agg then some size else none)
      | none => none
    | _ => none
  | .load n x => match opd gl e x with
    | .rp cs => cut cs 0 n
    | _ => none
  | .nchk x => match opd gl e x with
    | .ptr b o => some (.ptr b o)
    | .rp cs => some (.rp cs)
    | .clo f cs => some (.clo f cs)
    | _ => none
  | .tas t zero ok x => match opd gl e x with
    | .iface u v => if u = t then some (if ok then .tup [v, .bool true] else v) else if ok then some (.tup [zero, .bool false]) else none
    | .nili => if ok then some (.tup [zero, .bool false]) else none
    | _ => none
  | .ext i x => match opd gl e x with
    | .tup vs => vs[i]?
    | _ => none
  | .len x => match opd gl e x with
    | .nils => some (.int .i64 0)
    | .sl _ n _ => some (.int .i64 n)
    | .hs _ _ _ n => some (.int .i64 n)
    | _ => none
  | .mn args => match args.map (opd gl e) with
    | [] => none
    | x :: xs => if isNum x then foldV mnV x xs else none
  | .mx args => match args.map (opd gl e) with
    | [] => none
    | x :: xs => if isNum x then foldV mxV x xs else none
  | .build zs parts => (fill gl e zs parts).map .agg
  | .mkc f cs => some (.clo f (cs.map (opd gl e)))
  | _ => none

/-! ### What reads the small heap -/
def evR (gl : Nat → AV) (e : Env) (s : St) : MOp → Option AV
  | .load n x => match opd gl e x with
    | .ptr b o => match s.get b with
      | some (.cells _ cs) => cut cs o n
      | _ => none
    | _ => none
  | .conv c x => match opd gl e x with
    | .hs _ b o n => match s.get b with
      | some (.cells z cs) => if z = 1 ∧ c = .b2s ∧ o + n ≤ cs.length then (toBytes ((cs.drop o).take n)).map .str else none
      | _ => none
    | _ => none
  | _ => none

/-! ### What turns it -/
def bytesAV (s : List UInt8) : List AV := s.map fun b => .int .u8 b.toNat
/-- The cells that an append adds. -/
def newsOf (size : Nat) (s : St) : AV → Option (List AV × Nat)
  | .nils => some ([], 0)
  | .sl cs n _ => if cs.length = n * size then some (cs, n) else none
  | .str b => if size = 1 then some (bytesAV b, b.length) else none
  | .hs _ b o n => match s.get b with
    | some (.cells z cs) => if z = size ∧ o + n * size ≤ cs.length then some ((cs.drop o).take (n * size), n) else none
    | _ => none
  | _ => none
/-- Whether a slice of so many elements may be. -/
def fits (n bytes : Nat) : Bool := decide (n * bytes ≤ 140737488355328) && decide (n ≤ 140737488355328)
def appS (size bytes : Nat) (s : St) (x : AV) (news : List AV) (m : Nat) : Option (AV × St) :=
  match x with
  | .nils => if m = 0 then some (.nils, s)
    else if fits m bytes = true then some (.sl news m (some (s.next, 0, size)), s.new (.tick size 0)) else none
  | .sl cs n (some (t, v, _)) => match s.get t with
    | some (.tick z v') => if z = size ∧ v = v' ∧ cs.length = n * size ∧ fits (n + m) bytes = true then some (.sl (cs ++ news) (n + m) (some (t, v + 1, size)), s.upd t (.tick size (v + 1))) else none
    | _ => none
  | _ => none
/-- The heap's own make: the old block is dead, the new one holds all. -/
def appH (size bytes : Nat) (s : St) (x : AV) (news : List AV) (m : Nat) : Option (AV × St) :=
  match x with
  | .nils => if m = 0 then none
    else if fits m bytes = true then some (.hs size s.next 0 m, s.new (.cells size news)) else none
  | .hs _ b o n => match s.get b with
    | some (.cells z cs) => if z = size ∧ o = 0 ∧ cs.length = n * size ∧ fits (n + m) bytes = true then some (.hs size s.next 0 (n + m), (s.upd b .dead).new (.cells size (cs ++ news))) else none
    | _ => none
  | _ => none
/-- What is a list already is appended to as a list. -/
def notSl : AV → Bool
  | .sl _ _ _ => false
  | _ => true
def evW (gl : Nat → AV) (e : Env) (s : St) : MOp → Option (AV × St)
  | .store n x v => match opd gl e x with
    | .ptr b o => match s.get b with
      | some (.cells z cs) => match cellsOf (opd gl e v) with
        | some vs => if vs.length = n then match storeL cs o vs with
          | some cs' => some (.undef, s.upd b (.cells z cs'))
          | none => none else none
        | none => none
      | _ => none
    | _ => none
  | .conv .s2b x => match opd gl e x with
    | .str b => if b.length ≤ 140737488355328 then some (.sl (bytesAV b) b.length none, s) else none
    | _ => none
  | .conv .s2h x => match opd gl e x with
    | .str b => if b.length ≤ 140737488355328 then some (.hs 1 s.next 0 b.length, s.new (.cells 1 (bytesAV b))) else none
    | _ => none
  | .conv .mark x => match opd gl e x with
    | .sl cs n (some (t, v, _)) => match s.get t with
      | some (.tick _ v') => if v = v' then some (.sl cs n none, s.upd t .dead) else none
      | _ => none
    | _ => none
  | .app h size bytes x y => match newsOf size s (opd gl e y) with
    | some (news, m) => if (h && notSl (opd gl e x)) = true then appH size bytes s (opd gl e x) news m else appS size bytes s (opd gl e x) news m
    | none => none
  | .bsl h size len zs parts => match fill gl e zs parts with
    | some cs => if h then some (.hs size s.next 0 len, s.new (.cells size cs)) else some (.sl cs len (some (s.next, 0, size)), s.new (.tick size 0))
    | none => none
  | .bsi _ len zs parts => match fill gl e zs parts with
    | some cs => some (.sl cs len none, s)
    | none => none
  | .alloc zs => some (.ptr s.next 0, s.new (.cells 0 zs))
  | .box x => match cellsOf (opd gl e x) with
    | some cs => some (.ptr s.next 0, s.new (.cells 0 cs))
    | none => none
  | .mks size bytes zs l c => match opd gl e l, opd gl e c with
    | .int .i64 l, .int .i64 c => if l = c ∧ 0 ≤ l ∧ fits l.toNat bytes = true then
        some (.hs size s.next 0 l.toNat, s.new (.cells size ((List.replicate l.toNat zs).flatten))) else none
    | _, _ => none
  | .cpy size x y => match opd gl e x with
    | .hs _ b o n => match newsOf size s (opd gl e y), s.get b with
      | some (news, m), some (.cells z cs) => if z = size then match storeL cs o (news.take (min m n * size)) with
        | some cs' => some (.int .i64 (min m n : Nat), s.upd b (.cells z cs'))
        | none => none else none
      | _, _ => none
    | _ => none
  | .rng x => match opd gl e x with
    | .str b => some (.ptr s.next 0, s.new (.iter b 0))
    | _ => none
  | .nxt x => match opd gl e x with
    | .ptr b 0 => match s.get b with
      | some (.iter l p) => if p < l.length then
          let d := Utf8.decode ⟨l.toArray⟩ p
          some (.tup [.bool true, .int .i64 p, .int .i32 d.1], s.upd b (.iter l (p + d.2)))
        else some (.tup [.bool false], s)
      | _ => none
    | _ => none
  | _ => none

/-! ### Slices of the heap's own make are handed on as lists -/
def freeze (size : Nat) (s : St) : AV → Option (AV × St)
  | .hs _ b o n => match s.get b with
    | some (.cells z cs) => if z = size ∧ o + n * size ≤ cs.length then some (.sl ((cs.drop o).take (n * size)) n none, s.upd b (.froz z cs)) else none
    | some (.froz z cs) => if z = size ∧ o + n * size ≤ cs.length then some (.sl ((cs.drop o).take (n * size)) n none, s) else none
    | _ => none
  | v => some (v, s)
def freezeL (gl : Nat → AV) (e : Env) : St → List (Nat × Opd) → Option (List AV × St)
  | s, [] => some ([], s)
  | s, (n, x) :: xs => match freeze n s (opd gl e x) with
    | some (v, s') => match freezeL gl e s' xs with
      | some (vs, s'') => some (v :: vs, s'')
      | none => none
    | none => none

/-! ### Regions, code, calls -/
def Env.put (e : Env) : Option Nat → AV → Env
  | some d, v => e.set d v
  | none, _ => e
abbrev Calls' := Nat → List AV → St → Option (AV × St)
def loudOf : MOp → Nat
  | .bsi _ _ _ _ => 0
  | _ => 2
/-- One operation: what it answers, the state behind it, how loud it is (0: it hangs on its operands alone; 1: it reads; 2: it turns something). -/
def ev1 (gl : Nat → AV) (call : Calls') (e : Env) (s : St) (m : MOp) : Option (AV × St × Nat) :=
  match evP gl e m with
  | some v => some (v, s, 0)
  | none => match evR gl e s m with
    | some v => some (v, s, 1)
    | none => match m with
      | .call f args => match freezeL gl e s args with
        | some (vs, s1) => match call f vs s1 with
          | some (v, s') => some (v, s', 2)
          | none => none
        | none => none
      | .callv x args => match opd gl e x with
        | .clo f cs => match freezeL gl e s args with
          | some (vs, s1) => match call f (vs ++ cs) s1 with
            | some (v, s') => some (v, s', 2)
            | none => none
          | none => none
        | _ => none
      | m => match evW gl e s m with
        | some (v, s') => some (v, s', loudOf m)
        | none => none
/-! Steps one behind the other; each hangs on what is ahead alone (so that nothing behind is looked at before). -/
def opR {α : Type} (r : Option (AV × St × Nat)) (f : AV → St → Nat → Option α) : Option α :=
  match r with
  | some (v, s, n) => f v s n
  | none => none
def guardR {α : Type} (e : Env) (g : Option (Nat × Bool)) (a b : Option α) : Option α :=
  match g with
  | none => a
  | some (i, w) => match e.at i with
    | .bool c => if (c == w) = true then a else b
    | .tup [] => b
    | _ => none
def evOps (gl : Nat → AV) (call : Calls') : List MIns → Env → St → Option (Env × St)
  | [], e, s => some (e, s)
  | i :: is, e, s => guardR e i.guard
      (opR (ev1 gl call e s i.op) fun v s' _ => evOps gl call is (e.put i.dst v) s')
      (evOps gl call is (e.put i.dst (.tup [])) s)
/-! Whether two values are one. -/
mutual
def same : AV → AV → Bool
  | .undef, .undef => true
  | .bool a, .bool b => a == b
  | .int k a, .int l b => decide (k = l) && a == b
  | .str a, .str b => a == b
  | .nilp, .nilp => true
  | .ptr a b, .ptr c d => a == c && b == d
  | .rp a, .rp b => sameL a b
  | .nils, .nils => true
  | .sl a n t, .sl b m u => sameL a b && n == m && t == u
  | .hs a b c d, .hs x y z w => a == x && b == y && c == z && d == w
  | .nili, .nili => true
  | .iface t v, .iface u w => t == u && same v w
  | .agg a, .agg b => sameL a b
  | .tup a, .tup b => sameL a b
  | .clo f a, .clo g b => f == g && sameL a b
  | _, _ => false
def sameL : List AV → List AV → Bool
  | [], [] => true
  | a :: as, b :: bs => same a b && sameL as bs
  | _, _ => false
end
def sameO : Option Obj → Option Obj → Bool
  | some (.cells n a), some (.cells m b) => n == m && sameL a b
  | some (.tick n a), some (.tick m b) => n == m && a == b
  | some (.iter l p), some (.iter m q) => l == m && p == q
  | some .dead, some .dead => true
  | some (.froz n a), some (.froz m b) => n == m && sameL a b
  | none, none => true
  | _, _ => false
/-- What an operation did: how loud it was, what it read, the state ahead of it and behind it. -/
structure Rec where
  n : Nat
  b : Nat
  s : St
  s' : St
  deriving Inhabited
/-- The block that a loud look is at. -/
def blockOf (gl : Nat → AV) (e : Env) : MOp → Nat
  | .load _ x => match opd gl e x with
    | .ptr b _ => b
    | _ => 0
  | .conv _ x => match opd gl e x with
    | .hs _ b _ _ => b
    | _ => 0
  | _ => 0
/-- Copies are followed to where they came from. -/
def rootO (is : List MIns) : Nat → Opd → Opd
  | 0, x => x
  | k + 1, .s i => match is.find? (fun m => m.dst == some i) with
    | some ⟨_, .mv x, none⟩ => rootO is k x
    | _ => .s i
  | _, x => x
/-- What a make makes. -/
def madeV (size bytes : Nat) (zs : List AV) (n : Nat) : AV → AV → Option (AV × Nat × List AV)
  | .int .i64 l, .int .i64 c => if l = c ∧ 0 ≤ l ∧ fits l.toNat bytes = true then some (.hs size n 0 l.toNat, size, (List.replicate l.toNat zs).flatten) else none
  | _, _ => none
/-- What is made at block n. -/
def placeV (gl : Nat → AV) (e : Env) (op : MOp) (n : Nat) : Option (AV × Nat × List AV) :=
  match op with
  | .alloc zs => some (.ptr n 0, 0, zs)
  | .mks size bytes zs l c => madeV size bytes zs n (opd gl e l) (opd gl e c)
  | _ => none
/-- Blocks that hang on nothing in a region are made ahead of all: their cells. -/
def allocZ (gl : Nat → AV) (e : Env) (is : List MIns) (i : MIns) : Option (Nat × List AV) :=
  match i.op, i.guard with
  | .alloc zs, none => some (0, zs)
  | .mks size bytes zs l c, none => (madeV size bytes zs 0 (opd gl e (rootO is 8 l)) (opd gl e (rootO is 8 c))).map (·.2)
  | _, _ => none
abbrev AZ := MIns → Option (Nat × List AV)
def reserve (az : AZ) : List MIns → St → St
  | [], s => s
  | i :: is, s => match az i with
    | some zs => reserve az is (s.new (.cells zs.1 zs.2))
    | none => reserve az is s
def placeR {α : Type} (s : St) (n : Nat) (zs : Nat × List AV) (r : Option α) : Option α := if sameO (s.get n) (some (.cells zs.1 zs.2)) = true then r else none
/-- The same, and how loud each was. -/
def evLoud (gl : Nat → AV) (call : Calls') (az : AZ) : List MIns → Nat → Env → St → List Rec → Option (Env × St × List Rec)
  | [], _, e, s, l => some (e, s, l.reverse)
  | i :: is, n, e, s, l => match az i with
    | some _ => match placeV gl e i.op n with
      | some (v, zs) => placeR s n zs (evLoud gl call az is (n + 1) (e.put i.dst v) s (⟨1, n, s, s⟩ :: l))
      | none => none
    | none => guardR e i.guard
      (opR (ev1 gl call e s i.op) fun v s' k => evLoud gl call az is n (e.put i.dst v) s' (⟨k, blockOf gl e i.op, s, s'⟩ :: l))
      (evLoud gl call az is n (e.put i.dst (.tup [])) s (⟨0, 0, s, s⟩ :: l))
/-- No two that may come in either order disturb one another. -/
def calmTwo (x y : Rec) : Bool :=
  match x.n, y.n with
  | 0, _ => true
  | _, 0 => true
  | 1, 1 => true
  | 1, _ => sameO (y.s.get x.b) (y.s'.get x.b)
  | _, 1 => sameO (x.s.get y.b) (x.s'.get y.b)
  | _, _ => false
def calmPair (before : List Nat) (l : List Rec) (i j : Nat) : Bool :=
  (before.getD j 0).testBit i || calmTwo (l.getD i default) (l.getD j default)
def calm (before : List Nat) (l : List Rec) : Bool :=
  (List.range l.length).all fun j => (List.range j).all fun i => calmPair before l i j

inductive Ex where
  | nrm
  | exit (id : Nat)
  | ret
  deriving Inhabited, Repr, DecidableEq
def maskE : List Bool → Env → Env
  | b :: bs, v :: vs => (if b then v else .undef) :: maskE bs vs
  | _, e => e
abbrev Out := Option (Ex × Env × St)
def seqR (r : Out) (f : Env → St → Out) : Out :=
  match r with
  | some (.nrm, e, s) => f e s
  | some (.exit i, e, s) => some (.exit i, e, s)
  | some (.ret, e, s) => some (.ret, e, s)
  | none => none
def regR (r : Option (Env × St)) : Out :=
  match r with
  | some (e, s) => some (.nrm, e, s)
  | none => none
def drawR (before : List Nat) (r : Option (Env × St × List Rec)) : Out :=
  match r with
  | some (e, s, l) => if calm before l = true then some (.nrm, e, s) else none
  | none => none
def condR (c : AV) (a b : Out) : Out :=
  match c with
  | .bool true => a
  | .bool false => b
  | _ => none
def blockR (id : Nat) (r : Out) : Out :=
  match r with
  | some (.exit i, e, s) => if i = id then some (.nrm, e, s) else some (.exit i, e, s)
  | r => r
def iter (f : Env → St → Out) (live : List Bool) : Nat → Env → St → Out
  | 0, _, _ => none
  | k + 1, e, s => seqR (f (maskE live e) s) (iter f live k)
def evC (gl : Nat → AV) (call : Calls') (k : Nat) : MC → Env → St → Out
  | .skip, e, s => some (.nrm, e, s)
  | .reg ops, e, s => regR (evOps gl call ops e s)
  | .draw ops before, e, s => drawR before (evLoud gl call (allocZ gl e ops) ops s.next e (reserve (allocZ gl e ops) ops s) [])
  | .seq a b, e, s => seqR (evC gl call k a e s) (evC gl call k b)
  | .cond c a b, e, s => condR (opd gl e c) (evC gl call k a e s) (evC gl call k b e s)
  | .block id a, e, s => blockR id (evC gl call k a e s)
  | .loop live a, e, s => iter (evC gl call k a) live k e s
  | .exit id, e, s => some (.exit id, e, s)
  | .ret, e, s => some (.ret, e, s)
def resV (e : Env) (s : St) : MRes → Option (AV × St)
  | .tmp size i => freeze size s (e.at i)
  | .cell i n => match e.at i with
    | .ptr b o => match s.get b with
      | some (.cells _ cs) => match cut cs o n with
        | some v => some (v, s)
        | none => none
      | _ => none
    | _ => none
def resVs (e : Env) : St → List MRes → Option (List AV × St)
  | s, [] => some ([], s)
  | s, r :: rs => match resV e s r with
    | some (v, s') => match resVs e s' rs with
      | some (vs, s'') => some (v :: vs, s'')
      | none => none
    | none => none
def oneOr : List AV → AV
  | [v] => v
  | vs => .tup vs
def outR (res : List MRes) (r : Out) : Option (AV × St) :=
  match r with
  | some (.exit _, _, _) => none
  | some (_, e, s) => match resVs e s res with
    | some (vs, s') => some (oneOr vs, s')
    | none => none
  | none => none
def env0 (n : Nat) (args : List AV) : Env := args ++ List.replicate (n - args.length) .undef
/-- A function of the program; `ext`: what is known of some functions otherwise. -/
def evF (gl : Nat → AV) (F : Nat → Option MFun) (ext : Nat → Option (List AV → St → Option (AV × St))) : Nat → Calls'
  | 0, _, _, _ => none
  | k + 1, f, args, s => match ext f with
    | some h => h args s
    | none => match F f with
      | none => none
      | some m => outR m.res (evC gl (evF gl F ext k) k m.body (env0 m.ntmps args) s)

end Go.Ab
