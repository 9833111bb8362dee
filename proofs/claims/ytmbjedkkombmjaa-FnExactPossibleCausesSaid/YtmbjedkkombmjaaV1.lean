/- The framework by which this claim is proved, part 1 of 6: an interpreter of the program over value trees, and its soundness. No conditions. -/
import GoSem.Core.Code
import GoSem.Op.String
import GoSem.Core.World
import Derived.Laws.Sem
import Derived.Control
import Derived.Calls
/- Value trees and the small code language: the pure interpreter. -/
namespace Go.Vs
open Go

/-- A value as a tree: slices and pointers hold their contents; `own`: nobody else reaches this memory. -/
inductive Tree where
  | int (k : IntKind) (n : Int)
  | bool (b : Bool)
  | str (s : List UInt8)
  | nil (sz : Nat)
  | nilp
  | sl (own : Bool) (sz : Nat) (es : List Tree)
  | ptr (own : Bool) (cs : List Tree)
  | agg (cs : List Tree)
  | fn (f : Nat) (caps : List Tree)
  | tup (vs : List Tree)
  | dead
  deriving Inhabited

def Tree.cells : Tree → List Tree
  | .agg cs => cs
  | t => [t]

/-- the tree of some cells, as the element `old` was made -/
def Tree.withCells (old : Tree) (cs : List Tree) : Tree :=
  match old, cs with
  | .agg _, cs => .agg cs
  | _, [.agg c] => .agg [.agg c]
  | _, [t] => t
  | _, cs => .agg cs

mutual
/-- no owned memory in it -/
def Tree.plain : Tree → Bool
  | .sl o _ _ => !o
  | .ptr o _ => !o
  | .agg cs => Tree.plainL cs
  | .tup cs => Tree.plainL cs
  | .fn _ cs => Tree.plainL cs
  | .dead => false
  | _ => true
def Tree.plainL : List Tree → Bool
  | [] => true
  | t :: ts => t.plain && Tree.plainL ts
end

mutual
/-- the same, nothing owned any more -/
def Tree.shr : Tree → Tree
  | .nil sz => .sl false sz []
  | .sl _ sz es => .sl false sz (Tree.shrL es)
  | .ptr _ cs => .ptr false (Tree.shrL cs)
  | .agg cs => .agg (Tree.shrL cs)
  | .tup cs => .tup (Tree.shrL cs)
  | .fn f cs => .fn f (Tree.shrL cs)
  | t => t
def Tree.shrL : List Tree → List Tree
  | [] => []
  | t :: ts => t.shr :: Tree.shrL ts
end

mutual
/-- no shared memory in it -/
def Tree.noSh : Tree → Bool
  | .sl o _ es => es.isEmpty || (o && Tree.noShL es)
  | .ptr o cs => o && Tree.noShL cs
  | .agg cs => Tree.noShL cs
  | .tup cs => Tree.noShL cs
  | .fn _ cs => Tree.noShL cs
  | _ => true
def Tree.noShL : List Tree → Bool
  | [] => true
  | t :: ts => t.noSh && Tree.noShL ts
end

def Tree.arity : Tree → Nat
  | .agg cs => cs.length + 1
  | _ => 0

/-- may be laid into memory -/
def Tree.storable : Tree → Bool
  | .tup _ => false
  | .dead => false
  | _ => true

abbrev Path := List (Nat × Nat)

/-- the cells of element i of an owned node -/
def Tree.elem : Tree → Nat → Option Tree
  | .sl true _ es, i => es[i]?
  | .ptr true cs, i => if i = 0 then some (.agg cs) else none
  | _, _ => none

def Tree.kid (t : Tree) (s : Nat × Nat) : Option Tree := (t.elem s.1).bind fun e => e.cells[s.2]?

def Tree.tAt : Tree → Path → Option Tree
  | t, [] => some t
  | t, s :: p => (t.kid s).bind fun k => k.tAt p

def setRange (cs : List Tree) (j : Nat) (new : List Tree) : List Tree := cs.take j ++ new ++ cs.drop (j + new.length)

/-- cells from (i, j) on replaced, in an owned node -/
def Tree.setCells : Tree → Nat → Nat → List Tree → Option Tree
  | .sl true sz es, i, j, new => (es[i]?).bind fun e =>
      if j + new.length ≤ e.cells.length then some (.sl true sz (es.set i (e.withCells (setRange e.cells j new)))) else none
  | .ptr true cs, i, j, new => if i = 0 ∧ j + new.length ≤ cs.length then some (.ptr true (setRange cs j new)) else none
  | _, _, _, _ => none

def Tree.upd : Tree → Path → Tree → Option Tree
  | _, [], n => some n
  | t, s :: p, n => (t.kid s).bind fun k => (k.upd p n).bind fun k' => t.setCells s.1 s.2 [k']

def Tree.szOf : Tree → Nat
  | .sl _ sz _ => sz
  | .nil sz => sz
  | _ => 0

/-- what a slot holds -/
inductive AV where
  | tree (t : Tree)
  | bor (r : Nat) (p : Path)
  | adr (r : Nat) (p : Path) (i j : Nat)
  | clo (f : Nat) (caps : List Nat)
  | undef
  | gone
  deriving Inhabited

abbrev Env := List (Nat × AV)

def get : Env → Nat → AV
  | [], _ => .undef
  | (k, a) :: E, s => if k = s then a else get E s

inductive Opd where
  | c (t : Tree)
  | v (s : Nat)
  deriving Inhabited

inductive Md where
  | move | freeze | copy
  deriving Inhabited

/-- what is compared -/
inductive EqK where
  | b | i | s
  deriving DecidableEq, Inhabited

/-- one operation -/
inductive Ins where
  | mv (d : Nat) (x : Opd)
  | nchk (d : Nat) (x : Opd)
  | asg (d : Nat) (x : Opd) (m : Md)
  | pick (d : Nat) (c a b : Opd)
  | new (d : Nat) (zero : Tree)
  | box (d : Nat) (x : Opd) (m : Md)
  | build (d : Nat) (zero : List Tree) (parts : List (Nat × Nat × Opd × Md))
  | mksl (d : Nat) (sz : Nat) (zero : Tree) (n : Nat) (parts : List (Nat × Opd × Md))
  | load (d : Nat) (agg : Bool) (sz : Nat) (a : Opd) (m : Option Md)
  | store (sz : Nat) (a x : Opd) (m : Md)
  | bin (d : Nat) (op : BinOp) (x y : Opd)
  | eqb (d : Nat) (neg : Bool) (x y : Opd)
  | eqv (d : Nat) (neg : Bool) (ks : List EqK) (x y : Opd)
  | un (d : Nat) (op : UnOp) (x : Opd)
  | conv (d : Nat) (k : IntKind) (x : Opd)
  | s2b (d : Nat) (x : Opd)
  | b2s (d : Nat) (x : Opd)
  | make (d : Nat) (sz : Nat) (zero : Tree) (n : Opd)
  | slc (d : Nat) (str : Bool) (sz : Nat) (x : Opd) (lo hi : Option Opd) (m : Md)
  | slc0 (d : Nat) (x : Opd)
  | fld (d : Nat) (agg : Bool) (off sz : Nat) (x : Opd)
  | fadr (d : Nat) (off sz : Nat) (x : Opd)
  | iadr (d : Nat) (sz : Nat) (x i : Opd)
  | idx (d : Nat) (x i : Opd)
  | ext (d : Nat) (x : Opd) (i : Nat)
  | extp (d : Nat) (x : Opd) (i : Nat)
  | len (d : Nat) (str : Bool) (x : Opd)
  | app (d : Nat) (sz : Nat) (s x : Opd) (m : Md)
  | mm (d : Nat) (mx : Bool) (x : Opd) (xs : List Opd)
  | call (d : Option Nat) (f : Nat) (fz : Bool) (args : List (Opd × Bool))
  | callv (d : Option Nat) (f : Opd) (args : List Opd)
  | mkfn (d : Nat) (f : Nat) (caps : List Nat)
  deriving Inhabited

inductive PCode where
  | skip (keep : List Nat)
  | region (ρ : List (Nat × Nat × Bool)) (fix keep : List Nat) (draw : Bool) (ops : List (Option (Nat × Bool) × Ins))
  | seq (a b : PCode)
  | cond (x : Opd) (a b : PCode)
  | block (id : Nat) (c : PCode)
  | loop (c : PCode)
  | exit (id : Nat) (keep : List Nat)
  | ret (keep : List Nat)
  deriving Inhabited

inductive PRes where
  | tmp (t : Nat)
  | cell (t : Nat) (agg : Bool) (sz : Nat)
  deriving Inhabited

structure PFunc where
  io : List Bool
  res : List PRes
  body : PCode
  deriving Inhabited

end Go.Vs
/- The pure interpreter over value trees. -/
namespace Go.Vs
open Go

def lim : Nat := 4294967296
def loopLim : Nat := 18446744073709551616

/-- borrowing slots of a region: slot, root, and whether it may point below the root's own value -/
abbrev Roots := List (Nat × Nat × Bool)

/-- may slot d hold a reference to (r, p)? -/
def okRef : Roots → Nat → Nat → Path → Bool
  | [], _, _, _ => false
  | (t, r', long) :: ρ, d, r, p => if t = d then (if r' = r then long || p.isEmpty else false) else okRef ρ d r p

/-- what is written when slot d is written: whatever borrowed of it is gone -/
def kills : Roots → Nat → List (Nat × AV)
  | [], _ => []
  | (t, r, _) :: ρ, d => if r = d then (t, .undef) :: kills ρ d else kills ρ d

/-- what is lost when a place in slot r's tree changes -/
def killsLong : Roots → Nat → List (Nat × AV)
  | [], _ => []
  | (t, r, long) :: ρ, d => if r = d then (if long then (t, .undef) :: killsLong ρ d else killsLong ρ d) else killsLong ρ d

def wr (ρ : Roots) (d : Nat) (a : AV) : List (Nat × AV) := (d, a) :: kills ρ d
def chg (ρ : Roots) (r : Nat) (T : Tree) : List (Nat × AV) := (r, .tree T) :: killsLong ρ r

def treeAt (E : Env) (r : Nat) (p : Path) : Option Tree :=
  match get E r with
  | .tree t => t.tAt p
  | _ => none

def capTrees (E : Env) : List Nat → Option (List Tree)
  | [] => some []
  | c :: cs => match get E c with
    | .tree t => (capTrees E cs).bind fun ts => some (t :: ts)
    | _ => none

/-- the tree that an operand stands for -/
def peek (E : Env) : Opd → Option Tree
  | .c t => some t
  | .v s => match get E s with
    | .tree t => some t
    | .bor r p => treeAt E r p
    | _ => none

/-- an operand as an argument that is handed over by value -/
def peekArg (E : Env) : Opd → Option Tree
  | .c t => some t.shr
  | .v s => match get E s with
    | .tree t => some t.shr
    | .bor r p => (treeAt E r p).bind fun t => some t.shr
    | .adr r p i j => (treeAt E r p).bind fun n => (n.elem i).bind fun e => some (.ptr false (Tree.shrL (e.cells.drop j)))
    | .clo f caps => (capTrees E caps).bind fun ts => some (.fn f (Tree.shrL ts))
    | _ => none

def peekArgs (E : Env) : List Opd → Option (List Tree)
  | [] => some []
  | x :: xs => (peekArg E x).bind fun t => if t.plain then (peekArgs E xs).bind fun ts => some (t :: ts) else none

/-- where an operand's value lies -/
def place (E : Env) : Opd → Option (Nat × Path)
  | .c _ => none
  | .v s => match get E s with
    | .tree _ => some (s, [])
    | .bor r p => some (r, p)
    | _ => none

inductive Adr where
  | own (r : Nat) (p : Path) (i j : Nat)
  | sh (cs : List Tree)

/-- the cells to which an operand points -/
def addrOf (E : Env) : Opd → Option Adr
  | .c _ => none
  | .v s => match get E s with
    | .tree (.ptr true _) => some (.own s [] 0 0)
    | .tree (.ptr false cs) => some (.sh cs)
    | .bor r p => match treeAt E r p with
        | some (.ptr true _) => some (.own r p 0 0)
        | some (.ptr false cs) => some (.sh cs)
        | _ => none
    | .adr r p i j => some (.own r p i j)
    | _ => none

/-- an operand's value, taken: its owner loses it, or nobody owns it any more -/
def take (ρ : Roots) (E : Env) (m : Md) : Opd → Option (Tree × List (Nat × AV))
  | .c t => some (t, [])
  | .v s => match get E s with
    | .tree t => if t.plain then some (t, []) else match m with
      | .copy => none
      | .move => some (t, wr ρ s .undef)
      | .freeze => some (t.shr, chg ρ s t.shr)
    | .bor r p => match get E r with
        | .tree T => (T.tAt p).bind fun t => match m with
          | .move => (T.upd p .dead).bind fun T' => some (t, chg ρ r T')
          | .freeze => (T.upd p t.shr).bind fun T' => some (t.shr, chg ρ r T')
          | .copy => if t.plain then some (t, []) else none
        | _ => none
    | _ => none

def isTrue : Tree → Option Bool
  | .bool b => some b
  | _ => none

def intOp (op : BinOp) (k : IntKind) (a b : Int) : Option Tree :=
  match op with
  | .add => some (.int k (k.wrap (a + b)))
  | .sub => some (.int k (k.wrap (a - b)))
  | .mul => some (.int k (k.wrap (a * b)))
  | .quo => if b = 0 then none else some (.int k (k.wrap (a.tdiv b)))
  | .rem => if b = 0 then none else some (.int k (a.tmod b))
  | .and => some (.int k (k.wrap (BitVec.ofInt k.bits a &&& BitVec.ofInt k.bits b).toNat))
  | .or => some (.int k (k.wrap (BitVec.ofInt k.bits a ||| BitVec.ofInt k.bits b).toNat))
  | .xor => some (.int k (k.wrap (BitVec.ofInt k.bits a ^^^ BitVec.ofInt k.bits b).toNat))
  | .andNot => some (.int k (k.wrap (BitVec.ofInt k.bits a &&& ~~~BitVec.ofInt k.bits b).toNat))
  | .eql => some (.bool (a == b))
  | .neq => some (.bool (a != b))
  | .lss => some (.bool (decide (a < b)))
  | .leq => some (.bool (decide (a ≤ b)))
  | .gtr => some (.bool (decide (a > b)))
  | .geq => some (.bool (decide (a ≥ b)))
  | _ => none

def shOp (op : BinOp) (k : IntKind) (a b : Int) : Option Tree :=
  if b < 0 then none else
  match op with
  | .shl => some (.int k (k.wrap (a * 2 ^ min b.toNat k.bits)))
  | .shr => some (.int k (a.fdiv (2 ^ min b.toNat k.bits)))
  | _ => none

def strOp (op : BinOp) (a b : List UInt8) : Option Tree :=
  match op with
  | .add => if a.length + b.length ≤ lim then some (.str (a ++ b)) else none
  | .eql => some (.bool (a == b))
  | .neq => some (.bool (!(a == b)))
  | .lss => some (.bool (Op.bytesLess a b))
  | .leq => some (.bool (Op.bytesLess a b || a == b))
  | .gtr => some (.bool (!(Op.bytesLess a b || a == b)))
  | .geq => some (.bool (!Op.bytesLess a b))
  | _ => none

def binOp (op : BinOp) : Tree → Tree → Option Tree
  | .int k a, .int k' b => match op with
    | .shl => shOp .shl k a b
    | .shr => shOp .shr k a b
    | _ => if k = k' then intOp op k a b else none
  | .str a, .str b => strOp op a b
  | _, _ => none

/-- equality of plain values: numbers, bools, strings, structs of these -/
def eqCell : EqK → Tree → Tree → Option Bool
  | .b, .bool a, .bool b => some (a == b)
  | .i, .int k a, .int k' b => if k = k' then some (a == b) else none
  | .s, .str a, .str b => some (a == b)
  | _, _, _ => none

def eqCells : List EqK → List Tree → List Tree → Option Bool
  | [], [], [] => some true
  | k :: ks, x :: xs, y :: ys => (eqCell k x y).bind fun b => (eqCells ks xs ys).bind fun b' => some (b && b')
  | _, _, _ => none

def unOp (op : UnOp) : Tree → Option Tree
  | .int k n => match op with
    | .neg => some (.int k (k.wrap (0 - n)))
    | .xor => intOp .xor k (if k.signed then -1 else k.max) n
    | _ => none
  | .bool b => match op with
    | .not => some (.bool !b)
    | _ => none
  | _ => none

/-- the bytes of a slice of bytes -/
def bytesOf : List Tree → Option (List UInt8)
  | [] => some []
  | .int .u8 n :: ts => (bytesOf ts).bind fun l => some (UInt8.ofNat n.toNat :: l)
  | _ => none

def Tree.len (str : Bool) : Tree → Option Nat
  | .str s => if str then some s.length else none
  | .nil _ => if str then none else some 0
  | .sl _ _ es => if str then none else some es.length
  | _ => none

/-- struct's fields filled in: offset, size, value -/
def takeParts (ρ : Roots) (E : Env) : List (Nat × Nat × Opd × Md) → List Tree → Option (List Tree × List (Nat × AV))
  | [], cs => some (cs, [])
  | (off, sz, x, m) :: ps, cs => (take ρ E m x).bind fun (t, ws) =>
      if t.storable = true ∧ t.cells.length = sz ∧ off + sz ≤ cs.length then
        (takeParts ρ (ws ++ E) ps (setRange cs off t.cells)).bind fun (cs', ws') => some (cs', ws' ++ ws)
      else none

/-- a literal slice's elements filled in -/
def takeElems (ρ : Roots) (E : Env) (sz : Nat) : List (Nat × Opd × Md) → List Tree → Option (List Tree × List (Nat × AV))
  | [], es => some (es, [])
  | (i, x, m) :: ps, es => (take ρ E m x).bind fun (t, ws) =>
      if t.storable = true ∧ t.cells.length = sz ∧ i < es.length then
        (takeElems ρ (ws ++ E) sz ps (es.set i t)).bind fun (es', ws') => some (es', ws' ++ ws)
      else none

def asNat (t : Tree) : Option Nat :=
  match t with
  | .int _ n => if 0 ≤ n then some n.toNat else none
  | _ => none

/-- a bound of a slice expression -/
def bound (E : Env) (n : Nat) : Option Opd → Option Nat
  | none => some n
  | some h => (peek E h).bind asNat

/-- an element of a slice, or the whole cells: shared or owned -/
def oneOrAgg (agg : Bool) (cs : List Tree) : Option Tree :=
  if agg then some (.agg cs) else match cs with
  | [c] => some c
  | _ => none

def loadCells (cs : List Tree) (j sz : Nat) : Option (List Tree) :=
  if j + sz ≤ cs.length then some ((cs.drop j).take sz) else none

/-- a load at an owned place -/
def loadOwn (ρ : Roots) (E : Env) (d : Nat) (agg : Bool) (sz : Nat) (m : Option Md) (r : Nat) (p : Path) (i j : Nat) : Option (List (Nat × AV)) :=
  match get E r with
  | .tree T => (T.tAt p).bind fun n => (n.elem i).bind fun e => (loadCells e.cells j sz).bind fun cs =>
    (oneOrAgg agg cs).bind fun t =>
      if t.plain then some (wr ρ d (.tree t))
      else if agg then (match m with
        | none => none
        | some .move => (n.setCells i j (cs.map fun _ => .dead)).bind fun n' => (T.upd p n').bind fun T' => some (wr ρ d (.tree t) ++ chg ρ r T')
        | some .copy => none
        | some .freeze => (n.setCells i j (Tree.shrL cs)).bind fun n' => (T.upd p n').bind fun T' => some (wr ρ d (.tree t.shr) ++ chg ρ r T'))
      else if okRef ρ d r (p ++ [(i, j)]) then some (wr ρ d (.bor r (p ++ [(i, j)]))) else none
  | _ => none

def load (ρ : Roots) (E : Env) (d : Nat) (agg : Bool) (sz : Nat) (m : Option Md) (a : Opd) : Option (List (Nat × AV)) :=
  (addrOf E a).bind fun
    | .own r p i j => loadOwn ρ E d agg sz m r p i j
    | .sh cs => (loadCells cs 0 sz).bind fun cs' => (oneOrAgg agg cs').bind fun t => some (wr ρ d (.tree t))

def store (ρ : Roots) (E : Env) (sz : Nat) (m : Md) (a x : Opd) : Option (List (Nat × AV)) :=
  (take ρ E m x).bind fun (t, ws) => if t.storable = true ∧ t.cells.length = sz then
    (addrOf (ws ++ E) a).bind fun
      | .own r p i j => match get (ws ++ E) r with
        | .tree T => (T.tAt p).bind fun n => (n.setCells i j t.cells).bind fun n' => (T.upd p n').bind fun T' => some (chg ρ r T' ++ ws)
        | _ => none
      | .sh _ => none
    else none

/-- arguments: by value, or in and out -/
def callArgs (ρ : Roots) (E : Env) : List (Opd × Bool) → Option (List Tree)
  | [] => some []
  | (x, false) :: xs => (peekArg E x).bind fun t => if t.plain then (callArgs ρ E xs).bind fun ts => some (t :: ts) else none
  | (x, true) :: xs => (place E x).bind fun (r, p) => (treeAt E r p).bind fun t =>
      if t.plain then none else (callArgs ρ E xs).bind fun ts => some (t :: ts)

/-- the slots whose memory by-value arguments may reach -/
def bvRoots (E : Env) : List (Opd × Bool) → List Nat
  | [] => []
  | (.v s, false) :: xs => (match get E s with
      | .bor r _ => [r]
      | .adr r _ _ _ => [r]
      | .clo _ caps => caps
      | _ => [s]) ++ bvRoots E xs
  | _ :: xs => bvRoots E xs

/-- the places of in-and-out arguments -/
def ioPlaces (E : Env) : List (Opd × Bool) → List (Nat × Path)
  | [] => []
  | (x, true) :: xs => (place E x).toList ++ ioPlaces E xs
  | _ :: xs => ioPlaces E xs

def ioRoots (E : Env) (args : List (Opd × Bool)) : List Nat := (ioPlaces E args).map (·.1)

def nodupB : List Nat → Bool
  | [] => true
  | x :: xs => xs.all (fun y => x != y) && nodupB xs

def rootsOk (ρ : Roots) (E : Env) (args : List (Opd × Bool)) : Bool :=
  nodupB (ioRoots E args) && (ioRoots E args).all (fun r => ρ.all (fun e => e.1 != r) && (bvRoots E args).all (fun q => q != r))

/-- roots lose their owners when a result may share their memory -/
def freezeRoots (ρ : Roots) (E : Env) : List Nat → Option (List (Nat × AV))
  | [] => some []
  | r :: rs => match get E r with
    | .tree T => if T.plain then freezeRoots ρ E rs else
        (freezeRoots ρ (chg ρ r T.shr ++ E) rs).bind fun ws => some (ws ++ chg ρ r T.shr)
    | _ => none

def Tree.isDead : Tree → Bool
  | .dead => true
  | _ => false

def Tree.ownTop : Tree → Bool
  | .sl o _ _ => o
  | .ptr o _ => o
  | .dead => false
  | _ => true

/-- the in-and-out arguments' new contents, laid back -/
def backArgs (ρ : Roots) (E : Env) : List (Opd × Bool) → List Tree → Option (List (Nat × AV))
  | [], [] => some []
  | (_, false) :: xs, ts => backArgs ρ E xs ts
  | (x, true) :: xs, t :: ts => (place E x).bind fun (r, p) => match get E r with
      | .tree T => (T.tAt p).bind fun t0 => if t0.ownTop = true ∧ (t.szOf = t0.szOf ∨ t.isDead = true) then (T.upd p t).bind fun T' =>
          (backArgs ρ E xs ts).bind fun ws => some (chg ρ r T' ++ ws) else none
      | _ => none
  | _, _ => none

abbrev Oracle := Nat → List Tree → Option (Tree × List Tree)

def putRes (ρ : Roots) : Option Nat → Tree → List (Nat × AV)
  | some d, t => wr ρ d (.tree t)
  | none, _ => []

/-- a call: the arguments, the callee's answer, what becomes of the arguments -/
def callOp (σ : Oracle) (ρ : Roots) (E : Env) (d : Option Nat) (f : Nat) (fz : Bool) (args : List (Opd × Bool)) : Option (List (Nat × AV)) :=
  (callArgs ρ E args).bind fun ts => if rootsOk ρ E args = true then (σ f ts).bind fun (t, outs) =>
    (if fz then freezeRoots ρ E (bvRoots E args) else if t.noSh && Tree.noShL outs then some [] else none).bind fun w1 =>
      (backArgs ρ (w1 ++ E) args outs).bind fun w2 => some (putRes ρ d t ++ (w2 ++ w1)) else none

/-- the greatest or the least of integers -/
def mmAll (E : Env) (mx : Bool) (k : IntKind) : List Opd → Int → Option Int
  | [], a => some a
  | x :: xs, a => (peek E x).bind fun
    | .int k' b => if k = k' then mmAll E mx k xs (if mx then (if b > a then b else a) else (if b < a then b else a)) else none
    | _ => none

/-- one operation: what it writes -/
def stepI (σ : Oracle) (ρ : Roots) (fix : List Nat) (E : Env) : Ins → Option (List (Nat × AV))
  | .mv d x => match x with
    | .c t => if t.plain then some (wr ρ d (.tree t)) else none
    | .v s => match get E s with
      | .tree t => if t.plain then some (wr ρ d (.tree t)) else if okRef ρ d s [] then some (wr ρ d (.bor s [])) else none
      | .bor r p => if okRef ρ d r p then some (wr ρ d (.bor r p)) else none
      | .adr r p i j => if okRef ρ d r p then some (wr ρ d (.adr r p i j)) else none
      | _ => none
  | .nchk d x => match x with
    | .c _ => none
    | .v s => match get E s with
      | .tree (.ptr o cs) => if o then (if okRef ρ d s [] then some (wr ρ d (.bor s [])) else none) else some (wr ρ d (.tree (.ptr false cs)))
      | .bor r p => match treeAt E r p with
        | some (.ptr _ _) => if okRef ρ d r p then some (wr ρ d (.bor r p)) else none
        | _ => none
      | .adr r p i j => match (treeAt E r p).bind fun n => n.elem i with
        | some _ => if okRef ρ d r p then some (wr ρ d (.adr r p i j)) else none
        | none => none
      | _ => none
  | .asg d x m => (take ρ E m x).bind fun (t, ws) => some (wr ρ d (.tree t) ++ ws)
  | .pick d c a b => (peek E c).bind fun
    | .bool bv => (if bv then peek E a else peek E b).bind fun t => if t.plain then some (wr ρ d (.tree t)) else none
    | _ => none
  | .new d z => some (wr ρ d (.tree (.ptr true z.cells)))
  | .box d x m => (take ρ E m x).bind fun (t, ws) => if t.storable then some (wr ρ d (.tree (.ptr true t.cells)) ++ ws) else none
  | .build d z ps => (takeParts ρ E ps z).bind fun (cs, ws) => some (wr ρ d (.tree (.agg cs)) ++ ws)
  | .mksl d sz z n ps => (takeElems ρ E sz ps (List.replicate n z)).bind fun (es, ws) => some (wr ρ d (.tree (.sl true sz es)) ++ ws)
  | .load d agg sz a m => load ρ E d agg sz m a
  | .store sz a x m => store ρ E sz m a x
  | .bin d op x y => (peek E x).bind fun a => (peek E y).bind fun b => (binOp op a b).bind fun t => some (wr ρ d (.tree t))
  | .eqb d neg x y => (peek E x).bind fun a => (peek E y).bind fun b => (eqCell .b a b).bind fun q => some (wr ρ d (.tree (.bool (if neg then !q else q))))
  | .eqv d neg ks x y => (peek E x).bind fun
    | .agg xs => (peek E y).bind fun
      | .agg ys => (eqCells ks xs ys).bind fun q => some (wr ρ d (.tree (.bool (if neg then !q else q))))
      | _ => none
    | _ => none
  | .un d op x => (peek E x).bind fun a => (unOp op a).bind fun t => some (wr ρ d (.tree t))
  | .conv d k x => (peek E x).bind fun
    | .int _ n => some (wr ρ d (.tree (.int k (k.wrap n))))
    | _ => none
  | .s2b d x => (peek E x).bind fun
    | .str s => if s.length ≤ lim then some (wr ρ d (.tree (.sl true 1 (s.map fun (b : UInt8) => Tree.int .u8 b.toNat)))) else none
    | _ => none
  | .b2s d x => (peek E x).bind fun
    | .nil _ => some (wr ρ d (.tree (.str [])))
    | .sl _ sz es => if sz = 1 then (bytesOf es).bind fun l => some (wr ρ d (.tree (.str l))) else none
    | _ => none
  | .make d sz z n => (peek E n).bind fun t => (asNat t).bind fun k =>
      if k ≤ lim then some (wr ρ d (.tree (.sl true sz (List.replicate k z)))) else none
  | .slc d str sz x lo hi m => (take ρ E m x).bind fun (t, ws) => (if t.storable then t.shr.len str else none).bind fun n =>
      (bound E n hi).bind fun h => (bound E 0 lo).bind fun l =>
      if l ≤ h ∧ h ≤ n then (match t.shr with
        | .str s => some (wr ρ d (.tree (.str ((s.take h).drop l))) ++ ws)
        | .sl _ sz' es => if sz = sz' then some (wr ρ d (.tree (.sl false sz ((es.take h).drop l))) ++ ws) else none
        | _ => none) else none
  | .slc0 d x => (peek E x).bind fun
    | .sl _ sz _ => some (wr ρ d (.tree (.nil sz)))
    | .nil sz => some (wr ρ d (.tree (.nil sz)))
    | _ => none
  | .fld d agg off sz x => (peek E x).bind fun
    | .agg cs => (loadCells cs off sz).bind fun cs' => (oneOrAgg agg cs').bind fun t => if t.plain then some (wr ρ d (.tree t)) else none
    | _ => none
  | .fadr d off sz x => (addrOf E x).bind fun
    | .own r p i j => match (treeAt E r p).bind fun n => n.elem i with
      | some _ => if okRef ρ d r p then some (wr ρ d (.adr r p i (j + off))) else none
      | none => none
    | .sh cs => (loadCells cs off sz).bind fun cs' => some (wr ρ d (.tree (.ptr false cs')))
  | .iadr d sz x i => (peek E i).bind fun ti => (asNat ti).bind fun k => (peek E x).bind fun
    | .sl true sz' es => if sz = sz' ∧ k < es.length then (place E x).bind fun (r, p) => if okRef ρ d r p then some (wr ρ d (.adr r p k 0)) else none else none
    | .sl false sz' es => if sz = sz' then (es[k]?).bind fun e => some (wr ρ d (.tree (.ptr false e.cells))) else none
    | _ => none
  | .idx d x i => (peek E i).bind fun ti => (asNat ti).bind fun k => (peek E x).bind fun
    | .str s => (s[k]?).bind fun b => some (wr ρ d (.tree (.int .u8 b.toNat)))
    | _ => none
  | .ext d x i => match x with
    | .v s => match get E s with
      | .tree (.tup ts) => (ts[i]?).bind fun t => if t.plain then some (wr ρ d (.tree t)) else some (wr ρ d (.tree t) ++ wr ρ s (.tree (.tup (ts.set i .dead))))
      | _ => none
    | _ => none
  | .extp d x i => match x with
    | .v s => match get E s with
      | .tree (.tup ts) => (ts[i]?).bind fun t => if t.plain then some (wr ρ d (.tree t)) else none
      | _ => none
    | _ => none
  | .len d str x => (peek E x).bind fun t => (t.len str).bind fun n => some (wr ρ d (.tree (.int .i64 n)))
  | .app d sz s x m => (take ρ E m x).bind fun (tx, w1) => (take ρ (w1 ++ E) .move s).bind fun (ts, w2) =>
      (match tx with
        | .nil _ => some []
        | .sl _ sz' es => if sz = sz' then some es else none
        | .str l => if sz = 1 then some (l.map fun (b : UInt8) => Tree.int .u8 b.toNat) else none
        | _ => none).bind fun new =>
      match ts with
      | .nil sz' => if new.length ≤ lim then (match new with
          | [] => some (wr ρ d (.tree (.nil sz')) ++ (w2 ++ w1))
          | _ => some (wr ρ d (.tree (.sl true sz new)) ++ (w2 ++ w1))) else none
      | .sl true sz' es => if sz = sz' ∧ es.length + new.length ≤ lim then some (wr ρ d (.tree (.sl true sz (es ++ new))) ++ (w2 ++ w1)) else none
      | _ => none
  | .mm d mx x xs => (peek E x).bind fun
    | .int k a => (mmAll E mx k xs a).bind fun a' => some (wr ρ d (.tree (.int k a')))
    | _ => none
  | .call d f fz args => callOp σ ρ E d f fz args
  | .callv d fv args => (peekArgs E args).bind fun ts => (peekArg E fv).bind fun
    | .fn f caps => if Tree.plainL caps = true then (σ f (ts ++ caps)).bind fun (t, outs) => if t.plain && t.noSh && outs.isEmpty then some (putRes ρ d t) else none else none
    | _ => none
  | .mkfn d f caps => if caps.all (fun c => fix.contains c) then some (wr ρ d (.clo f caps)) else none

def dstOf : Ins → List Nat
  | .mv d _ | .nchk d _ | .asg d _ _ | .pick d _ _ _ | .new d _ | .box d _ _ | .build d _ _ | .mksl d _ _ _ _ | .load d _ _ _ _
  | .bin d _ _ _ | .eqb d _ _ _ | .eqv d _ _ _ _ | .un d _ _ | .conv d _ _ | .s2b d _ | .b2s d _ | .make d _ _ _ | .slc d _ _ _ _ _ _ | .slc0 d _ | .fld d _ _ _ _
  | .fadr d _ _ _ | .iadr d _ _ _ | .idx d _ _ | .ext d _ _ | .extp d _ _ | .len d _ _ | .app d _ _ _ _ | .mm d _ _ _ | .mkfn d _ _ => [d]
  | .store _ _ _ _ => []
  | .call d _ _ _ | .callv d _ _ => d.toList

def stepG (σ : Oracle) (ρ : Roots) (fix : List Nat) (E : Env) : Option (Nat × Bool) × Ins → Option (List (Nat × AV))
  | (none, i) => stepI σ ρ fix E i
  | (some (g, want), i) => match get E g with
    | .tree (.bool b) => if b = want then stepI σ ρ fix E i else some ((dstOf i).flatMap fun d => wr ρ d .gone)
    | .gone => some ((dstOf i).flatMap fun d => wr ρ d .gone)
    | _ => none

def evOps (σ : Oracle) (ρ : Roots) (fix : List Nat) : List (Option (Nat × Bool) × Ins) → Env → Option Env
  | [], E => some E
  | o :: os, E => (stepG σ ρ fix E o).bind fun ws => evOps σ ρ fix os (ws ++ E)

def keepE (ks : List Nat) (E : Env) : Env := ks.map fun k => (k, get E k)

/-- what a slot may hold where a region begins -/
def entAV (ρ : Roots) (fix : List Nat) (s : Nat) : AV → AV
  | .tree t => .tree t
  | .bor r p => if okRef ρ s r p then .bor r p else .undef
  | .adr r p i j => if okRef ρ s r p then .adr r p i j else .undef
  | .clo f caps => if caps.all (fun c => fix.contains c) then .clo f caps else .undef
  | .undef => .undef
  | .gone => .undef

def enterE (ρ : Roots) (fix : List Nat) (E : Env) : Env := E.map fun e => (e.1, entAV ρ fix e.1 e.2)

inductive Ex where
  | nrm
  | exit (id : Nat)
  | ret

def loopN : Nat → (Env → Option (Ex × Env)) → Env → Option (Ex × Env)
  | 0, _, _ => none
  | n + 1, b, E => (b E).bind fun
    | (.nrm, E') => loopN n b E'
    | r => some r

def evC (σ : Oracle) : PCode → Env → Option (Ex × Env)
  | .skip ks, E => some (.nrm, keepE ks E)
  | .region ρ fix keep _ ops, E => (evOps σ ρ fix ops (enterE ρ fix E)).bind fun E' => some (.nrm, keepE keep E')
  | .seq a b, E => (evC σ a E).bind fun
    | (.nrm, E') => evC σ b E'
    | r => some r
  | .cond x a b, E => (peek E x).bind fun
    | .bool t => if t then evC σ a E else evC σ b E
    | _ => none
  | .block id c, E => (evC σ c E).bind fun
    | (.exit id', E') => if id' = id then some (.nrm, E') else some (.exit id', E')
    | r => some r
  | .loop c, E => loopN loopLim (evC σ c) E
  | .exit id ks, E => some (.exit id, keepE ks E)
  | .ret ks, E => some (.ret, keepE ks E)

def argEnv : List Tree → Nat → Env
  | [], _ => []
  | t :: ts, i => (i, .tree t) :: argEnv ts (i + 1)

def resOne (E : Env) : PRes → Option Tree
  | .tmp t => match get E t with
    | .tree x => some x
    | _ => none
  | .cell t agg sz => match get E t with
    | .tree (.ptr true cs) => (loadCells cs 0 sz).bind fun cs' => oneOrAgg agg cs'
    | _ => none

def resAll (E : Env) : List PRes → Option (List Tree)
  | [] => some []
  | r :: rs => (resOne E r).bind fun t => (resAll E rs).bind fun ts => some (t :: ts)

def outAll (E : Env) : List Bool → Nat → Option (List Tree)
  | [], _ => some []
  | false :: bs, i => outAll E bs (i + 1)
  | true :: bs, i => match get E i with
    | .tree t => (outAll E bs (i + 1)).bind fun ts => some (t :: ts)
    | .undef => (outAll E bs (i + 1)).bind fun ts => some (.dead :: ts)
    | _ => none

def resTree : List Tree → Tree
  | [t] => t
  | ts => .tup ts

def ioOk : List Tree → List Bool → Bool
  | [], [] => true
  | t :: ts, b :: bs => (t.plain == !b) && ioOk ts bs
  | _, _ => false

def runF (σ : Oracle) (pf : PFunc) (args : List Tree) : Option (Tree × List Tree) :=
  if ioOk args pf.io = true then
    (evC σ pf.body (argEnv args 0)).bind fun
      | (.exit _, _) => none
      | (_, E) => (resAll E pf.res).bind fun ts => (outAll E pf.io 0).bind fun os => some (resTree ts, os)
  else none

/-- functions up to some depth of calls; `ext`: answers that are known from elsewhere -/
def ev (T : Nat → Option PFunc) (ext : Oracle) : Nat → Oracle
  | 0, f, args => ext f args
  | d + 1, f, args => match T f with
    | some pf => runF (ev T ext d) pf args
    | none => ext f args

end Go.Vs
/- What it means that a tree stands for a value of the model in some world; how it survives changes of the world. -/
namespace Go.Vs
open Go

/-- block b is a row of n cells that may be written -/
def OwnBlk (w : World) (b n : Nat) : Prop :=
  ∃ arr ety fz, w.heap[b]? = some (Obj.cells arr ety fz) ∧ arr.size = n ∧ ∀ o, o < n → ¬ (fz.1 ≤ o ∧ o < fz.2)

variable (ids : Nat → Nat)

mutual
def Rep (S : Nat → Prop) (w : World) : Tree → Value → List Nat → Prop
  | .int k n, v, ob => v = .int k n ∧ ob = []
  | .bool b, v, ob => v = .bool b ∧ ob = []
  | .str s, v, ob => v = .string ⟨s.toArray⟩ ∧ ob = []
  | .nil sz, v, ob => (∃ a, v = .slice a 0 0) ∧ ob = [] ∧ 0 < sz
  | .nilp, v, ob => v = .pointer none ∧ ob = []
  | .sl true sz es, v, ob => (es = [] ∧ v = .slice none 0 0 ∧ ob = [] ∧ 0 < sz) ∨ ∃ b cap ob', v = .slice (some ⟨b, 0, none⟩) es.length cap ∧ ob = b :: ob' ∧ 0 < sz ∧ es.length ≤ cap ∧
      OwnBlk w b (cap * sz) ∧ RepEs S w es sz b 0 ob'
  | .sl false sz es, v, ob => ob = [] ∧ 0 < sz ∧ ∃ a cap, v = .slice a es.length cap ∧ es.length ≤ cap ∧
      (es = [] ∨ ∃ b off, a = some ⟨b, off, none⟩ ∧ S b ∧ RepEs S w es sz b off [])
  | .ptr true cs, v, ob => ∃ b ob', v = .pointer (some ⟨b, 0, none⟩) ∧ ob = b :: ob' ∧ OwnBlk w b cs.length ∧ RepCs S w cs b 0 ob'
  | .ptr false cs, v, ob => ob = [] ∧ ∃ b off, v = .pointer (some ⟨b, off, none⟩) ∧ S b ∧ RepCs S w cs b off []
  | .agg cs, v, ob => ∃ vs, v = .agg vs ∧ (∀ u, u ∈ vs.toList → u.oneCell' = true) ∧ RepL S w cs vs.toList ob
  | .fn f cs, v, ob => ∃ g vs, v = .func (.func g) #[] vs ∧ ids g = f ∧ RepL S w cs vs.toList ob
  | .tup cs, v, ob => ∃ vs, v = .tuple vs ∧ RepL S w cs vs.toList ob
  | .dead, _, ob => ob = []
/-- values one behind the other -/
def RepL (S : Nat → Prop) (w : World) : List Tree → List Value → List Nat → Prop
  | [], vs, ob => vs = [] ∧ ob = []
  | t :: ts, vs, ob => ∃ v vs' ob1 ob2, vs = v :: vs' ∧ Rep S w t v ob1 ∧ RepL S w ts vs' ob2 ∧ ob = ob1 ++ ob2
/-- cells of block b from off on -/
def RepCs (S : Nat → Prop) (w : World) : List Tree → Nat → Nat → List Nat → Prop
  | [], _, _, ob => ob = []
  | t :: ts, b, off, ob => ∃ v ob1 ob2, (w.cell? ⟨b, off, none⟩ = some v ∧ v.oneCell' = true) ∧ Rep S w t v ob1 ∧ RepCs S w ts b (off + 1) ob2 ∧ ob = ob1 ++ ob2
/-- elements of sz cells each -/
def RepEs (S : Nat → Prop) (w : World) : List Tree → Nat → Nat → Nat → List Nat → Prop
  | [], _, _, _, ob => ob = []
  | t :: ts, sz, b, off, ob => ∃ ob1 ob2, RepE S w t sz b off ob1 ∧ RepEs S w ts sz b (off + sz) ob2 ∧ ob = ob1 ++ ob2
def RepE (S : Nat → Prop) (w : World) : Tree → Nat → Nat → Nat → List Nat → Prop
  | .agg cs, sz, b, off, ob => cs.length = sz ∧ RepCs S w cs b off ob
  | t, sz, b, off, ob => sz = 1 ∧ ∃ v, (w.cell? ⟨b, off, none⟩ = some v ∧ v.oneCell' = true) ∧ Rep S w t v ob
end

end Go.Vs
/- Laws of representation: frames, sharing. -/
namespace Go.Vs
open Go

theorem cell?_congr {w w' : World} {b off : Nat} (h : w'.heap[b]? = w.heap[b]?) : w'.cell? ⟨b, off, none⟩ = w.cell? ⟨b, off, none⟩ := by
  simp only [World.cell?, h]

theorem OwnBlk.congr {w w' : World} {b n : Nat} (h : w'.heap[b]? = w.heap[b]?) (ho : OwnBlk w b n) : OwnBlk w' b n := by
  unfold OwnBlk at *; rw [h]; exact ho

section
variable {ids : Nat → Nat} {S S' : Nat → Prop} {w w' : World}

theorem repE_iff {t : Tree} {sz b off : Nat} {ob : List Nat} : RepE ids S w t sz b off ob ↔ t.cells.length = sz ∧ RepCs ids S w t.cells b off ob := by
  cases t <;> simp only [RepE, Tree.cells, RepCs, List.length_cons, List.length_nil]
  all_goals
    constructor
    · rintro ⟨h, v, hc, hr⟩; exact ⟨by omega, v, ob, [], hc, hr, rfl, by simp⟩
    · rintro ⟨h, v, ob1, ob2, hc, hr, rfl, rfl⟩; exact ⟨by omega, v, hc, by simpa using hr⟩

mutual
theorem rep_mono (hS : ∀ b, S b → S' b) (hw : ∀ b, S b → w'.heap[b]? = w.heap[b]?) :
    ∀ (t : Tree) (v : Value) (ob : List Nat), (∀ b, b ∈ ob → w'.heap[b]? = w.heap[b]?) → Rep ids S w t v ob → Rep ids S' w' t v ob
  | .int k n, v, ob, _, h => by simpa only [Rep] using h
  | .bool b, v, ob, _, h => by simpa only [Rep] using h
  | .str s, v, ob, _, h => by simpa only [Rep] using h
  | .nil sz, v, ob, _, h => by simpa only [Rep] using h
  | .nilp, v, ob, _, h => by simpa only [Rep] using h
  | .dead, v, ob, _, h => by simpa only [Rep] using h
  | .sl true sz es, v, ob, hb, h => by
    simp only [Rep] at h ⊢
    rcases h with h | ⟨b, cap, ob', rfl, rfl, h1, h2, h3, h4⟩
    · exact .inl h
    refine .inr ?_
    exact ⟨b, cap, ob', rfl, rfl, h1, h2, h3.congr (hb b (by simp)), repEs_mono hS hw es sz b 0 ob' (hb b (by simp)) (fun x hx => hb x (by simp [hx])) h4⟩
  | .sl false sz es, v, ob, hb, h => by
    simp only [Rep] at h ⊢
    obtain ⟨rfl, h0, a, cap, rfl, h1, h2⟩ := h
    refine ⟨rfl, h0, a, cap, rfl, h1, h2.imp id ?_⟩
    rintro ⟨b, off, rfl, h3, h4⟩
    exact ⟨b, off, rfl, hS _ h3, repEs_mono hS hw es sz b off [] (hw b h3) (by simp) h4⟩
  | .ptr true cs, v, ob, hb, h => by
    simp only [Rep] at h ⊢
    obtain ⟨b, ob', rfl, rfl, h3, h4⟩ := h
    exact ⟨b, ob', rfl, rfl, h3.congr (hb b (by simp)), repCs_mono hS hw cs b 0 ob' (hb b (by simp)) (fun x hx => hb x (by simp [hx])) h4⟩
  | .ptr false cs, v, ob, hb, h => by
    simp only [Rep] at h ⊢
    obtain ⟨rfl, b, off, rfl, h3, h4⟩ := h
    exact ⟨rfl, b, off, rfl, hS _ h3, repCs_mono hS hw cs b off [] (hw b h3) (by simp) h4⟩
  | .agg cs, v, ob, hb, h => by
    simp only [Rep] at h ⊢
    obtain ⟨vs, rfl, h1c, h⟩ := h
    exact ⟨vs, rfl, h1c, repL_mono hS hw cs _ ob hb h⟩
  | .fn f cs, v, ob, hb, h => by
    simp only [Rep] at h ⊢
    obtain ⟨g, vs, rfl, hg, h⟩ := h
    exact ⟨g, vs, rfl, hg, repL_mono hS hw cs _ ob hb h⟩
  | .tup cs, v, ob, hb, h => by
    simp only [Rep] at h ⊢
    obtain ⟨vs, rfl, h⟩ := h
    exact ⟨vs, rfl, repL_mono hS hw cs _ ob hb h⟩
theorem repL_mono (hS : ∀ b, S b → S' b) (hw : ∀ b, S b → w'.heap[b]? = w.heap[b]?) :
    ∀ (ts : List Tree) (vs : List Value) (ob : List Nat), (∀ b, b ∈ ob → w'.heap[b]? = w.heap[b]?) → RepL ids S w ts vs ob → RepL ids S' w' ts vs ob
  | [], vs, ob, _, h => by simpa only [RepL] using h
  | t :: ts, vs, ob, hb, h => by
    simp only [RepL] at h ⊢
    obtain ⟨v, vs', ob1, ob2, rfl, h1, h2, rfl⟩ := h
    exact ⟨v, vs', ob1, ob2, rfl, rep_mono hS hw t v ob1 (fun b hx => hb b (by simp [hx])) h1, repL_mono hS hw ts vs' ob2 (fun b hx => hb b (by simp [hx])) h2, rfl⟩
theorem repCs_mono (hS : ∀ b, S b → S' b) (hw : ∀ b, S b → w'.heap[b]? = w.heap[b]?) :
    ∀ (ts : List Tree) (b off : Nat) (ob : List Nat), w'.heap[b]? = w.heap[b]? → (∀ b, b ∈ ob → w'.heap[b]? = w.heap[b]?) → RepCs ids S w ts b off ob → RepCs ids S' w' ts b off ob
  | [], b, off, ob, _, _, h => by simpa only [RepCs] using h
  | t :: ts, b, off, ob, hb0, hb, h => by
    simp only [RepCs] at h ⊢
    obtain ⟨v, ob1, ob2, hc, h1, h2, rfl⟩ := h
    exact ⟨v, ob1, ob2, by rw [cell?_congr hb0]; exact hc, rep_mono hS hw t v ob1 (fun b hx => hb b (by simp [hx])) h1,
      repCs_mono hS hw ts b (off + 1) ob2 hb0 (fun b hx => hb b (by simp [hx])) h2, rfl⟩
theorem repEs_mono (hS : ∀ b, S b → S' b) (hw : ∀ b, S b → w'.heap[b]? = w.heap[b]?) :
    ∀ (ts : List Tree) (sz b off : Nat) (ob : List Nat), w'.heap[b]? = w.heap[b]? → (∀ b, b ∈ ob → w'.heap[b]? = w.heap[b]?) → RepEs ids S w ts sz b off ob → RepEs ids S' w' ts sz b off ob
  | [], sz, b, off, ob, _, _, h => by simpa only [RepEs] using h
  | t :: ts, sz, b, off, ob, hb0, hb, h => by
    simp only [RepEs] at h ⊢
    obtain ⟨ob1, ob2, h1, h2, rfl⟩ := h
    refine ⟨ob1, ob2, ?_, repEs_mono hS hw ts sz b (off + sz) ob2 hb0 (fun b hx => hb b (by simp [hx])) h2, rfl⟩
    have hb1 : ∀ b, b ∈ ob1 → w'.heap[b]? = w.heap[b]? := fun b hx => hb b (by simp [hx])
    match t, h1 with
    | .agg cs, h1 =>
      simp only [RepE] at h1 ⊢
      exact ⟨h1.1, repCs_mono hS hw cs b off ob1 hb0 hb1 h1.2⟩
    | .int .., h1 | .bool .., h1 | .str .., h1 | .nil .., h1 | .nilp, h1 | .sl .., h1 | .ptr .., h1 | .fn .., h1 | .tup .., h1 | .dead, h1 =>
      simp only [RepE] at h1 ⊢
      obtain ⟨h0, v, hc, hr⟩ := h1
      exact ⟨h0, v, by rw [cell?_congr hb0]; exact hc, rep_mono hS hw _ v ob1 hb1 hr⟩
end

mutual
theorem rep_plain : ∀ (t : Tree) (v : Value) (ob : List Nat), t.plain = true → Rep ids S w t v ob → ob = []
  | .int k n, v, ob, _, h => by simp only [Rep] at h; exact h.2
  | .bool b, v, ob, _, h => by simp only [Rep] at h; exact h.2
  | .str s, v, ob, _, h => by simp only [Rep] at h; exact h.2
  | .nil sz, v, ob, _, h => by simp only [Rep] at h; exact h.2.1
  | .nilp, v, ob, _, h => by simp only [Rep] at h; exact h.2
  | .dead, v, ob, _, h => by simp only [Rep] at h; exact h
  | .sl true sz es, v, ob, hp, h => by simp [Tree.plain] at hp
  | .sl false sz es, v, ob, _, h => by simp only [Rep] at h; exact h.1
  | .ptr true cs, v, ob, hp, h => by simp [Tree.plain] at hp
  | .ptr false cs, v, ob, _, h => by simp only [Rep] at h; exact h.1
  | .agg cs, v, ob, hp, h => by
    simp only [Rep] at h; simp only [Tree.plain] at hp; obtain ⟨vs, _, _, h⟩ := h; exact repL_plain cs _ ob hp h
  | .fn f cs, v, ob, hp, h => by
    simp only [Rep] at h; simp only [Tree.plain] at hp; obtain ⟨_, vs, _, _, h⟩ := h; exact repL_plain cs _ ob hp h
  | .tup cs, v, ob, hp, h => by
    simp only [Rep] at h; simp only [Tree.plain] at hp; obtain ⟨vs, _, h⟩ := h; exact repL_plain cs _ ob hp h
theorem repL_plain : ∀ (ts : List Tree) (vs : List Value) (ob : List Nat), Tree.plainL ts = true → RepL ids S w ts vs ob → ob = []
  | [], vs, ob, _, h => by simp only [RepL] at h; exact h.2
  | t :: ts, vs, ob, hp, h => by
    simp only [RepL] at h; simp only [Tree.plainL, Bool.and_eq_true] at hp
    obtain ⟨v, vs', ob1, ob2, rfl, h1, h2, rfl⟩ := h
    rw [rep_plain t v ob1 hp.1 h1, repL_plain ts vs' ob2 hp.2 h2]; rfl
end

mutual
theorem rep_noSh : ∀ (t : Tree) (v : Value) (ob : List Nat), t.noSh = true → Rep ids S w t v ob → Rep ids S' w t v ob
  | .int k n, v, ob, _, h => by simpa only [Rep] using h
  | .bool b, v, ob, _, h => by simpa only [Rep] using h
  | .str s, v, ob, _, h => by simpa only [Rep] using h
  | .nil sz, v, ob, _, h => by simpa only [Rep] using h
  | .nilp, v, ob, _, h => by simpa only [Rep] using h
  | .dead, v, ob, _, h => by simpa only [Rep] using h
  | .sl true sz es, v, ob, hn, h => by
    simp only [Rep] at h ⊢
    rcases h with h | ⟨b, cap, ob', rfl, rfl, h1, h2, h3, h4⟩
    · exact .inl h
    refine .inr ?_
    refine ⟨b, cap, ob', rfl, rfl, h1, h2, h3, ?_⟩
    simp only [Tree.noSh, Bool.true_and, Bool.or_eq_true] at hn
    rcases hn with hn | hn
    · have : es = [] := by simpa using hn
      subst this; simpa only [RepEs] using h4
    · exact repEs_noSh es sz b 0 ob' hn h4
  | .sl false sz es, v, ob, hn, h => by
    simp only [Rep] at h ⊢
    obtain ⟨rfl, h0, a, cap, rfl, h1, h2⟩ := h
    refine ⟨rfl, h0, a, cap, rfl, h1, .inl ?_⟩
    simpa [Tree.noSh] using hn
  | .ptr true cs, v, ob, hn, h => by
    simp only [Rep] at h ⊢
    obtain ⟨b, ob', rfl, rfl, h3, h4⟩ := h
    simp only [Tree.noSh, Bool.true_and] at hn
    exact ⟨b, ob', rfl, rfl, h3, repCs_noSh cs b 0 ob' hn h4⟩
  | .ptr false cs, v, ob, hn, h => by simp [Tree.noSh] at hn
  | .agg cs, v, ob, hn, h => by
    simp only [Rep] at h ⊢; simp only [Tree.noSh] at hn
    obtain ⟨vs, rfl, h1c, h⟩ := h
    exact ⟨vs, rfl, h1c, repL_noSh cs _ ob hn h⟩
  | .fn f cs, v, ob, hn, h => by
    simp only [Rep] at h ⊢; simp only [Tree.noSh] at hn
    obtain ⟨g, vs, rfl, hg, h⟩ := h
    exact ⟨g, vs, rfl, hg, repL_noSh cs _ ob hn h⟩
  | .tup cs, v, ob, hn, h => by
    simp only [Rep] at h ⊢; simp only [Tree.noSh] at hn
    obtain ⟨vs, rfl, h⟩ := h
    exact ⟨vs, rfl, repL_noSh cs _ ob hn h⟩
theorem repL_noSh : ∀ (ts : List Tree) (vs : List Value) (ob : List Nat), Tree.noShL ts = true → RepL ids S w ts vs ob → RepL ids S' w ts vs ob
  | [], vs, ob, _, h => by simpa only [RepL] using h
  | t :: ts, vs, ob, hn, h => by
    simp only [RepL] at h ⊢; simp only [Tree.noShL, Bool.and_eq_true] at hn
    obtain ⟨v, vs', ob1, ob2, rfl, h1, h2, rfl⟩ := h
    exact ⟨v, vs', ob1, ob2, rfl, rep_noSh t v ob1 hn.1 h1, repL_noSh ts vs' ob2 hn.2 h2, rfl⟩
theorem repCs_noSh : ∀ (ts : List Tree) (b off : Nat) (ob : List Nat), Tree.noShL ts = true → RepCs ids S w ts b off ob → RepCs ids S' w ts b off ob
  | [], b, off, ob, _, h => by simpa only [RepCs] using h
  | t :: ts, b, off, ob, hn, h => by
    simp only [RepCs] at h ⊢; simp only [Tree.noShL, Bool.and_eq_true] at hn
    obtain ⟨v, ob1, ob2, hc, h1, h2, rfl⟩ := h
    exact ⟨v, ob1, ob2, hc, rep_noSh t v ob1 hn.1 h1, repCs_noSh ts b (off + 1) ob2 hn.2 h2, rfl⟩
theorem repEs_noSh : ∀ (ts : List Tree) (sz b off : Nat) (ob : List Nat), Tree.noShL ts = true → RepEs ids S w ts sz b off ob → RepEs ids S' w ts sz b off ob
  | [], sz, b, off, ob, _, h => by simpa only [RepEs] using h
  | t :: ts, sz, b, off, ob, hn, h => by
    simp only [RepEs] at h ⊢; simp only [Tree.noShL, Bool.and_eq_true] at hn
    obtain ⟨ob1, ob2, h1, h2, rfl⟩ := h
    refine ⟨ob1, ob2, ?_, repEs_noSh ts sz b (off + sz) ob2 hn.2 h2, rfl⟩
    have hn1 := hn.1
    match t, h1, hn1 with
    | .agg cs, h1, hn1 =>
      simp only [RepE] at h1 ⊢; simp only [Tree.noSh] at hn1
      exact ⟨h1.1, repCs_noSh cs b off ob1 hn1 h1.2⟩
    | .int .., h1, hn1 | .bool .., h1, hn1 | .str .., h1, hn1 | .nil .., h1, hn1 | .nilp, h1, hn1 | .sl .., h1, hn1 | .ptr .., h1, hn1 | .fn .., h1, hn1 | .tup .., h1, hn1 | .dead, h1, hn1 =>
      simp only [RepE] at h1 ⊢
      obtain ⟨h0, v, hc, hr⟩ := h1
      exact ⟨h0, v, hc, rep_noSh _ v ob1 hn1 hr⟩
end

theorem shrL_length : ∀ (ts : List Tree), (Tree.shrL ts).length = ts.length
  | [] => rfl
  | t :: ts => by simp [Tree.shrL, shrL_length ts]

mutual
theorem rep_shr (hS : ∀ b, S b → S' b) : ∀ (t : Tree) (v : Value) (ob : List Nat), (∀ b, b ∈ ob → S' b) → Rep ids S w t v ob → Rep ids S' w t.shr v []
  | .int k n, v, ob, _, h => by simp only [Rep, Tree.shr] at h ⊢; exact ⟨h.1, trivial⟩
  | .bool b, v, ob, _, h => by simp only [Rep, Tree.shr] at h ⊢; exact ⟨h.1, trivial⟩
  | .str s, v, ob, _, h => by simp only [Rep, Tree.shr] at h ⊢; exact ⟨h.1, trivial⟩
  | .nil sz, v, ob, _, h => by
    simp only [Rep, Tree.shr] at h ⊢
    obtain ⟨⟨a, rfl⟩, _, h⟩ := h
    exact ⟨trivial, h, a, 0, rfl, Nat.le_refl _, .inl trivial⟩
  | .nilp, v, ob, _, h => by simp only [Rep, Tree.shr] at h ⊢; exact ⟨h.1, trivial⟩
  | .dead, v, ob, _, h => by simp only [Rep, Tree.shr] at h ⊢
  | .sl true sz es, v, ob, hb, h => by
    simp only [Rep, Tree.shr] at h ⊢
    rcases h with ⟨rfl, rfl, rfl, h0⟩ | ⟨b, cap, ob', rfl, rfl, h1, h2, h3, h4⟩
    · exact ⟨trivial, h0, none, 0, rfl, Nat.le_refl _, .inl rfl⟩
    refine ⟨trivial, h1, _, cap, by rw [shrL_length], by rw [shrL_length]; exact h2, .inr ⟨b, 0, rfl, hb b (by simp), ?_⟩⟩
    exact repEs_shr hS es sz b 0 ob' (fun x hx => hb x (by simp [hx])) h4
  | .sl false sz es, v, ob, hb, h => by
    simp only [Rep, Tree.shr] at h ⊢
    obtain ⟨rfl, h0, a, cap, rfl, h1, h2⟩ := h
    refine ⟨trivial, h0, a, cap, by rw [shrL_length], by rw [shrL_length]; exact h1, ?_⟩
    rcases h2 with rfl | ⟨b, off, rfl, h3, h4⟩
    · exact .inl rfl
    · exact .inr ⟨b, off, rfl, hS b h3, repEs_shr hS es sz b off [] (by simp) h4⟩
  | .ptr true cs, v, ob, hb, h => by
    simp only [Rep, Tree.shr] at h ⊢
    obtain ⟨b, ob', rfl, rfl, h3, h4⟩ := h
    exact ⟨trivial, b, 0, rfl, hb b (by simp), repCs_shr hS cs b 0 ob' (fun x hx => hb x (by simp [hx])) h4⟩
  | .ptr false cs, v, ob, hb, h => by
    simp only [Rep, Tree.shr] at h ⊢
    obtain ⟨rfl, b, off, rfl, h3, h4⟩ := h
    exact ⟨trivial, b, off, rfl, hS b h3, repCs_shr hS cs b off [] (by simp) h4⟩
  | .agg cs, v, ob, hb, h => by
    simp only [Rep, Tree.shr] at h ⊢
    obtain ⟨vs, rfl, h1c, h⟩ := h
    exact ⟨vs, rfl, h1c, repL_shr hS cs _ ob hb h⟩
  | .fn f cs, v, ob, hb, h => by
    simp only [Rep, Tree.shr] at h ⊢
    obtain ⟨g, vs, rfl, hg, h⟩ := h
    exact ⟨g, vs, rfl, hg, repL_shr hS cs _ ob hb h⟩
  | .tup cs, v, ob, hb, h => by
    simp only [Rep, Tree.shr] at h ⊢
    obtain ⟨vs, rfl, h⟩ := h
    exact ⟨vs, rfl, repL_shr hS cs _ ob hb h⟩
theorem repL_shr (hS : ∀ b, S b → S' b) : ∀ (ts : List Tree) (vs : List Value) (ob : List Nat), (∀ b, b ∈ ob → S' b) → RepL ids S w ts vs ob → RepL ids S' w (Tree.shrL ts) vs []
  | [], vs, ob, _, h => by simp only [RepL, Tree.shrL] at h ⊢; exact ⟨h.1, trivial⟩
  | t :: ts, vs, ob, hb, h => by
    simp only [RepL, Tree.shrL] at h ⊢
    obtain ⟨v, vs', ob1, ob2, rfl, h1, h2, rfl⟩ := h
    exact ⟨v, vs', [], [], rfl, rep_shr hS t v ob1 (fun b hx => hb b (by simp [hx])) h1, repL_shr hS ts vs' ob2 (fun b hx => hb b (by simp [hx])) h2, rfl⟩
theorem repCs_shr (hS : ∀ b, S b → S' b) : ∀ (ts : List Tree) (b off : Nat) (ob : List Nat), (∀ b, b ∈ ob → S' b) → RepCs ids S w ts b off ob → RepCs ids S' w (Tree.shrL ts) b off []
  | [], b, off, ob, _, h => by simp only [RepCs, Tree.shrL] at h ⊢
  | t :: ts, b, off, ob, hb, h => by
    simp only [RepCs, Tree.shrL] at h ⊢
    obtain ⟨v, ob1, ob2, hc, h1, h2, rfl⟩ := h
    exact ⟨v, [], [], hc, rep_shr hS t v ob1 (fun b hx => hb b (by simp [hx])) h1, repCs_shr hS ts b (off + 1) ob2 (fun b hx => hb b (by simp [hx])) h2, rfl⟩
theorem repEs_shr (hS : ∀ b, S b → S' b) : ∀ (ts : List Tree) (sz b off : Nat) (ob : List Nat), (∀ b, b ∈ ob → S' b) → RepEs ids S w ts sz b off ob → RepEs ids S' w (Tree.shrL ts) sz b off []
  | [], sz, b, off, ob, _, h => by simp only [RepEs, Tree.shrL] at h ⊢
  | t :: ts, sz, b, off, ob, hb, h => by
    simp only [RepEs, Tree.shrL] at h ⊢
    obtain ⟨ob1, ob2, h1, h2, rfl⟩ := h
    refine ⟨[], [], ?_, repEs_shr hS ts sz b (off + sz) ob2 (fun b hx => hb b (by simp [hx])) h2, rfl⟩
    have hb1 : ∀ b, b ∈ ob1 → S' b := fun b hx => hb b (by simp [hx])
    match t, h1 with
    | .agg cs, h1 =>
      simp only [RepE, Tree.shr] at h1 ⊢
      exact ⟨by rw [shrL_length]; exact h1.1, repCs_shr hS cs b off ob1 hb1 h1.2⟩
    | .int .., h1 | .bool .., h1 | .str .., h1 | .nil .., h1 | .nilp, h1 | .sl .., h1 | .ptr .., h1 | .fn .., h1 | .tup .., h1 | .dead, h1 =>
      simp only [RepE] at h1
      obtain ⟨h0, v, hc, hr⟩ := h1
      have := rep_shr hS _ v ob1 hb1 hr
      simp only [Tree.shr] at this ⊢
      simp only [RepE]
      exact ⟨h0, v, hc, this⟩
end
end
end Go.Vs
/- Laws of representation: places inside a tree. -/
namespace Go.Vs
open Go

theorem cells_withCells (old : Tree) (cs : List Tree) : (old.withCells cs).cells = cs := by
  unfold Tree.withCells
  split
  · rfl
  · rfl
  · rename_i t h _
    cases t <;> first | rfl | exact (h _ rfl).elim
  · rfl

section
variable {ids : Nat → Nat} {S S' : Nat → Prop} {w w' : World}

theorem repL_append : ∀ (xs ys : List Tree) (vs : List Value) (ob : List Nat),
    RepL ids S w (xs ++ ys) vs ob ↔ ∃ v1 v2 ob1 ob2, vs = v1 ++ v2 ∧ RepL ids S w xs v1 ob1 ∧ RepL ids S w ys v2 ob2 ∧ ob = ob1 ++ ob2
  | [], ys, vs, ob => by
    simp only [List.nil_append, RepL]
    constructor
    · intro h; exact ⟨[], vs, [], ob, rfl, ⟨rfl, rfl⟩, h, rfl⟩
    · rintro ⟨v1, v2, ob1, ob2, rfl, ⟨rfl, rfl⟩, h, rfl⟩; exact h
  | x :: xs, ys, vs, ob => by
    simp only [List.cons_append, RepL, repL_append xs ys]
    constructor
    · rintro ⟨v, _, o1, _, rfl, h1, ⟨v1, v2, ob1, ob2, rfl, h2, h3, rfl⟩, rfl⟩
      exact ⟨v :: v1, v2, o1 ++ ob1, ob2, rfl, ⟨v, v1, o1, ob1, rfl, h1, h2, rfl⟩, h3, by simp⟩
    · rintro ⟨_, v2, _, ob2, rfl, ⟨v, v1, o1, ob1, rfl, h1, h2, rfl⟩, h3, rfl⟩
      exact ⟨v, v1 ++ v2, o1, ob1 ++ ob2, rfl, h1, ⟨v1, v2, ob1, ob2, rfl, h2, h3, rfl⟩, by simp⟩

theorem repL_length : ∀ (ts : List Tree) (vs : List Value) (ob : List Nat), RepL ids S w ts vs ob → vs.length = ts.length
  | [], vs, ob, h => by simp only [RepL] at h; simp [h.1]
  | t :: ts, vs, ob, h => by
    simp only [RepL] at h; obtain ⟨v, vs', ob1, ob2, rfl, _, h2, _⟩ := h
    simp [repL_length ts vs' ob2 h2]

theorem repCs_append : ∀ (xs ys : List Tree) (b off : Nat) (ob : List Nat),
    RepCs ids S w (xs ++ ys) b off ob ↔ ∃ ob1 ob2, RepCs ids S w xs b off ob1 ∧ RepCs ids S w ys b (off + xs.length) ob2 ∧ ob = ob1 ++ ob2
  | [], ys, b, off, ob => by
    simp only [List.nil_append, RepCs, List.length_nil, Nat.add_zero]
    constructor
    · intro h; exact ⟨[], ob, rfl, h, rfl⟩
    · rintro ⟨ob1, ob2, rfl, h, rfl⟩; exact h
  | x :: xs, ys, b, off, ob => by
    have e : off + (x :: xs).length = off + 1 + xs.length := by simp; omega
    simp only [List.cons_append, RepCs, repCs_append xs ys, e]
    constructor
    · rintro ⟨v, o1, _, hc, h1, ⟨ob1, ob2, h2, h3, rfl⟩, rfl⟩
      exact ⟨o1 ++ ob1, ob2, ⟨v, o1, ob1, hc, h1, h2, rfl⟩, h3, by simp⟩
    · rintro ⟨_, ob2, ⟨v, o1, ob1, hc, h1, h2, rfl⟩, h3, rfl⟩
      exact ⟨v, o1, ob1 ++ ob2, hc, h1, ⟨ob1, ob2, h2, h3, rfl⟩, by simp⟩

theorem repEs_append : ∀ (xs ys : List Tree) (sz b off : Nat) (ob : List Nat),
    RepEs ids S w (xs ++ ys) sz b off ob ↔ ∃ ob1 ob2, RepEs ids S w xs sz b off ob1 ∧ RepEs ids S w ys sz b (off + xs.length * sz) ob2 ∧ ob = ob1 ++ ob2
  | [], ys, sz, b, off, ob => by
    simp only [List.nil_append, RepEs, List.length_nil, Nat.zero_mul, Nat.add_zero]
    constructor
    · intro h; exact ⟨[], ob, rfl, h, rfl⟩
    · rintro ⟨ob1, ob2, rfl, h, rfl⟩; exact h
  | x :: xs, ys, sz, b, off, ob => by
    have e : off + (x :: xs).length * sz = off + sz + xs.length * sz := by
      simp only [List.length_cons, Nat.succ_mul]; omega
    simp only [List.cons_append, RepEs, repEs_append xs ys, e]
    constructor
    · rintro ⟨o1, _, h1, ⟨ob1, ob2, h2, h3, rfl⟩, rfl⟩
      exact ⟨o1 ++ ob1, ob2, ⟨o1, ob1, h1, h2, rfl⟩, h3, by simp⟩
    · rintro ⟨_, ob2, ⟨o1, ob1, h1, h2, rfl⟩, h3, rfl⟩
      exact ⟨o1, ob1 ++ ob2, h1, ⟨ob1, ob2, h2, h3, rfl⟩, by simp⟩

/-- one element singled out -/
theorem repEs_at {es : List Tree} {i : Nat} {e : Tree} {sz b off : Nat} {ob : List Nat} (hi : es[i]? = some e) :
    RepEs ids S w es sz b off ob ↔ ∃ o1 o2 o3, RepEs ids S w (es.take i) sz b off o1 ∧ e.cells.length = sz ∧ RepCs ids S w e.cells b (off + i * sz) o2 ∧
      RepEs ids S w (es.drop (i + 1)) sz b (off + (i + 1) * sz) o3 ∧ ob = o1 ++ o2 ++ o3 := by
  obtain ⟨hlt, he⟩ := List.getElem?_eq_some_iff.1 hi
  have e1 : es = es.take i ++ (e :: es.drop (i + 1)) := by
    rw [← he, ← List.drop_eq_getElem_cons hlt, List.take_append_drop]
  have hl : (es.take i).length = i := by simp; omega
  have e2 : off + i * sz + sz = off + (i + 1) * sz := by rw [Nat.succ_mul]; omega
  conv => lhs; rw [e1]
  rw [repEs_append]
  simp only [RepEs, repE_iff, hl, e2]
  constructor
  · rintro ⟨o1, _, h1, ⟨o2, o3, ⟨h2, h3⟩, h4, rfl⟩, rfl⟩
    exact ⟨o1, o2, o3, h1, h2, h3, h4, by simp⟩
  · rintro ⟨o1, o2, o3, h1, h2, h3, h4, rfl⟩
    exact ⟨o1, o2 ++ o3, h1, ⟨o2, o3, ⟨h2, h3⟩, h4, rfl⟩, by simp⟩

theorem set_split {es : List Tree} {i : Nat} {e : Tree} (hi : i < es.length) : (es.set i e).take i = es.take i ∧ (es.set i e).drop (i + 1) = es.drop (i + 1) ∧ (es.set i e)[i]? = some e := by
  refine ⟨?_, ?_, ?_⟩
  · rw [List.take_set]; exact List.set_eq_of_length_le (by simp; omega)
  · rw [List.drop_set]; simp
  · simp [hi]

/-- a range of cells singled out -/
theorem repCs_range {cs : List Tree} {j n b off : Nat} {ob : List Nat} (hj : j + n ≤ cs.length) :
    RepCs ids S w cs b off ob ↔ ∃ o1 o2 o3, RepCs ids S w (cs.take j) b off o1 ∧ RepCs ids S w ((cs.drop j).take n) b (off + j) o2 ∧
      RepCs ids S w (cs.drop (j + n)) b (off + j + n) o3 ∧ ob = o1 ++ o2 ++ o3 := by
  have e1 : cs = cs.take j ++ ((cs.drop j).take n ++ cs.drop (j + n)) := by
    rw [← List.drop_drop, List.take_append_drop, List.take_append_drop]
  have h1 : (cs.take j).length = j := by simp; omega
  have h2 : ((cs.drop j).take n).length = n := by simp; omega
  conv => lhs; rw [e1]
  rw [repCs_append, h1]
  constructor
  · rintro ⟨o1, _, g1, g2, rfl⟩
    rw [repCs_append, h2] at g2
    obtain ⟨o2, o3, g2, g3, rfl⟩ := g2
    exact ⟨o1, o2, o3, g1, g2, g3, by simp⟩
  · rintro ⟨o1, o2, o3, g1, g2, g3, rfl⟩
    exact ⟨o1, o2 ++ o3, g1, by rw [repCs_append, h2]; exact ⟨o2, o3, g2, g3, rfl⟩, by simp⟩

theorem setRange_parts {cs new : List Tree} {j : Nat} (hj : j + new.length ≤ cs.length) :
    (setRange cs j new).take j = cs.take j ∧ ((setRange cs j new).drop j).take new.length = new ∧ (setRange cs j new).drop (j + new.length) = cs.drop (j + new.length) ∧
    (setRange cs j new).length = cs.length := by
  have h1 : (cs.take j).length = j := by simp; omega
  unfold setRange
  refine ⟨?_, ?_, ?_, ?_⟩
  · rw [List.append_assoc, List.take_append_of_le_length (by omega), List.take_of_length_le (by omega)]
  · rw [List.append_assoc, List.drop_append_of_le_length (by omega), List.drop_of_length_le (by omega)]; simp
  · have h2 : (cs.take j ++ new).length = j + new.length := by simp; omega
    rw [List.drop_append_of_le_length (by omega), List.drop_of_length_le (by omega)]; simp
  · simp; omega

/-- the block of an owned node's value -/
def base : Value → Option Nat
  | .slice (some ⟨b, 0, none⟩) _ _ => some b
  | .pointer (some ⟨b, 0, none⟩) => some b
  | _ => none


theorem repCs_cells (hS : ∀ b, S b → S' b) (hw : ∀ b, S b → w'.heap[b]? = w.heap[b]?) :
    ∀ (ts : List Tree) (b off : Nat) (ob : List Nat), (∀ o, off ≤ o → o < off + ts.length → w'.cell? ⟨b, o, none⟩ = w.cell? ⟨b, o, none⟩) →
      (∀ b, b ∈ ob → w'.heap[b]? = w.heap[b]?) → RepCs ids S w ts b off ob → RepCs ids S' w' ts b off ob
  | [], b, off, ob, _, _, h => by simpa only [RepCs] using h
  | t :: ts, b, off, ob, hc0, hb, h => by
    simp only [RepCs] at h ⊢
    obtain ⟨v, ob1, ob2, hc, h1, h2, rfl⟩ := h
    refine ⟨v, ob1, ob2, ⟨?_, hc.2⟩, rep_mono hS hw t v ob1 (fun b hx => hb b (by simp [hx])) h1,
      repCs_cells hS hw ts b (off + 1) ob2 (fun o h1 h2 => hc0 o (by omega) (by simp; omega)) (fun b hx => hb b (by simp [hx])) h2, rfl⟩
    rw [hc0 off (by omega) (by simp)]; exact hc.1

theorem repEs_cells (hS : ∀ b, S b → S' b) (hw : ∀ b, S b → w'.heap[b]? = w.heap[b]?) :
    ∀ (ts : List Tree) (sz b off : Nat) (ob : List Nat), (∀ o, off ≤ o → o < off + ts.length * sz → w'.cell? ⟨b, o, none⟩ = w.cell? ⟨b, o, none⟩) →
      (∀ b, b ∈ ob → w'.heap[b]? = w.heap[b]?) → RepEs ids S w ts sz b off ob → RepEs ids S' w' ts sz b off ob
  | [], sz, b, off, ob, _, _, h => by simpa only [RepEs] using h
  | t :: ts, sz, b, off, ob, hc0, hb, h => by
    simp only [RepEs, repE_iff] at h ⊢
    obtain ⟨ob1, ob2, ⟨h0, h1⟩, h2, rfl⟩ := h
    have e : (t :: ts).length * sz = sz + ts.length * sz := by simp only [List.length_cons, Nat.succ_mul]; omega
    refine ⟨ob1, ob2, ⟨h0, repCs_cells hS hw t.cells b off ob1 (fun o g1 g2 => hc0 o (by omega) (by omega)) (fun b hx => hb b (by simp [hx])) h1⟩,
      repEs_cells hS hw ts sz b (off + sz) ob2 (fun o g1 g2 => hc0 o (by omega) (by omega)) (fun b hx => hb b (by simp [hx])) h2, rfl⟩

/-- an owned node: its block, and the cells of one element -/
theorem rep_elem {t e : Tree} {v : Value} {ob : List Nat} {i : Nat} (h : Rep ids S w t v ob) (he : t.elem i = some e) :
    ∃ b o1 o2 o3 n, base v = some b ∧ ob = b :: (o1 ++ o2 ++ o3) ∧ OwnBlk w b n ∧ i * t.szOf + e.cells.length ≤ n ∧
      RepCs ids S w e.cells b (i * t.szOf) o2 ∧
      ∀ (S' : Nat → Prop) (w' : World) (new : List Tree) (j : Nat) (o2' : List Nat), (∀ x, S x → S' x) → (∀ x, S x → w'.heap[x]? = w.heap[x]?) →
        (∀ x, x ∈ o1 → w'.heap[x]? = w.heap[x]?) → (∀ x, x ∈ o3 → w'.heap[x]? = w.heap[x]?) →
        (∀ o, (o < i * t.szOf ∨ i * t.szOf + e.cells.length ≤ o) → w'.cell? ⟨b, o, none⟩ = w.cell? ⟨b, o, none⟩) → OwnBlk w' b n →
        j + new.length ≤ e.cells.length →
        RepCs ids S' w' (setRange e.cells j new) b (i * t.szOf) o2' →
        ∃ t', t.setCells i j new = some t' ∧ Rep ids S' w' t' v (b :: (o1 ++ o2' ++ o3)) := by
  unfold Tree.elem at he
  split at he
  · rename_i sz es
    simp only [Rep] at h
    rcases h with ⟨rfl, _⟩ | ⟨b, cap, ob', rfl, rfl, h1, h2, h3, h4⟩
    · simp at he
    obtain ⟨hlt, _⟩ := List.getElem?_eq_some_iff.1 he
    rw [repEs_at he] at h4
    obtain ⟨o1, o2, o3, g1, g2, g3, g4, rfl⟩ := h4
    simp only [Nat.zero_add] at g1 g3 g4
    have hle : i * sz + sz ≤ cap * sz := by
      have : (i + 1) * sz ≤ cap * sz := Nat.mul_le_mul_right _ (by omega)
      rw [Nat.succ_mul] at this; omega
    refine ⟨b, o1, o2, o3, cap * sz, rfl, rfl, h3, by simp only [Tree.szOf]; omega, by simpa only [Tree.szOf] using g3, ?_⟩
    intro S' w' new j o2' hS hw ho1 ho3 hcell hblk hj hnew
    simp only [Tree.szOf] at hcell hnew
    obtain ⟨s1, s2, s3⟩ := set_split (e := e.withCells (setRange e.cells j new)) hlt
    have hsr := (setRange_parts hj).2.2.2
    refine ⟨_, by simp only [Tree.setCells, he, Option.bind_some]; rw [if_pos hj], ?_⟩
    simp only [Rep, List.length_set]
    refine .inr ⟨b, cap, o1 ++ o2' ++ o3, rfl, rfl, h1, h2, hblk, ?_⟩
    rw [repEs_at s3, s1, s2]
    refine ⟨o1, o2', o3, ?_, ?_, ?_, ?_, rfl⟩
    · have hl : (es.take i).length = i := by simp; omega
      exact repEs_cells hS hw _ sz b 0 o1 (fun o _ g => hcell o (.inl (by rw [hl] at g; omega))) ho1 g1
    · rw [cells_withCells, hsr]; exact g2
    · rw [cells_withCells]; simpa only [Nat.zero_add] using hnew
    · simp only [Nat.zero_add]
      exact repEs_cells hS hw _ sz b _ o3 (fun o g _ => hcell o (.inr (by rw [g2]; rw [Nat.succ_mul] at g; omega))) ho3 g4
  · rename_i cs
    simp only [Rep] at h
    obtain ⟨b, ob', rfl, rfl, h3, h4⟩ := h
    split at he
    · rename_i hi
      subst hi
      simp only [Option.some.injEq] at he
      subst he
      refine ⟨b, [], ob', [], cs.length, rfl, by simp, h3, by simp [Tree.szOf, Tree.cells], by simpa only [Tree.szOf, Tree.cells, Nat.zero_mul] using h4, ?_⟩
      intro S' w' new j o2' hS hw ho1 ho3 hcell hblk hj hnew
      simp only [Tree.cells] at hj hnew
      refine ⟨.ptr true (setRange cs j new), by simp [Tree.setCells, hj], ?_⟩
      simp only [Rep, (setRange_parts hj).2.2.2]
      refine ⟨b, o2', rfl, by simp, hblk, by simpa only [Tree.szOf, Nat.zero_mul] using hnew⟩
    · exact absurd he (by simp)
  · exact absurd he (by simp)

/-- the value at a place -/
def vAt (w : World) : Tree → Value → Path → Option Value
  | _, v, [] => some v
  | t, v, s :: p => (base v).bind fun b => (w.cell? ⟨b, s.1 * t.szOf + s.2, none⟩).bind fun c => (t.kid s).bind fun k => vAt w k c p

/-- a place inside an owned tree: what stands there, and what becomes of the whole when another tree is laid there -/
theorem rep_at : ∀ (p : Path) (t n : Tree) (v : Value) (ob : List Nat), Rep ids S w t v ob → t.tAt p = some n →
    ∃ vn pre on post, vAt w t v p = some vn ∧ ob = pre ++ on ++ post ∧ Rep ids S w n vn on ∧
      ∀ (S' : Nat → Prop) (w' : World) (n' : Tree) (on' : List Nat), (∀ x, S x → S' x) → (∀ x, S x → w'.heap[x]? = w.heap[x]?) →
        (∀ x, x ∈ pre → w'.heap[x]? = w.heap[x]?) → (∀ x, x ∈ post → w'.heap[x]? = w.heap[x]?) → Rep ids S' w' n' vn on' →
        ∃ t', t.upd p n' = some t' ∧ Rep ids S' w' t' v (pre ++ on' ++ post)
  | [], t, n, v, ob, h, hp => by
    simp only [Tree.tAt, Option.some.injEq] at hp
    subst hp
    refine ⟨v, [], ob, [], rfl, by simp, h, ?_⟩
    intro S' w' n' on' _ _ _ _ hn
    exact ⟨n', rfl, by simpa using hn⟩
  | s :: p, t, n, v, ob, h, hp => by
    simp only [Tree.tAt, Option.bind_eq_some_iff] at hp
    obtain ⟨k, hk, hp⟩ := hp
    have hk0 := hk
    simp only [Tree.kid, Option.bind_eq_some_iff] at hk
    obtain ⟨e, he, hk⟩ := hk
    obtain ⟨b, o1, o2, o3, m, hb, rfl, hown, hle, hcs, hset⟩ := rep_elem h he
    obtain ⟨hlt, hke⟩ := List.getElem?_eq_some_iff.1 hk
    have hone : (e.cells.drop s.2).take 1 = [k] := by
      rw [List.drop_eq_getElem_cons hlt, hke]; rfl
    have hcs0 := hcs
    rw [repCs_range (j := s.2) (n := 1) (by omega), hone] at hcs
    obtain ⟨q1, q2, q3, c1, c2, c3, rfl⟩ := hcs
    simp only [RepCs] at c2
    obtain ⟨c, qa, qb, ⟨hc, h1c⟩, hr, rfl, rfl⟩ := c2
    obtain ⟨vn, pre, on, post, hv, rfl, hn, hupd⟩ := rep_at p k n c _ hr hp
    refine ⟨vn, b :: (o1 ++ q1 ++ pre), on, post ++ q3 ++ o3, ?_, by simp, hn, ?_⟩
    · simp only [vAt, hb, Option.bind_some, hc, hk0, hv]
    · intro S' w' n' on' hS hw hpre hpost hn'
      obtain ⟨k', hk', hr'⟩ := hupd S' w' n' on' hS hw (fun x hx => hpre x (by simp [hx])) (fun x hx => hpost x (by simp [hx])) hn'
      have hbb : w'.heap[b]? = w.heap[b]? := hpre b (by simp)
      have hj : s.2 + [k'].length ≤ e.cells.length := by simp; omega
      obtain ⟨p1, p2, p3, p4⟩ := setRange_parts (new := [k']) hj
      obtain ⟨t', ht1, ht2⟩ := hset S' w' [k'] s.2 (q1 ++ (pre ++ on' ++ post) ++ q3) hS hw (fun x hx => hpre x (by simp [hx])) (fun x hx => hpost x (by simp [hx]))
        (fun o _ => cell?_congr hbb) (hown.congr hbb) hj (by
          rw [repCs_range (j := s.2) (n := [k'].length) (by rw [p4]; exact hj), p1, p2, p3]
          refine ⟨q1, pre ++ on' ++ post, q3, repCs_mono hS hw _ b _ q1 hbb (fun x hx => hpre x (by simp [hx])) c1, ?_,
            repCs_mono hS hw _ b _ q3 hbb (fun x hx => hpost x (by simp [hx])) c3, rfl⟩
          simp only [RepCs]
          exact ⟨c, pre ++ on' ++ post, [], ⟨by rw [cell?_congr hbb]; exact hc, h1c⟩, hr', rfl, by simp⟩)
      refine ⟨t', by simp only [Tree.upd, hk0, Option.bind_some, hk', ht1], ?_⟩
      simpa [List.append_assoc] using ht2
end
end Go.Vs
/- The relation between an abstract environment and the machine's slots and memory. -/
namespace Go.Vs
open Go

def killed (ρ : Roots) (s d : Nat) : Bool := ρ.any fun e => decide (e.1 = s) && decide (e.2.1 = d)
def killedL (ρ : Roots) (s d : Nat) : Bool := ρ.any fun e => decide (e.1 = s) && (decide (e.2.1 = d) && e.2.2)

theorem get_append (ws E : Env) (s : Nat) : get (ws ++ E) s = if ws.any (fun e => decide (e.1 = s)) then get ws s else get E s := by
  induction ws with
  | nil => simp
  | cons e ws ih =>
    obtain ⟨k, a⟩ := e
    simp only [List.cons_append, get, List.any_cons, ih]
    by_cases hk : k = s
    · simp [hk]
    · simp only [hk, if_false, decide_false, Bool.false_or]

theorem kills_any (ρ : Roots) (d s : Nat) : (kills ρ d).any (fun e => decide (e.1 = s)) = killed ρ s d := by
  induction ρ with
  | nil => rfl
  | cons e ρ ih =>
    obtain ⟨t, r, l⟩ := e
    simp only [kills, killed, List.any_cons] at *
    by_cases hr : r = d <;> simp [hr, ih]

theorem kills_get (ρ : Roots) (d s : Nat) : get (kills ρ d) s = .undef := by
  induction ρ with
  | nil => rfl
  | cons e ρ ih =>
    obtain ⟨t, r, l⟩ := e
    simp only [kills]
    by_cases hr : r = d <;> simp [hr, ih, get]

theorem killsLong_any (ρ : Roots) (d s : Nat) : (killsLong ρ d).any (fun e => decide (e.1 = s)) = killedL ρ s d := by
  induction ρ with
  | nil => rfl
  | cons e ρ ih =>
    obtain ⟨t, r, l⟩ := e
    simp only [killsLong, killedL, List.any_cons] at *
    by_cases hr : r = d <;> cases l <;> simp [hr, ih]

theorem killsLong_get (ρ : Roots) (d s : Nat) : get (killsLong ρ d) s = .undef := by
  induction ρ with
  | nil => rfl
  | cons e ρ ih =>
    obtain ⟨t, r, l⟩ := e
    simp only [killsLong]
    by_cases hr : r = d <;> cases l <;> simp [hr, ih, get]

theorem get_wr (ρ : Roots) (d : Nat) (a : AV) (E : Env) (s : Nat) :
    get (wr ρ d a ++ E) s = if s = d then a else if killed ρ s d then .undef else get E s := by
  rw [get_append]
  simp only [wr, List.any_cons, kills_any, get, kills_get]
  by_cases h : s = d
  · subst h; simp
  · have h2 : ¬ d = s := fun e => h e.symm
    simp [h, h2]

theorem get_chg (ρ : Roots) (r : Nat) (T : Tree) (E : Env) (s : Nat) :
    get (chg ρ r T ++ E) s = if s = r then .tree T else if killedL ρ s r then .undef else get E s := by
  rw [get_append]
  simp only [chg, List.any_cons, killsLong_any, get, killsLong_get]
  by_cases h : s = r
  · subst h; simp
  · have h2 : ¬ r = s := fun e => h e.symm
    simp [h, h2]

theorem okRef_killed {ρ : Roots} {s r : Nat} {p : Path} (h : okRef ρ s r p = true) : killed ρ s r = true := by
  induction ρ with
  | nil => simp [okRef] at h
  | cons e ρ ih =>
    obtain ⟨t, r', l⟩ := e
    simp only [okRef] at h
    simp only [killed, List.any_cons, Bool.or_eq_true] at *
    by_cases ht : t = s
    · simp only [ht, if_true] at h
      by_cases hr : r' = r
      · left; simp [ht, hr]
      · simp [hr] at h
    · simp only [ht, if_false] at h
      exact .inr (ih h)

theorem okRef_long {ρ : Roots} {s r : Nat} {p : Path} (h : okRef ρ s r p = true) (hk : killedL ρ s r = false) : p = [] := by
  induction ρ with
  | nil => simp [okRef] at h
  | cons e ρ ih =>
    obtain ⟨t, r', l⟩ := e
    simp only [okRef] at h
    simp only [killedL, List.any_cons, Bool.or_eq_false_iff] at *
    by_cases ht : t = s
    · simp only [ht, if_true] at h
      by_cases hr : r' = r
      · simp only [hr, if_true] at h
        cases l
        · simpa using h
        · simp [ht, hr] at hk
      · simp [hr] at h
    · simp only [ht, if_false] at h
      exact ih h hk.2

section
variable {ids : Nat → Nat} {S S' : Nat → Prop} {w w' : World}

theorem vAt_frame : ∀ (p : Path) (t n : Tree) (v : Value) (ob : List Nat), Rep ids S w t v ob → (∀ b, b ∈ ob → w'.heap[b]? = w.heap[b]?) → t.tAt p = some n →
    vAt w' t v p = vAt w t v p
  | [], _, _, _, _, _, _, _ => rfl
  | s :: p, t, n, v, ob, h, hw, hp => by
    simp only [Tree.tAt, Option.bind_eq_some_iff] at hp
    obtain ⟨k, hk, hp⟩ := hp
    have hk0 := hk
    simp only [Tree.kid, Option.bind_eq_some_iff] at hk
    obtain ⟨e, he, hk⟩ := hk
    obtain ⟨b, o1, o2, o3, m, hb, rfl, hown, hle, hcs, hset⟩ := rep_elem h he
    obtain ⟨hlt, hke⟩ := List.getElem?_eq_some_iff.1 hk
    have hone : (e.cells.drop s.2).take 1 = [k] := by
      rw [List.drop_eq_getElem_cons hlt, hke]; rfl
    rw [repCs_range (j := s.2) (n := 1) (by omega), hone] at hcs
    obtain ⟨q1, q2, q3, c1, c2, c3, rfl⟩ := hcs
    simp only [RepCs] at c2
    obtain ⟨c, qa, qb, ⟨hc, h1c⟩, hr, rfl, rfl⟩ := c2
    have hbb : w'.heap[b]? = w.heap[b]? := hw b (by simp)
    simp only [vAt, hb, Option.bind_some, hc, hk0, cell?_congr hbb]
    exact vAt_frame p k n c _ hr (fun x hx => hw x (by simp [hx])) hp

theorem OwnBlk.lt {b n : Nat} (h : OwnBlk w b n) : b < w.heap.size := by
  obtain ⟨arr, ety, fz, h, _⟩ := h
  exact (Array.getElem?_eq_some_iff.1 h).1

mutual
theorem rep_lt : ∀ (t : Tree) (v : Value) (ob : List Nat), Rep ids S w t v ob → ∀ b, b ∈ ob → b < w.heap.size
  | .int k n, v, ob, h => by simp only [Rep] at h; simp [h.2]
  | .bool b, v, ob, h => by simp only [Rep] at h; simp [h.2]
  | .str s, v, ob, h => by simp only [Rep] at h; simp [h.2]
  | .nil sz, v, ob, h => by simp only [Rep] at h; simp [h.2.1]
  | .nilp, v, ob, h => by simp only [Rep] at h; simp [h.2]
  | .dead, v, ob, h => by simp only [Rep] at h; simp [h]
  | .sl true sz es, v, ob, h => by
    simp only [Rep] at h
    rcases h with ⟨_, _, rfl, _⟩ | ⟨b, cap, ob', rfl, rfl, h1, h2, h3, h4⟩
    · simp
    have := repEs_lt es sz b 0 ob' h4
    intro x hx
    rcases List.mem_cons.1 hx with rfl | hx
    · exact h3.lt
    · exact this x hx
  | .sl false sz es, v, ob, h => by simp only [Rep] at h; simp [h.1]
  | .ptr true cs, v, ob, h => by
    simp only [Rep] at h
    obtain ⟨b, ob', rfl, rfl, h3, h4⟩ := h
    have := repCs_lt cs b 0 ob' h4
    intro x hx
    rcases List.mem_cons.1 hx with rfl | hx
    · exact h3.lt
    · exact this x hx
  | .ptr false cs, v, ob, h => by simp only [Rep] at h; simp [h.1]
  | .agg cs, v, ob, h => by simp only [Rep] at h; obtain ⟨vs, rfl, _, h⟩ := h; exact repL_lt cs _ ob h
  | .fn f cs, v, ob, h => by simp only [Rep] at h; obtain ⟨g, vs, rfl, _, h⟩ := h; exact repL_lt cs _ ob h
  | .tup cs, v, ob, h => by simp only [Rep] at h; obtain ⟨vs, rfl, h⟩ := h; exact repL_lt cs _ ob h
theorem repL_lt : ∀ (ts : List Tree) (vs : List Value) (ob : List Nat), RepL ids S w ts vs ob → ∀ b, b ∈ ob → b < w.heap.size
  | [], vs, ob, h => by simp only [RepL] at h; simp [h.2]
  | t :: ts, vs, ob, h => by
    simp only [RepL] at h
    obtain ⟨v, vs', ob1, ob2, rfl, h1, h2, rfl⟩ := h
    intro b hb
    rcases List.mem_append.1 hb with hb | hb
    · exact rep_lt t v ob1 h1 b hb
    · exact repL_lt ts vs' ob2 h2 b hb
theorem repCs_lt : ∀ (ts : List Tree) (b off : Nat) (ob : List Nat), RepCs ids S w ts b off ob → ∀ b, b ∈ ob → b < w.heap.size
  | [], b, off, ob, h => by simp only [RepCs] at h; simp [h]
  | t :: ts, b, off, ob, h => by
    simp only [RepCs] at h
    obtain ⟨v, ob1, ob2, _, h1, h2, rfl⟩ := h
    intro x hx
    rcases List.mem_append.1 hx with hx | hx
    · exact rep_lt t v ob1 h1 x hx
    · exact repCs_lt ts b _ ob2 h2 x hx
theorem repEs_lt : ∀ (ts : List Tree) (sz b off : Nat) (ob : List Nat), RepEs ids S w ts sz b off ob → ∀ b, b ∈ ob → b < w.heap.size
  | [], sz, b, off, ob, h => by simp only [RepEs] at h; simp [h]
  | t :: ts, sz, b, off, ob, h => by
    simp only [RepEs] at h
    obtain ⟨ob1, ob2, h1, h2, rfl⟩ := h
    intro x hx
    rcases List.mem_append.1 hx with hx | hx
    · match t, h1 with
      | .agg cs, h1 => simp only [RepE] at h1; exact repCs_lt cs b off ob1 h1.2 x hx
      | .int .., h1 | .bool .., h1 | .str .., h1 | .nil .., h1 | .nilp, h1 | .sl .., h1 | .ptr .., h1 | .fn .., h1 | .tup .., h1 | .dead, h1 =>
        simp only [RepE] at h1
        obtain ⟨h0, v, hc, hr⟩ := h1
        exact rep_lt _ v ob1 hr x hx
    · exact repEs_lt ts sz b _ ob2 h2 x hx
end
end

/-- what slot s holds -/
def SlotOk (ids : Nat → Nat) (S : Nat → Prop) (w : World) (tm : Array Value) (E : Env) (s : Nat) (ob : List Nat) : Prop :=
  match get E s with
  | .tree t => Rep ids S w t (tm.getD s undef) ob
  | .bor r p => ob = [] ∧ ∀ T n, get E r = .tree T → T.tAt p = some n → vAt w T (tm.getD r undef) p = some (tm.getD s undef)
  | .adr r p i j => ob = [] ∧ ∀ T n e, get E r = .tree T → T.tAt p = some n → n.elem i = some e →
      ∃ vn b, vAt w T (tm.getD r undef) p = some vn ∧ base vn = some b ∧ tm.getD s undef = .pointer (some ⟨b, i * n.szOf + j, none⟩)
  | .clo f caps => ob = [] ∧ ∃ g, ids g = f ∧ tm.getD s undef = .func (.func g) #[] (caps.map fun c => tm.getD c undef).toArray
  | .undef => ob = []
  | .gone => ob = [] ∧ tm.getD s undef = undef

def RefAt (E : Env) (s r : Nat) (p : Path) : Prop := get E s = .bor r p ∨ ∃ i j, get E s = .adr r p i j

structure Inv (ids : Nat → Nat) (S A : Nat → Prop) (N : Nat) (ρ : Roots) (fix : List Nat) (w : World) (tm : Array Value) (E : Env) (obs : Nat → List Nat) (H : List Nat) : Prop where
  size : tm.size = N
  slot : ∀ s, SlotOk ids S w tm E s (obs s)
  ref : ∀ s r p, RefAt E s r p → okRef ρ s r p = true
  clo : ∀ s f caps, get E s = .clo f caps → ∀ c, c ∈ caps → c ∈ fix
  nodup : ∀ s, (obs s).Nodup
  apart : ∀ s s', s ≠ s' → ∀ b, b ∈ obs s → b ∉ obs s'
  own : ∀ s b, b ∈ obs s → ¬ S b ∧ A b ∧ b < w.heap.size
  hnd : H.Nodup
  hap : ∀ b, b ∈ H → ¬ S b ∧ A b ∧ b < w.heap.size ∧ ∀ s, b ∉ obs s
  st : ∀ b, S b → b < w.heap.size
  fresh : ∀ b, w.heap.size ≤ b → A b

section
variable {ids : Nat → Nat} {S S' A : Nat → Prop} {N : Nat} {ρ : Roots} {fix : List Nat} {w w' : World} {tm : Array Value} {E : Env} {obs : Nat → List Nat} {H : List Nat}

theorem Inv.drop {ob : List Nat} (h : Inv ids S A N ρ fix w tm E obs (ob ++ H)) : Inv ids S A N ρ fix w tm E obs H :=
  { h with hnd := (List.nodup_append.1 h.hnd).2.1, hap := fun b hb => h.hap b (by simp [hb]) }

theorem getD_set_self {d : Nat} {v : Value} (hd : d < tm.size) : (tm.setIfInBounds d v).getD d undef = v := by
  simp [Array.getD_eq_getD_getElem?, hd]
theorem getD_set_ne {d s : Nat} {v : Value} (h : s ≠ d) : (tm.setIfInBounds d v).getD s undef = tm.getD s undef := by
  simp only [Array.getD_eq_getD_getElem?]
  rw [Array.getElem?_setIfInBounds_ne (by omega)]

/-- slot d is written -/
theorem Inv.putG {d : Nat} {a : AV} {tm' : Array Value} {ob : List Nat} (h : Inv ids S A N ρ fix w tm E obs (ob ++ H)) (hsz : tm'.size = N)
    (htm : ∀ s, s ≠ d → tm'.getD s undef = tm.getD s undef) (hf : ∀ c, c ∈ fix → tm'.getD c undef = tm.getD c undef)
    (hs : SlotOk ids S w tm' (wr ρ d a ++ E) d ob)
    (hr : ∀ r p, (a = .bor r p ∨ ∃ i j, a = .adr r p i j) → okRef ρ d r p = true)
    (hc : ∀ f caps, a = .clo f caps → ∀ c, c ∈ caps → c ∈ fix) :
    Inv ids S A N ρ fix w tm' (wr ρ d a ++ E) (fun s => if s = d then ob else if killed ρ s d then [] else obs s) H := by
  have hsub : ∀ s, s ≠ d → ∀ b, b ∈ (if s = d then ob else if killed ρ s d then [] else obs s) → b ∈ obs s := by
    intro s hs b hb
    simp only [hs, if_false] at hb
    split at hb
    · simp at hb
    · exact hb
  obtain ⟨hn1, hn2, hn3⟩ := List.nodup_append.1 h.hnd
  refine ⟨hsz, ?_, ?_, ?_, ?_, ?_, ?_, hn2, ?_, h.st, h.fresh⟩
  · intro s
    by_cases hsd : s = d
    · subst hsd; simpa using hs
    · have h0 := h.slot s
      simp only [SlotOk, get_wr, hsd, if_false, htm s hsd] at h0 ⊢
      by_cases hk : killed ρ s d = true
      · simp [hk]
      · simp only [hk, Bool.false_eq_true, if_false]
        have hnr : ∀ r p, RefAt E s r p → r ≠ d := by
          intro r p hra hrd
          subst hrd
          exact hk (okRef_killed (h.ref s r p hra))
        split at h0
        · rename_i t ht; simpa [ht] using h0
        · rename_i r p ht
          have hrd := hnr r p (.inl ht)
          refine ⟨h0.1, fun T n hT hp => ?_⟩
          simp only [hrd, if_false] at hT
          split at hT
          · exact absurd hT (by simp)
          · rw [htm r hrd]; exact h0.2 T n hT hp
        · rename_i r p i j ht
          have hrd := hnr r p (.inr ⟨i, j, ht⟩)
          refine ⟨h0.1, fun T n e hT hp he => ?_⟩
          simp only [hrd, if_false] at hT
          split at hT
          · exact absurd hT (by simp)
          · rw [htm r hrd]; exact h0.2 T n e hT hp he
        · rename_i f caps ht
          obtain ⟨h1, g, hg, h2⟩ := h0
          refine ⟨h1, g, hg, ?_⟩
          rw [h2]
          congr 2
          refine List.map_congr_left fun c hcm => ?_
          have : c ∈ fix := h.clo s f caps ht c hcm
          rw [hf c this]
        · rename_i ht; simpa [ht] using h0
        · rename_i ht; simpa [ht] using h0
  · intro s r p hra
    by_cases hsd : s = d
    · subst hsd
      simp only [RefAt, get_wr, if_true] at hra
      exact hr r p hra
    · simp only [RefAt, get_wr, hsd, if_false] at hra
      split at hra
      · rcases hra with hra | ⟨i, j, hra⟩ <;> cases hra
      · exact h.ref s r p hra
  · intro s f caps hcl
    by_cases hsd : s = d
    · subst hsd
      simp only [get_wr, if_true] at hcl
      exact hc f caps hcl
    · simp only [get_wr, hsd, if_false] at hcl
      split at hcl
      · cases hcl
      · exact h.clo s f caps hcl
  · intro s
    by_cases hsd : s = d
    · simpa [hsd] using hn1
    · simp only [hsd, if_false]; split
      · simp
      · exact h.nodup s
  · intro s s' hss b hb hb'
    by_cases hsd : s = d
    · have hsd' : s' ≠ d := fun e => hss (hsd.trans e.symm)
      simp only [hsd, if_true] at hb
      exact (h.hap b (by simp [hb])).2.2.2 s' (hsub s' hsd' b hb')
    · by_cases hsd' : s' = d
      · simp only [hsd', if_true] at hb'
        exact (h.hap b (by simp [hb'])).2.2.2 s (hsub s hsd b hb)
      · exact h.apart s s' hss b (hsub s hsd b hb) (hsub s' hsd' b hb')
  · intro s b hb
    by_cases hsd : s = d
    · simp only [hsd, if_true] at hb
      obtain ⟨g1, g2, g3, _⟩ := h.hap b (by simp [hb])
      exact ⟨g1, g2, g3⟩
    · exact h.own s b (hsub s hsd b hb)
  · intro b hb
    obtain ⟨g1, g2, g3, g4⟩ := h.hap b (by simp [hb])
    refine ⟨g1, g2, g3, fun s hbs => ?_⟩
    by_cases hsd : s = d
    · simp only [hsd, if_true] at hbs
      exact (hn3 b hbs b hb) rfl
    · exact g4 s (hsub s hsd b hbs)

theorem Inv.put {d : Nat} {a : AV} {v : Value} {ob : List Nat} (h : Inv ids S A N ρ fix w tm E obs (ob ++ H)) (_hd : d < N) (hf : d ∉ fix)
    (hs : SlotOk ids S w (tm.setIfInBounds d v) (wr ρ d a ++ E) d ob)
    (hr : ∀ r p, (a = .bor r p ∨ ∃ i j, a = .adr r p i j) → okRef ρ d r p = true)
    (hc : ∀ f caps, a = .clo f caps → ∀ c, c ∈ caps → c ∈ fix) :
    Inv ids S A N ρ fix w (tm.setIfInBounds d v) (wr ρ d a ++ E) (fun s => if s = d then ob else if killed ρ s d then [] else obs s) H :=
  h.putG (by simpa using h.size) (fun s hs => getD_set_ne hs) (fun c hc => getD_set_ne (fun e : c = d => hf (e ▸ hc))) hs hr hc

/-- more in hand -/
theorem Inv.hand {L : List Nat} (h : Inv ids S A N ρ fix w tm E obs H) (hn : L.Nodup) (hd : ∀ b, b ∈ L → b ∉ H ∧ ¬ S b ∧ A b ∧ b < w.heap.size ∧ ∀ s, b ∉ obs s) :
    Inv ids S A N ρ fix w tm E obs (L ++ H) :=
  { h with
    hnd := List.nodup_append.2 ⟨hn, h.hnd, fun a ha b hb e => (hd a ha).1 (e ▸ hb)⟩
    hap := fun b hb => by
      rcases List.mem_append.1 hb with hb | hb
      · exact (hd b hb).2
      · exact h.hap b hb }

/-- slot d loses what it holds; it comes into the hand -/
theorem Inv.unset {d : Nat} (h : Inv ids S A N ρ fix w tm E obs H) :
    Inv ids S A N ρ fix w tm (wr ρ d .undef ++ E) (fun s => if s = d then [] else if killed ρ s d then [] else obs s) (obs d ++ H) := by
  have h1 := Inv.putG (d := d) (a := .undef) (tm' := tm) (ob := []) (by simpa using h) h.size (fun _ _ => rfl) (fun _ _ => rfl)
    (by simp [SlotOk, get_wr]) (by rintro r p (h | ⟨i, j, h⟩) <;> cases h) (by intro f caps h; cases h)
  refine h1.hand (h.nodup d) fun b hb => ?_
  obtain ⟨g1, g2, g3⟩ := h.own d b hb
  refine ⟨fun hb' => (h.hap b hb').2.2.2 d hb, g1, g2, g3, fun s hs => ?_⟩
  by_cases hsd : s = d
  · simp [hsd] at hs
  · simp only [hsd, if_false] at hs
    split at hs
    · simp at hs
    · exact h.apart s d hsd b hs hb

/-- new blocks -/
theorem Inv.ext {L : List Nat} (h : Inv ids S A N ρ fix w tm E obs H) (hsz : w.heap.size ≤ w'.heap.size) (hw : ∀ b, b < w.heap.size → w'.heap[b]? = w.heap[b]?)
    (hn : L.Nodup) (hL : ∀ b, b ∈ L → w.heap.size ≤ b ∧ b < w'.heap.size) : Inv ids S A N ρ fix w' tm E obs (L ++ H) := by
  have hS : ∀ b, S b → w'.heap[b]? = w.heap[b]? := fun b hb => hw b (h.st b hb)
  have hO : ∀ s b, b ∈ obs s → w'.heap[b]? = w.heap[b]? := fun s b hb => hw b (h.own s b hb).2.2
  have h1 : Inv ids S A N ρ fix w' tm E obs H :=
    { h with
      slot := fun s => by
        have h0 := h.slot s
        simp only [SlotOk] at h0 ⊢
        split at h0
        · exact rep_mono (fun _ h => h) hS _ _ _ (hO s) h0
        · rename_i r p ht
          refine ⟨h0.1, fun T n hT hp => ?_⟩
          have hr := h.slot r
          simp only [SlotOk, hT] at hr
          rw [vAt_frame p T n _ _ hr (hO r) hp]
          exact h0.2 T n hT hp
        · rename_i r p i j ht
          refine ⟨h0.1, fun T n e hT hp he => ?_⟩
          have hr := h.slot r
          simp only [SlotOk, hT] at hr
          rw [vAt_frame p T n _ _ hr (hO r) hp]
          exact h0.2 T n e hT hp he
        · exact h0
        · exact h0
        · exact h0
      own := fun s b hb => ⟨(h.own s b hb).1, (h.own s b hb).2.1, by have := (h.own s b hb).2.2; omega⟩
      hap := fun b hb => by obtain ⟨g1, g2, g3, g4⟩ := h.hap b hb; exact ⟨g1, g2, by omega, g4⟩
      st := fun b hb => by have := h.st b hb; omega
      fresh := fun b hb => h.fresh b (by omega) }
  refine h1.hand hn fun b hb => ?_
  obtain ⟨g1, g2⟩ := hL b hb
  refine ⟨fun hb' => ?_, fun hs => ?_, h.fresh b g1, g2, fun s hs => ?_⟩
  · have := (h.hap b hb').2.2.1; omega
  · have := h.st b hs; omega
  · have := (h.own s b hs).2.2; omega

/-- a tree goes into slot d -/
theorem Inv.putT {d : Nat} {t : Tree} {v : Value} {ob : List Nat} (h : Inv ids S A N ρ fix w tm E obs (ob ++ H)) (hd : d < N) (hf : d ∉ fix)
    (hs : Rep ids S w t v ob) :
    Inv ids S A N ρ fix w (tm.setIfInBounds d v) (wr ρ d (.tree t) ++ E) (fun s => if s = d then ob else if killed ρ s d then [] else obs s) H :=
  h.put hd hf (by simp only [SlotOk, get_wr, if_true, getD_set_self (by rw [h.size]; exact hd)]; exact hs) (by rintro r p (h | ⟨i, j, h⟩) <;> cases h) (by intro f caps h; cases h)

/-- the tree at root r changes, with the world -/
theorem Inv.chg {r : Nat} {T T' : Tree} {ob' H' : List Nat} (h : Inv ids S A N ρ fix w tm E obs H) (hT : get E r = .tree T)
    (hS : ∀ b, S b → S' b) (hst : ∀ b, S' b → b < w'.heap.size) (hsz : w.heap.size ≤ w'.heap.size)
    (hw : ∀ b, S b → w'.heap[b]? = w.heap[b]?) (hoth : ∀ s, s ≠ r → ∀ b, b ∈ obs s → w'.heap[b]? = w.heap[b]?)
    (hrep : Rep ids S' w' T' (tm.getD r undef) ob')
    (hadr : ∀ i e', T'.elem i = some e' → (∃ e, T.elem i = some e) ∧ T'.szOf = T.szOf)
    (hnd : ob'.Nodup) (hob : ∀ b, b ∈ ob' → ¬ S' b ∧ A b ∧ ∀ s, s ≠ r → b ∉ obs s)
    (hSo : ∀ s, s ≠ r → ∀ b, b ∈ obs s → ¬ S' b)
    (hnd' : H'.Nodup) (hH : ∀ b, b ∈ H' → ¬ S' b ∧ A b ∧ b < w'.heap.size ∧ b ∉ ob' ∧ ∀ s, s ≠ r → b ∉ obs s) :
    Inv ids S' A N ρ fix w' tm (chg ρ r T' ++ E) (fun s => if s = r then ob' else if killedL ρ s r then [] else obs s) H' := by
  have hsub : ∀ s, s ≠ r → ∀ b, b ∈ (if s = r then ob' else if killedL ρ s r then [] else obs s) → b ∈ obs s := by
    intro s hs b hb
    simp only [hs, if_false] at hb
    split at hb
    · simp at hb
    · exact hb
  refine ⟨h.size, ?_, ?_, ?_, ?_, ?_, ?_, hnd', ?_, hst, fun b hb => h.fresh b (by omega)⟩
  · intro s
    by_cases hsr : s = r
    · subst hsr
      simp only [SlotOk, get_chg, if_true]; exact hrep
    · have h0 := h.slot s
      simp only [SlotOk, get_chg, hsr, if_false] at h0 ⊢
      by_cases hk : killedL ρ s r = true
      · simp [hk]
      · simp only [hk, Bool.false_eq_true, if_false]
        have hk' : killedL ρ s r = false := by simpa using hk
        split at h0
        · rename_i t ht
          exact rep_mono hS hw _ _ _ (fun b hb => hoth s hsr b hb) h0
        · rename_i r2 p ht
          refine ⟨h0.1, fun T2 n hT2 hp => ?_⟩
          by_cases hr2 : r2 = r
          · subst hr2
            have hpn := okRef_long (h.ref s r2 p (.inl ht)) hk'
            subst hpn
            have := h0.2 T T hT rfl
            simpa only [vAt] using this
          · simp only [hr2, if_false] at hT2
            split at hT2
            · exact absurd hT2 (by simp)
            · have hr := h.slot r2
              simp only [SlotOk, hT2] at hr
              rw [vAt_frame p T2 n _ _ hr (fun b hb => hoth r2 hr2 b hb) hp]
              exact h0.2 T2 n hT2 hp
        · rename_i r2 p i j ht
          refine ⟨h0.1, fun T2 n e hT2 hp he => ?_⟩
          by_cases hr2 : r2 = r
          · subst hr2
            have hpn := okRef_long (h.ref s r2 p (.inr ⟨i, j, ht⟩)) hk'
            subst hpn
            simp only [if_true, AV.tree.injEq] at hT2
            subst hT2
            simp only [Tree.tAt, Option.some.injEq] at hp
            subst hp
            obtain ⟨⟨e0, he0⟩, hs0⟩ := hadr i e he
            obtain ⟨vn, b, h1, h2, h3⟩ := h0.2 T T e0 hT rfl he0
            exact ⟨vn, b, by simpa only [vAt] using h1, h2, by rw [hs0]; exact h3⟩
          · simp only [hr2, if_false] at hT2
            split at hT2
            · exact absurd hT2 (by simp)
            · have hr := h.slot r2
              simp only [SlotOk, hT2] at hr
              rw [vAt_frame p T2 n _ _ hr (fun b hb => hoth r2 hr2 b hb) hp]
              exact h0.2 T2 n e hT2 hp he
        · rename_i f caps ht; simpa [ht] using h0
        · rename_i ht; simpa [ht] using h0
        · rename_i ht; simpa [ht] using h0
  · intro s r2 p hra
    by_cases hsr : s = r
    · subst hsr
      simp only [RefAt, get_chg, if_true] at hra
      rcases hra with hra | ⟨i, j, hra⟩ <;> cases hra
    · simp only [RefAt, get_chg, hsr, if_false] at hra
      split at hra
      · rcases hra with hra | ⟨i, j, hra⟩ <;> cases hra
      · exact h.ref s r2 p hra
  · intro s f caps hcl
    by_cases hsr : s = r
    · subst hsr; simp only [get_chg, if_true] at hcl; cases hcl
    · simp only [get_chg, hsr, if_false] at hcl
      split at hcl
      · cases hcl
      · exact h.clo s f caps hcl
  · intro s
    by_cases hsr : s = r
    · simpa [hsr] using hnd
    · simp only [hsr, if_false]; split
      · simp
      · exact h.nodup s
  · intro s s' hss b hb hb'
    by_cases hsr : s = r
    · have hsr' : s' ≠ r := fun e => hss (hsr.trans e.symm)
      simp only [hsr, if_true] at hb
      exact (hob b hb).2.2 s' hsr' (hsub s' hsr' b hb')
    · by_cases hsr' : s' = r
      · simp only [hsr', if_true] at hb'
        exact (hob b hb').2.2 s hsr (hsub s hsr b hb)
      · exact h.apart s s' hss b (hsub s hsr b hb) (hsub s' hsr' b hb')
  · intro s b hb
    by_cases hsr : s = r
    · simp only [hsr, if_true] at hb
      exact ⟨(hob b hb).1, (hob b hb).2.1, rep_lt _ _ _ hrep b hb⟩
    · have := hsub s hsr b hb
      obtain ⟨_, g2, g3⟩ := h.own s b this
      exact ⟨hSo s hsr b this, g2, by omega⟩
  · intro b hb
    obtain ⟨g1, g2, g3, g4, g5⟩ := hH b hb
    refine ⟨g1, g2, g3, fun s hbs => ?_⟩
    by_cases hsr : s = r
    · simp only [hsr, if_true] at hbs; exact g4 hbs
    · exact g5 s hsr (hsub s hsr b hbs)
end
end Go.Vs
/- Reading and taking operands: the interpreter's moves answer to the machine's. -/
namespace Go.Vs
open Go

/-- a constant of the model as a tree -/
def constOk : Value → Tree → Bool
  | .int k n, .int k' n' => k == k' && n == n'
  | .bool b, .bool b' => b == b'
  | .string s, .str l => s.data.toList == l
  | .slice none 0 0, .nil sz => decide (0 < sz)
  | .slice none 0 0, .sl _ sz [] => decide (0 < sz)
  | .pointer none, .nilp => true
  | _, _ => false

def constsOk : List Value → List Tree → Bool
  | [], [] => true
  | v :: vs, t :: ts => constOk v t && constsOk vs ts
  | _, _ => false

def zeroOk : Value → Tree → Bool
  | .agg vs, .agg ts => constsOk vs.toList ts
  | .agg _, _ => false
  | v, t => constOk v t

def OpdOk (ids : Nat → Nat) : Operand → Opd → Prop
  | .tmp s, .v s' => s = s'
  | .const v, .c t => constOk v t = true
  | .func f, .c t => t = .fn (ids f) []
  | _, _ => False

section
variable {ids : Nat → Nat} {S S' A : Nat → Prop} {N : Nat} {ρ : Roots} {fix : List Nat} {w w' : World} {tm : Array Value} {ds : List Deferred} {E : Env} {obs : Nat → List Nat} {H : List Nat}

theorem rep_const {v : Value} {t : Tree} (h : constOk v t = true) : Rep ids S w t v [] ∧ v.cells.size = t.cells.length ∧ v.oneCell' = true ∧ t.storable = true := by
  unfold constOk at h
  split at h
  · simp only [Bool.and_eq_true, beq_iff_eq] at h
    obtain ⟨rfl, rfl⟩ := h
    simp [Rep, Tree.cells, Value.cells, Value.oneCell', Tree.storable]
  · simp only [beq_iff_eq] at h; subst h
    simp [Rep, Tree.cells, Value.cells, Value.oneCell', Tree.storable]
  · simp only [beq_iff_eq] at h; subst h
    simp [Rep, Tree.cells, Value.cells, Value.oneCell', Tree.storable]
  · simp only [decide_eq_true_eq] at h
    refine ⟨?_, rfl, rfl, rfl⟩
    simp only [Rep]; exact ⟨⟨_, rfl⟩, trivial, h⟩
  · rename_i o sz
    simp only [decide_eq_true_eq] at h
    refine ⟨?_, rfl, rfl, rfl⟩
    cases o with
    | true => simp only [Rep]; exact .inl ⟨trivial, trivial, trivial, h⟩
    | false => simp only [Rep]; exact ⟨trivial, h, none, 0, rfl, Nat.le_refl _, .inl trivial⟩
  · simp [Rep, Tree.cells, Value.cells, Value.oneCell', Tree.storable]
  · cases h

theorem rep_consts : ∀ {vs : List Value} {ts : List Tree}, constsOk vs ts = true → RepL ids S w ts vs []
  | [], [], h => by simp [RepL]
  | v :: vs, t :: ts, h => by
    simp only [constsOk, Bool.and_eq_true] at h
    obtain ⟨g1, g2, _⟩ := rep_const (ids := ids) (S := S) (w := w) h.1
    have g3 := rep_consts h.2
    simp only [RepL]
    exact ⟨v, vs, [], [], rfl, g1, g3, rfl⟩
  | [], _ :: _, h => by simp [constsOk] at h
  | _ :: _, [], h => by simp [constsOk] at h

theorem consts_one : ∀ {vs : List Value} {ts : List Tree}, constsOk vs ts = true → ∀ u, u ∈ vs → u.oneCell' = true
  | [], [], h => by simp
  | v :: vs, t :: ts, h => by
    simp only [constsOk, Bool.and_eq_true] at h
    intro u hu
    rcases List.mem_cons.1 hu with rfl | hu
    · exact (rep_const (ids := fun x => x) (S := fun _ => True) (w := default) h.1).2.2.1
    · exact consts_one h.2 u hu
  | [], _ :: _, h => by simp [constsOk] at h
  | _ :: _, [], h => by simp [constsOk] at h

theorem rep_zero {v : Value} {t : Tree} (h : zeroOk v t = true) : Rep ids S w t v [] ∧ v.cells.size = t.cells.length := by
  unfold zeroOk at h
  split at h
  · rename_i vs ts
    have g1 := rep_consts (ids := ids) (S := S) (w := w) h
    refine ⟨by simp only [Rep]; exact ⟨vs, rfl, consts_one h, g1⟩, ?_⟩
    have := repL_length _ _ _ g1
    simpa [Value.cells, Tree.cells] using this
  · cases h
  · obtain ⟨g1, g2, _⟩ := rep_const (ids := ids) (S := S) (w := w) h
    exact ⟨g1, g2⟩

/-- where a slot's value lies -/
theorem Inv.place (h : Inv ids S A N ρ fix w tm E obs H) {o : Operand} {x : Opd} (ho : OpdOk ids o x) {r : Nat} {p : Path} (hp : Vs.place E x = some (r, p)) {T n : Tree}
    (hT : get E r = .tree T) (hn : T.tAt p = some n) : vAt w T (tm.getD r undef) p = some ((Act.mk tm ds).eval o) := by
  cases x with
  | c t => simp [Vs.place] at hp
  | v s =>
    cases o with
    | tmp s' =>
      simp only [OpdOk] at ho; subst ho
      have h0 := h.slot s'
      simp only [Vs.place] at hp
      split at hp
      · rename_i t ht
        simp only [Option.some.injEq, Prod.mk.injEq] at hp
        obtain ⟨rfl, rfl⟩ := hp
        rfl
      · rename_i r' p' ht
        simp only [Option.some.injEq, Prod.mk.injEq] at hp
        obtain ⟨rfl, rfl⟩ := hp
        simp only [SlotOk, ht] at h0
        exact h0.2 T n hT hn
      · cases hp
    | _ => simp [OpdOk] at ho

theorem treeAt_some {r : Nat} {p : Path} {t : Tree} (h : treeAt E r p = some t) : ∃ T, get E r = .tree T ∧ T.tAt p = some t := by
  unfold treeAt at h
  split at h
  · rename_i T hT; exact ⟨T, hT, h⟩
  · cases h

/-- a place's node: its value, its blocks among those of its root -/
theorem Inv.node (h : Inv ids S A N ρ fix w tm E obs H) {r : Nat} {p : Path} {T n : Tree} (hT : get E r = .tree T) (hn : T.tAt p = some n) :
    ∃ vn pre on post, vAt w T (tm.getD r undef) p = some vn ∧ obs r = pre ++ on ++ post ∧ Rep ids S w n vn on := by
  have h0 := h.slot r
  simp only [SlotOk, hT] at h0
  obtain ⟨vn, pre, on, post, h1, h2, h3, _⟩ := rep_at p T n _ _ h0 hn
  exact ⟨vn, pre, on, post, h1, h2, h3⟩

theorem Inv.peek (h : Inv ids S A N ρ fix w tm E obs H) {o : Operand} {x : Opd} (ho : OpdOk ids o x) {t : Tree} (hp : Vs.peek E x = some t) :
    ∃ ob, Rep ids S w t ((Act.mk tm ds).eval o) ob ∧ ∀ b, b ∈ ob → ∃ s, b ∈ obs s := by
  cases x with
  | c t' =>
    simp only [Vs.peek, Option.some.injEq] at hp; subst hp
    cases o with
    | const v => exact ⟨[], (rep_const ho).1, by simp⟩
    | func f =>
      simp only [OpdOk] at ho; subst ho
      exact ⟨[], by simp only [Rep, Act.eval]; exact ⟨f, #[], rfl, rfl, by simp [RepL]⟩, by simp⟩
    | _ => simp [OpdOk] at ho
  | v s =>
    cases o with
    | tmp s' =>
      simp only [OpdOk] at ho; subst ho
      have h0 := h.slot s'
      simp only [Vs.peek] at hp
      split at hp
      · rename_i t' ht
        simp only [Option.some.injEq] at hp; subst hp
        simp only [SlotOk, ht] at h0
        exact ⟨obs s', h0, fun b hb => ⟨s', hb⟩⟩
      · rename_i r p ht
        obtain ⟨T, hT, hn⟩ := treeAt_some hp
        simp only [SlotOk, ht] at h0
        have := h0.2 T t hT hn
        obtain ⟨vn, pre, on, post, h1, h2, h3⟩ := h.node hT hn
        rw [this] at h1
        simp only [Option.some.injEq] at h1
        refine ⟨on, ?_, fun b hb => ⟨r, by rw [h2]; simp [hb]⟩⟩
        simp only [Act.eval]; rw [h1]; exact h3
      · cases hp
    | _ => simp [OpdOk] at ho

theorem elem_shr (t : Tree) (i : Nat) : t.shr.elem i = none := by
  cases t <;> simp [Tree.shr, Tree.elem]

/-- setting cells keeps an owned node's shape -/
theorem setCells_elem {t t' : Tree} {i j : Nat} {new : List Tree} (h : t.setCells i j new = some t') :
    t'.szOf = t.szOf ∧ ∀ i' e', t'.elem i' = some e' → ∃ e, t.elem i' = some e := by
  unfold Tree.setCells at h
  split at h
  · rename_i sz es
    simp only [Option.bind_eq_some_iff] at h
    obtain ⟨e, he, h⟩ := h
    split at h
    · simp only [Option.some.injEq] at h; subst h
      refine ⟨rfl, fun i' e' he' => ?_⟩
      simp only [Tree.elem] at he' ⊢
      have hlt := (List.getElem?_eq_some_iff.1 he').1
      simp only [List.length_set] at hlt
      exact ⟨es[i'], List.getElem?_eq_getElem hlt⟩
    · cases h
  · split at h
    · simp only [Option.some.injEq] at h; subst h
      refine ⟨rfl, fun i' e' he' => ?_⟩
      simp only [Tree.elem] at he' ⊢
      split at he'
      · rename_i hi; exact ⟨_, if_pos hi⟩
      · cases he'
    · cases h
  · cases h

theorem upd_elem {p : Path} {t n t' : Tree} (h : t.upd p n = some t') (hn : p = [] → (∀ i, n.elem i = none) ∨ (n.szOf = t.szOf ∧ ∀ i e', n.elem i = some e' → ∃ e, t.elem i = some e)) :
    ∀ i e', t'.elem i = some e' → (∃ e, t.elem i = some e) ∧ t'.szOf = t.szOf := by
  intro i e' he'
  cases p with
  | nil =>
    simp only [Tree.upd, Option.some.injEq] at h; subst h
    rcases hn rfl with h0 | ⟨h1, h2⟩
    · rw [h0] at he'; cases he'
    · exact ⟨h2 i e' he', h1⟩
  | cons s p =>
    simp only [Tree.upd, Option.bind_eq_some_iff] at h
    obtain ⟨k, _, k', _, h⟩ := h
    obtain ⟨h1, h2⟩ := setCells_elem h
    exact ⟨h2 i e' he', h1⟩

/-- the tree at a place is laid anew, its value the same; what was there comes into the hand or is shared -/
theorem Inv.upd (h : Inv ids S A N ρ fix w tm E obs H) {r : Nat} {p : Path} {T n n' T' : Tree} (hT : get E r = .tree T) (hn : T.tAt p = some n)
    (hu : T.upd p n' = some T') :
    (n' = .dead → ∃ obs' ob vn, Inv ids S A N ρ fix w tm (Vs.chg ρ r T' ++ E) obs' (ob ++ H) ∧ vAt w T (tm.getD r undef) p = some vn ∧ Rep ids S w n vn ob) ∧
    (n' = n.shr → ∃ S' obs' vn, Inv ids S' A N ρ fix w tm (Vs.chg ρ r T' ++ E) obs' H ∧ vAt w T (tm.getD r undef) p = some vn ∧ Rep ids S' w n.shr vn [] ∧
      (∀ b, S b → S' b) ∧ (∀ b, S' b → S b ∨ A b) ∧ (∀ b, b ∈ H → ¬ S' b)) := by
  have h0 := h.slot r
  simp only [SlotOk, hT] at h0
  obtain ⟨vn, pre, on, post, h1, h2, h3, h4⟩ := rep_at p T n _ _ h0 hn
  have hnd := h.nodup r
  rw [h2] at hnd
  obtain ⟨hnd1, hnd2, hnd3⟩ := List.nodup_append.1 hnd
  obtain ⟨hnd4, hnd5, hnd6⟩ := List.nodup_append.1 hnd1
  have hpp : (pre ++ post).Nodup := List.nodup_append.2 ⟨hnd4, hnd2, fun a ha b hb => hnd3 a (by simp [ha]) b hb⟩
  have hsubr : ∀ b, b ∈ pre ++ post → b ∈ obs r := by intro b hb; rw [h2]; rcases List.mem_append.1 hb with hb | hb <;> simp [hb]
  have hon : ∀ b, b ∈ on → b ∈ obs r := by intro b hb; rw [h2]; simp [hb]
  have honpp : ∀ b, b ∈ on → b ∉ pre ++ post := by
    intro b hb hb'
    rcases List.mem_append.1 hb' with hb' | hb'
    · exact hnd6 b hb' b hb rfl
    · exact hnd3 b (by simp [hb]) b hb' rfl
  constructor
  · rintro rfl
    obtain ⟨t', ht', hrep⟩ := h4 S w .dead [] (fun _ h => h) (fun _ _ => rfl) (fun _ _ => rfl) (fun _ _ => rfl) (by simp [Rep])
    rw [hu] at ht'; simp only [Option.some.injEq] at ht'; subst ht'
    simp only [List.append_nil] at hrep
    refine ⟨_, on, vn, Inv.chg h hT (fun _ h => h) h.st (Nat.le_refl _) (fun _ _ => rfl) (fun _ _ _ _ => rfl) hrep (upd_elem hu fun _ => .inl (by intro i; simp [Tree.elem])) hpp ?_ ?_ ?_ ?_, h1, h3⟩
    · intro b hb
      obtain ⟨g1, g2, _⟩ := h.own r b (hsubr b hb)
      exact ⟨g1, g2, fun s hs hb' => h.apart s r hs b hb' (hsubr b hb)⟩
    · exact fun s _ b hb => (h.own s b hb).1
    · exact List.nodup_append.2 ⟨hnd5, h.hnd, fun a ha b hb e => (h.hap b hb).2.2.2 r (e ▸ hon a ha)⟩
    · intro b hb
      rcases List.mem_append.1 hb with hb | hb
      · obtain ⟨g1, g2, g3⟩ := h.own r b (hon b hb)
        exact ⟨g1, g2, g3, honpp b hb, fun s hs hb' => h.apart s r hs b hb' (hon b hb)⟩
      · obtain ⟨g1, g2, g3, g4⟩ := h.hap b hb
        exact ⟨g1, g2, g3, fun hb' => g4 r (hsubr b hb'), fun s _ => g4 s⟩
  · rintro rfl
    have hsh : Rep ids (fun b => S b ∨ b ∈ on) w n.shr vn [] := rep_shr (fun b h => .inl h) n vn on (fun b h => .inr h) h3
    obtain ⟨t', ht', hrep⟩ := h4 (fun b => S b ∨ b ∈ on) w n.shr [] (fun _ h => .inl h) (fun _ _ => rfl) (fun _ _ => rfl) (fun _ _ => rfl) hsh
    rw [hu] at ht'; simp only [Option.some.injEq] at ht'; subst ht'
    simp only [List.append_nil] at hrep
    refine ⟨fun b => S b ∨ b ∈ on, _, vn, Inv.chg h hT (fun _ h => .inl h) ?_ (Nat.le_refl _) (fun _ _ => rfl) (fun _ _ _ _ => rfl) hrep (upd_elem hu fun _ => .inl (elem_shr n)) hpp ?_ ?_ h.hnd ?_, h1, hsh, fun b h => .inl h, ?_, ?_⟩
    · rintro b (hb | hb)
      · exact h.st b hb
      · exact (h.own r b (hon b hb)).2.2
    · intro b hb
      obtain ⟨g1, g2, _⟩ := h.own r b (hsubr b hb)
      exact ⟨fun hs => hs.elim g1 (fun hx => honpp b hx hb), g2, fun s hs hb' => h.apart s r hs b hb' (hsubr b hb)⟩
    · intro s hs b hb hsb
      exact hsb.elim (h.own s b hb).1 (fun hx => h.apart s r hs b hb (hon b hx))
    · intro b hb
      obtain ⟨g1, g2, g3, g4⟩ := h.hap b hb
      exact ⟨fun hs => hs.elim g1 (fun hx => g4 r (hon b hx)), g2, g3, fun hb' => g4 r (hsubr b hb'), fun s _ => g4 s⟩
    · rintro b (hb | hb)
      · exact .inl hb
      · exact .inr (h.own r b (hon b hb)).2.1
    · intro b hb hs
      obtain ⟨g1, g2, g3, g4⟩ := h.hap b hb
      exact hs.elim g1 (fun hx => g4 r (hon b hx))

theorem Inv.freezeRoot {r : Nat} {T : Tree} (h : Inv ids S A N ρ fix w tm E obs H) (hT : get E r = .tree T) :
    Inv ids (fun b => S b ∨ b ∈ obs r) A N ρ fix w tm (Vs.chg ρ r T.shr ++ E) (fun s => if s = r then [] else if killedL ρ s r then [] else obs s) H := by
  have h0 := h.slot r
  simp only [SlotOk, hT] at h0
  refine Inv.chg h hT (fun _ h => .inl h) ?_ (Nat.le_refl _) (fun _ _ => rfl) (fun _ _ _ _ => rfl) (rep_shr (fun b h => .inl h) T _ (obs r) (fun b h => .inr h) h0)
    (fun i e' he' => by rw [elem_shr] at he'; cases he') (by simp) (by simp) ?_ h.hnd ?_
  · rintro b (hb | hb)
    · exact h.st b hb
    · exact (h.own r b hb).2.2
  · intro s hs b hb hsb
    exact hsb.elim (h.own s b hb).1 (fun hx => h.apart s r hs b hb hx)
  · intro b hb
    obtain ⟨g1, g2, g3, g4⟩ := h.hap b hb
    exact ⟨fun hs => hs.elim g1 (fun hx => g4 r hx), g2, g3, by simp, fun s _ => g4 s⟩

/-- an operand's value, taken -/
theorem Inv.take (h : Inv ids S A N ρ fix w tm E obs H) {o : Operand} {x : Opd} (ho : OpdOk ids o x) {m : Md} {t : Tree} {ws : Env} (hp : Vs.take ρ E m x = some (t, ws)) :
    ∃ S' obs' ob, Inv ids S' A N ρ fix w tm (ws ++ E) obs' (ob ++ H) ∧ Rep ids S' w t ((Act.mk tm ds).eval o) ob ∧
      (∀ b, S b → S' b) ∧ (∀ b, S' b → S b ∨ A b) ∧ (∀ b, b ∈ H → ¬ S' b) := by
  cases x with
  | c t' =>
    simp only [Vs.take] at hp
    simp only [Option.some.injEq, Prod.mk.injEq] at hp
    obtain ⟨rfl, rfl⟩ := hp
    have hr : Rep ids S w t' ((Act.mk tm ds).eval o) [] := by
      cases o with
      | const v => exact (rep_const ho).1
      | func f => simp only [OpdOk] at ho; subst ho; simp only [Rep, Act.eval]; exact ⟨f, #[], rfl, rfl, by simp [RepL]⟩
      | _ => simp [OpdOk] at ho
    exact ⟨S, obs, [], by simpa using h, hr, fun _ h => h, fun _ h => .inl h, fun b hb => (h.hap b hb).1⟩
  | v s =>
    cases o with
    | tmp s' =>
      simp only [OpdOk] at ho; subst ho
      have h0 := h.slot s'
      simp only [Vs.take] at hp
      split at hp
      · rename_i t' ht
        simp only [SlotOk, ht] at h0
        split at hp
        · simp only [Option.some.injEq, Prod.mk.injEq] at hp
          obtain ⟨rfl, rfl⟩ := hp
          have hob := rep_plain _ _ _ ‹_› h0
          rw [hob] at h0
          exact ⟨S, obs, [], by simpa using h, h0, fun _ h => h, fun _ h => .inl h, fun b hb => (h.hap b hb).1⟩
        · cases m with
          | copy => cases hp
          | move =>
            simp only [Option.some.injEq, Prod.mk.injEq] at hp
            obtain ⟨rfl, rfl⟩ := hp
            exact ⟨S, _, obs s', h.unset, h0, fun _ h => h, fun _ h => .inl h, fun b hb => (h.hap b hb).1⟩
          | freeze =>
            simp only [Option.some.injEq, Prod.mk.injEq] at hp
            obtain ⟨rfl, rfl⟩ := hp
            exact ⟨fun b => S b ∨ b ∈ obs s', _, [], by simpa using h.freezeRoot ht, rep_shr (fun b h => .inl h) _ _ (obs s') (fun b h => .inr h) h0, fun _ h => .inl h,
              fun b hb => hb.elim .inl (fun hb => .inr (h.own s' b hb).2.1), fun b hb hS => hS.elim (h.hap b hb).1 (fun hx => (h.hap b hb).2.2.2 s' hx)⟩
      · rename_i r p ht
        simp only [SlotOk, ht] at h0
        split at hp
        · rename_i T hT
          simp only [Option.bind_eq_some_iff] at hp
          obtain ⟨n, hn, hp⟩ := hp
          have hv := h0.2 T n hT hn
          cases m with
          | move =>
            simp only [Option.bind_eq_some_iff, Option.some.injEq, Prod.mk.injEq] at hp
            obtain ⟨T', hu, rfl, rfl⟩ := hp
            obtain ⟨obs', ob, vn, g1, g2, g3⟩ := (h.upd hT hn hu).1 rfl
            rw [hv] at g2; simp only [Option.some.injEq] at g2; subst g2
            exact ⟨S, obs', ob, g1, g3, fun _ h => h, fun _ h => .inl h, fun b hb => (h.hap b hb).1⟩
          | freeze =>
            simp only [Option.bind_eq_some_iff, Option.some.injEq, Prod.mk.injEq] at hp
            obtain ⟨T', hu, rfl, rfl⟩ := hp
            obtain ⟨S', obs', vn, g1, g2, g3, g4, g5, g6⟩ := (h.upd hT hn hu).2 rfl
            rw [hv] at g2; simp only [Option.some.injEq] at g2; subst g2
            exact ⟨S', obs', [], g1, g3, g4, g5, g6⟩
          | copy =>
            simp only at hp
            split at hp
            · rename_i hpl
              simp only [Option.some.injEq, Prod.mk.injEq] at hp
              obtain ⟨rfl, rfl⟩ := hp
              obtain ⟨vn, pre, on, post, g1, g2, g3⟩ := h.node hT hn
              rw [hv] at g1; simp only [Option.some.injEq] at g1; subst g1
              have hob := rep_plain _ _ _ hpl g3
              subst hob
              exact ⟨S, obs, [], by simpa using h, g3, fun _ h => h, fun _ h => .inl h, fun b hb => (h.hap b hb).1⟩
            · cases hp
        · cases hp
      · cases hp
    | _ => simp [OpdOk] at ho

end
end Go.Vs
/- The check that an operation of the small language is one of the model's. -/
namespace Go.Vs
open Go

def opdOk (ids : Nat → Nat) : Operand → Opd → Bool
  | .tmp s, .v s' => s == s'
  | .const v, .c t => constOk v t
  | .func f, .c (.fn g []) => ids f == g
  | _, _ => false

theorem opdOk_sound {ids : Nat → Nat} {o : Operand} {x : Opd} (h : opdOk ids o x = true) : OpdOk ids o x := by
  unfold opdOk at h
  split at h
  · simpa [OpdOk] using h
  · exact h
  · simp only [OpdOk]; simp at h; rw [h]
  · cases h

def szOk (P : Program) (t : TypeId) (sz : Nat) : Bool :=
  match P.info? t with
  | some i => i.size == sz && decide (0 < sz)
  | none => false

/-- a type of one cell, or of several -/
def aggOk (P : Program) (t : TypeId) (agg : Bool) (sz : Nat) : Bool :=
  szOk P t sz && match P.underlying t with
  | some (.struct _) => agg
  | some (.array _ _) => agg
  | some _ => !agg && sz == 1
  | none => false

def zeroIs (P : Program) (t : TypeId) (z : Tree) : Bool :=
  match P.info? t with
  | some i => match i.zero with
    | some v => zeroOk v z
    | none => false
  | none => false

def partsOk (P : Program) (ids : Nat → Nat) (fs : Array Field) : List (Nat × Operand) → List (Nat × Nat × Opd × Md) → Bool
  | [], [] => true
  | (i, x) :: ps, (off, sz, y, _) :: qs => (match fs[i]? with
      | some f => f.offset == off && szOk P f.type sz
      | none => false) && opdOk ids x y && partsOk P ids fs ps qs
  | _, _ => false

def elemsOk (ids : Nat → Nat) : List (Nat × Operand) → List (Nat × Opd × Md) → Bool
  | [], [] => true
  | (i, x) :: ps, (j, y, _) :: qs => i == j && opdOk ids x y && elemsOk ids ps qs
  | _, _ => false

def opdsOk (ids : Nat → Nat) : List Operand → List Opd → Bool
  | [], [] => true
  | x :: xs, y :: ys => opdOk ids x y && opdsOk ids xs ys
  | _, _ => false

def opdOk? (ids : Nat → Nat) : Option Operand → Option Opd → Bool
  | none, none => true
  | some x, some y => opdOk ids x y
  | _, _ => false

/-- what is compared at a type -/
def eqTy (P : Program) (t : TypeId) (k : EqK) : Bool :=
  match P.underlying t, k with
  | some .bool, .b => true
  | some (.int _), .i => true
  | some .string, .s => true
  | _, _ => false

def eqFieldsOk (P : Program) : Nat → List Field → List EqK → Bool
  | _, [], [] => true
  | off, f :: fs, k :: ks => f.offset == off && f.name != "_" && eqTy P f.type k && eqFieldsOk P (off + 1) fs ks
  | _, _, _ => false

def eqOk (P : Program) (t : TypeId) (ks : List EqK) : Bool :=
  match P.underlying t with
  | some (.struct fs) => !P.stoodInHeld t && !P.eqGuardType P.depth t && eqFieldsOk P 0 fs.toList ks
  | _ => false

def isBool (P : Program) (t : TypeId) : Bool :=
  match P.underlying t with
  | some .bool => true
  | _ => false

def isTmp : Operand → Nat → Bool
  | .tmp s, c => s == c
  | _, _ => false

def capsOk : List Operand → List Nat → Bool
  | [], [] => true
  | x :: xs, c :: cs => isTmp x c && capsOk xs cs
  | _, _ => false

/-- a slice type's element: its cells, bytes and zero value -/
def elemIs (P : Program) (t : TypeId) (sz : Nat) (z : Option Tree) : Bool :=
  match P.underlying t with
  | some (.slice e) => szOk P e sz && (match P.info? e with
      | some i => decide (i.bytes ≤ 1024)
      | none => false) && (match z with
      | some z => zeroIs P e z && z.cells.length == sz
      | none => (match P.info? e with
        | some i => (match i.zero with
          | some v => v.cells.size == sz
          | none => false)
        | none => false)) && (match P.underlying e with
      | some (.struct _) => true
      | some (.array _ _) => true
      | some _ => sz == 1
      | none => false)
  | _ => false

def isByteSlice (P : Program) (t : TypeId) : Bool :=
  match P.underlying t with
  | some (.slice e) => (match P.underlying e with
    | some (.int .u8) => szOk P e 1
    | _ => false)
  | _ => false

def isString (P : Program) (t : TypeId) : Bool :=
  match P.underlying t with
  | some .string => true
  | _ => false

def isSlice (P : Program) (t : TypeId) : Bool :=
  match P.underlying t with
  | some (.slice e) => (match P.info? e with
    | some i => decide (0 < i.size)
    | none => false)
  | _ => false

def sliceOf (P : Program) (t : TypeId) (sz : Nat) : Bool :=
  match P.underlying t with
  | some (.slice e) => szOk P e sz
  | _ => false

def zeroConst : Operand → Bool
  | .const (.int _ 0) => true
  | _ => false

def callable (P : Program) (f : FuncId) : Bool :=
  match P.funcs[f]? with
  | some fn => fn.body.isSome && !(fn.name == "runtime.NumGoroutine")
  | none => false

def argsOk (ids : Nat → Nat) : List Operand → List (Opd × Bool) → Bool
  | [], [] => true
  | x :: xs, (y, _) :: ys => opdOk ids x y && argsOk ids xs ys
  | _, _ => false

def okCall (P : Program) (ids : Nat → Nat) (c : Call) (dst : Option Nat) : Ins → Bool
  | .len d str x => (match c.callee, c.args.toList, c.argTypes.toList with
      | .builtin .len, [y], [t] => dst == some d && opdOk ids y x && (if str then isString P t else isSlice P t)
      | _, _, _ => false)
  | .app d sz s x _ => (match c.callee, c.args.toList, c.argTypes.toList with
      | .builtin .append, [y, z], [t, u] => dst == some d && opdOk ids y s && opdOk ids z x && elemIs P t sz none && ((isString P u && isByteSlice P t) || elemIs P u sz none)
      | _, _, _ => false)
  | .mm d mx x xs => (match c.callee, c.args.toList with
      | .builtin .max, y :: ys => dst == some d && mx && opdOk ids y x && opdsOk ids ys xs
      | .builtin .min, y :: ys => dst == some d && !mx && opdOk ids y x && opdsOk ids ys xs
      | _, _ => false)
  | .call d f _ args => (match c.callee with
      | .value (.func g) => dst == d && ids g == f && callable P g && argsOk ids c.args.toList args
      | _ => false)
  | .callv d f args => (match c.callee with
      | .value x => dst == d && opdOk ids x f && opdsOk ids c.args.toList args
      | _ => false)
  | _ => false

/-- the model's operation o is i -/
def okIns (P : Program) (ids : Nat → Nat) (o : Oper) (i : Ins) : Bool :=
  match o.op, i with
  | .move x, .mv d y => o.dst == some d && opdOk ids x y
  | .move x, .asg d y _ => o.dst == some d && opdOk ids x y
  | .assign x, .asg d y _ => o.dst == some d && opdOk ids x y
  | .assign x, .mv d y => o.dst == some d && opdOk ids x y
  | .nilCheck x, .nchk d y => o.dst == some d && opdOk ids x y
  | .pick c a b, .pick d c' a' b' => o.dst == some d && opdOk ids c c' && opdOk ids a a' && opdOk ids b b'
  | .alloc e, .new d z => o.dst == some d && zeroIs P e z
  | .box _ x, .box d y _ => o.dst == some d && opdOk ids x y
  | .build t ps, .build d z qs => o.dst == some d && zeroIs P t (.agg z) && (match P.underlying t with
      | some (.struct fs) => fs.all (fun f => (P.info? f.type).isSome) && partsOk P ids fs ps.toList qs
      | _ => false)
  | .buildSlice t n ps, .mksl d sz z n' qs => o.dst == some d && n == n' && decide (n * sz ≤ 16777216) && elemIs P t sz (some z) && elemsOk ids ps.toList qs
  | .load t a, .load d agg sz a' _ => o.dst == some d && opdOk ids a a' && aggOk P t agg sz
  | .store t a x, .store sz a' x' _ => o.dst == none && opdOk ids a a' && opdOk ids x x' && szOk P t sz
  | .binOp op _ x y _, .bin d op' x' y' => o.dst == some d && op == op' && opdOk ids x x' && opdOk ids y y'
  | .binOp op t x y _, .eqb d neg x' y' => o.dst == some d && (op == (if neg then .neq else .eql)) && opdOk ids x x' && opdOk ids y y' && isBool P t
  | .binOp op t x y _, .eqv d neg ks x' y' => o.dst == some d && (op == (if neg then .neq else .eql)) && opdOk ids x x' && opdOk ids y y' && eqOk P t ks
  | .unOp op _ x, .un d op' x' => o.dst == some d && op == op' && opdOk ids x x'
  | .convert s t x, .conv d k x' => o.dst == some d && opdOk ids x x' && (P.underlying s).isSome && (match P.underlying t with | some (.int k') => k == k' | _ => false)
  | .convert s t x, .s2b d x' => o.dst == some d && opdOk ids x x' && isString P s && isByteSlice P t
  | .convert s t x, .b2s d x' => o.dst == some d && opdOk ids x x' && isByteSlice P s && isString P t
  | .makeSlice t l c, .make d sz z n => o.dst == some d && opdOk ids l n && opdOk ids c n && elemIs P t sz (some z)
  | .slice t x lo hi none, .slc d str sz x' lo' hi' _ => o.dst == some d && opdOk ids x x' && opdOk? ids lo lo' && opdOk? ids hi hi' && (if str then isString P t else sliceOf P t sz)
  | .slice t x none (some h) (some m), .slc0 d x' => o.dst == some d && opdOk ids x x' && zeroConst h && zeroConst m && isSlice P t
  | .fieldAddr t x f, .fadr d off sz x' => o.dst == some d && opdOk ids x x' && (match P.underlying t with
      | some (.struct fs) => (match fs[f]? with
        | some g => g.offset == off && szOk P g.type sz
        | none => false)
      | _ => false)
  | .field t x f, .fld d agg off sz x' => o.dst == some d && opdOk ids x x' && (match P.underlying t with
      | some (.struct fs) => (match fs[f]? with
        | some g => g.offset == off && aggOk P g.type agg sz
        | none => false)
      | _ => false)
  | .indexAddr t x i, .iadr d sz x' i' => o.dst == some d && opdOk ids x x' && opdOk ids i i' && (match P.underlying t with
      | some (.slice e) => szOk P e sz
      | _ => false)
  | .index t x i, .idx d x' i' => o.dst == some d && opdOk ids x x' && opdOk ids i i' && isString P t
  | .extract x i, .ext d x' i' => o.dst == some d && opdOk ids x x' && i == i'
  | .extract x i, .extp d x' i' => o.dst == some d && opdOk ids x x' && i == i'
  | .makeFunc (.func f) first caps, .mkfn d g cs => o.dst == some d && first.isEmpty && ids f == g && callable P f && capsOk caps.toList cs
  | .call c, i => okCall P ids c o.dst i
  | _, _ => false

end Go.Vs
