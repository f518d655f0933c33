/-
  A part of the proof: Tab, Def, Rel, Cut, Heap, Ty, Ops, Ops2, Ops3, Ops4, Ops5, Ops6, Ops7, Ops8, Ops9, Ops10, Ops11.
-/
import GoSem.Dispatch
import GoSem.PinnedTables
import Derived.Laws.CopyRow
import Derived.Laws.AppendOwn
import Derived.Below
import Derived.Calls
import Derived.ChangeKeysEq
import Derived.Laws.Build
import Derived.MapKept
import Derived.Laws.StructEq
import Derived.Lib.ConvBytes
set_option linter.all false
/- The tables that the program's package-level variables hold. -/
namespace AM
open Go

def num (k : IntKind) (l : List Int) : List Value := l.map fun n => .int k n

/-- internal/strconv.uint64pow10 -/
def tab0 : List Value := num .u64 [1, 10, 100, 1000, 10000, 100000, 1000000, 10000000, 100000000, 1000000000, 10000000000, 100000000000, 1000000000000, 10000000000000, 100000000000000, 1000000000000000, 10000000000000000, 100000000000000000, 1000000000000000000, 10000000000000000000]
/-- math/bits.deBruijn32tab -/
def tab4 : List Value := num .u8 [0, 1, 28, 2, 29, 14, 24, 3, 30, 22, 20, 15, 25, 17, 4, 8, 31, 27, 13, 23, 21, 19, 16, 7, 26, 12, 18, 6, 11, 5, 10, 9]
/-- math/bits.deBruijn64tab -/
def tab5 : List Value := num .u8 [0, 1, 56, 2, 57, 49, 28, 3, 61, 58, 42, 50, 38, 29, 17, 4, 62, 47, 59, 36, 45, 43, 51, 22, 53, 39, 33, 30, 24, 18, 12, 5, 63, 55, 48, 27, 60, 41, 37, 16, 46, 35, 44, 21, 52, 32, 23, 11, 54, 26, 40, 15, 34, 20, 31, 10, 25, 14, 19, 9, 13, 8, 7, 6]
/-- unicode/utf8.acceptRanges -/
def tab7 : List Value := num .u8 [128, 191, 160, 191, 128, 159, 144, 191, 128, 143, 0, 0, 0, 0, 0, 0, 0, 0, 0, 0, 0, 0, 0, 0, 0, 0, 0, 0, 0, 0, 0, 0]
/-- unicode/utf8.first -/
def tab6 : List Value := num .u8 (Go.Pinned.utf8FirstZ.map Int.ofNat)

/-- what a package-level variable holds; none: not known -/
def tabG : Nat → List Value
  | 0 => tab0
  | 4 => tab4
  | 5 => tab5
  | 7 => tab7
  | 6 => tab6
  | _ => []

def table (g k : Nat) : Option Value := (tabG g)[k]?

end AM

/- THE ABSTRACT MACHINE, DEFINED: a deterministic evaluator of the program's own code (Go.Code) over values in which a slice that is not written to is a list. What it computes is later shown to be what the model computes; nothing here is trusted. -/
namespace AM
open Go

/-- whether a slice can be appended to: no; its capacity is its length; its end is the token's end -/
inductive Tok where
  | none | exact | at (r : Nat)
  deriving DecidableEq, Repr, Inhabited

inductive AV where
  | undef                                            -- anything
  | bool (b : Bool)
  | int (k : IntKind) (n : Int)
  | str (s : List UInt8)
  | nilptr
  | ptr (r off : Nat)                                -- into the heap
  | vptr (cells : List AV) (off : Nat)               -- into memory that stays as it is
  | slice (xs : List AV) (esz : Nat) (t : Tok)       -- elements that stay as they are
  | mslice (r off len cap esz : Nat) (agg : Bool)    -- cells of the heap
  | nilmap
  | map (r : Nat)
  | nilfunc
  | func (fn : Fn) (first cap : List AV)
  | agg (cells : List AV)
  | tuple (vs : List AV)
  | niliface
  | iface
  deriving Inhabited

def AV.cells : AV → List AV
  | .agg cs => cs
  | v => [v]

/-- what can stand in one cell, and is known -/
def AV.one : AV → Bool
  | .agg _ | .tuple _ | .undef => false
  | _ => true

/-- plain kinds -/
inductive PK where
  | bool | int | str
  deriving DecidableEq, Inhabited

/-- keys of maps: plain, or structs of plain fields -/
inductive Keys where
  | one (p : PK)
  | fields (ps : List PK)
  deriving Inhabited

/-- what the machine needs to know of a type -/
inductive TD where
  | bool
  | int (k : IntKind)
  | str
  | ptr | func | iface
  | slice (esz : Nat) (agg : Bool) (ebytes : Nat) (z : List AV)
  | map (keys : Keys) (vagg : Bool) (z : List AV)      -- the elements' zero value
  | struct (cmp : Option (List PK)) (size : Nat) (fields : List (Nat × Nat × Bool)) (zero : List AV)   -- its fields' kinds, if all are plain · offset, size, is it an aggregate
  | array (n esz : Nat) (agg : Bool) (zero : List AV)
  deriving Inhabited

def TD.size : TD → Nat
  | .struct _ n _ _ => n
  | .array n s _ _ => n * s
  | _ => 1
def TD.isAgg : TD → Bool
  | .struct .. | .array .. => true
  | _ => false
def TD.zero : TD → List AV
  | .bool => [.bool false]
  | .int k => [.int k 0]
  | .str => [.str []]
  | .ptr => [.nilptr]
  | .func => [.nilfunc]
  | .iface => [.niliface]
  | .slice .. => [.slice [] 0 .exact]
  | .map .. => [.nilmap]
  | .struct _ _ _ z => z
  | .array _ _ _ z => z

inductive Obj where
  | cells (cs : List AV)
  | tok (xs : List AV) (esz : Nat)    -- a slice that grows: what it holds
  | map (es : List (AV × AV))
  | dead
  deriving Inhabited

/-- how a function is called: with its own heap; on the caller's, what it makes goes; on the caller's -/
inductive Mode where
  | pure | loc | raw
  deriving DecidableEq, Inhabited

structure Info where
  mode : Mode
  own : Bool                          -- nil slices begin with a token
  cut : Bool                          -- what a round makes goes
  grow : List Nat                     -- but in these loops
  keep : List (Nat × List Nat)        -- the temporaries that a loop keeps
  pairs : List (Nat × List (Nat × Nat)) -- the pairs of operations of a region that draws which must not meet

inductive FnE where
  | go (i : Info) (fn : Func)
  | prim (p : List AV → Option AV)

/-- What is computed with data: kept apart, so that a proof can leave it unopened. -/
structure Ar where
  int : BinOp → IntKind → Int → Int → Int          -- arithmetic
  lt : Int → Int → Bool
  le : Int → Int → Bool
  eq : Int → Int → Bool
  conv : IntKind → Int → Int
  shl : IntKind → Int → Int → Int
  shr : IntKind → Int → Int → Int
  band : Bool → Bool → Bool
  bnot : Bool → Bool
  beq : Bool → Bool → Bool
  seq : List UInt8 → List UInt8 → Bool             -- texts
  slt : List UInt8 → List UInt8 → Bool
  cat : List UInt8 → List UInt8 → List UInt8
  sroom : List UInt8 → List UInt8 → Bool
  slen : List UInt8 → Int
  sget : List UInt8 → Int → Option Int
  ssub : List UInt8 → Option Int → Option Int → Option (List UInt8)
  bytes : List UInt8 → List AV
  ofBytes : List AV → Option (List UInt8)
  ofRune : Int → List UInt8
  len : List AV → Int                              -- lists
  get : List AV → Int → Option AV
  sub : List AV → Option Int → Option Int → Option (List AV)
  app : List AV → List AV → List AV
  room : List AV → List AV → Bool
  idx : Int → Nat → Option Nat                     -- from 0 up to below n
  bnd : Int → Nat → Option Nat                     -- from 0 to n
  hi : Option Int → Nat → Nat → Option Nat         -- the bounds of a part
  lo : Option Int → Nat → Option Nat
  find : Keys → AV → List (AV × AV) → Option (Option (Nat × AV))
  num : Nat → Int

structure Env where
  ar : Ar
  td : Nat → Option TD
  fn : Nat → Option FnE
  iter : Nat → List AV → List Obj → Option (List (List AV))     -- a function that is ranged over: what it still yields, the last first
  post : Nat → List AV → List AV → List Obj → Option (List Obj) -- what it does behind a round
  fin : Nat → List AV → List Obj → Bool                         -- is it at its end?

structure St where
  tmps : List AV
  heap : List Obj

inductive Ex where
  | normal | exit (id : Nat) | ret

def ofConst1 : Value → AV
  | .bool b => .bool b
  | .int k n => .int k n
  | .string s => .str s.data.toList
  | .pointer none => .nilptr
  | .slice none 0 0 => .slice [] 0 .exact
  | .map none => .nilmap
  | .nilFunc => .nilfunc
  | .nilIface => .niliface
  | _ => .undef

def ofConst : Value → AV
  | .agg cs => .agg (cs.toList.map ofConst1)
  | v => ofConst1 v

def opnd (tmps : List AV) : Operand → AV
  | .tmp t => tmps.getD t .undef
  | .const v => ofConst v
  | .global g => match tabG g with
    | [] => .undef
    | vs => .vptr (vs.map ofConst1) 0
  | .func f => .func (.func f) [] []

/-- equality of plain one-cell values; none: not decided here -/
def eq1 (A : Ar) (p : PK) (a b : AV) : Option Bool :=
  match p, a, b with
  | .bool, .bool a, .bool b => some (A.beq a b)
  | .int, .int k a, .int k' b => if k = k' then some (A.eq a b) else none
  | .str, .str a, .str b => some (A.seq a b)
  | _, _, _ => none

def eqs (A : Ar) : List PK → List AV → List AV → Option Bool
  | [], [], [] => some true
  | p :: ps, a :: as, b :: bs => match eq1 A p a b, eqs A ps as bs with
    | some x, some y => some (A.band x y)
    | _, _ => none
  | _, _, _ => none

/-- '==' at a type -/
def eqv (A : Ar) (d : TD) (a b : AV) : Option Bool :=
  match d with
  | .bool => eq1 A .bool a b
  | .int _ => eq1 A .int a b
  | .str => eq1 A .str a b
  | .struct (some ps) .. => match a, b with
    | .agg as, .agg bs => eqs A ps as bs
    | _, _ => none
  | .ptr => match a, b with
    | .nilptr, .nilptr => some true
    | .nilptr, .ptr .. | .ptr .., .nilptr | .nilptr, .vptr .. | .vptr .., .nilptr => some false
    | _, _ => none
  | .iface => match a, b with
    | .niliface, .iface | .iface, .niliface => some false
    | _, _ => none
  | .func => match a, b with
    | .nilfunc, .nilfunc => some true
    | .nilfunc, .func .. | .func .., .nilfunc => some false
    | _, _ => none
  | _ => none

def nonzero : Int → Bool
  | .ofNat 0 => false
  | _ => true

def binInt (A : Ar) (op : BinOp) (k : IntKind) (a b : Int) : Option AV :=
  match op with
  | .quo | .rem => if A.eq b 0 then none else some (.int k (A.int op k a b))
  | .add | .sub | .mul | .and | .or | .xor | .andNot => some (.int k (A.int op k a b))
  | .eql => some (.bool (A.eq a b))
  | .neq => some (.bool (A.bnot (A.eq a b)))
  | .lss => some (.bool (A.lt a b))
  | .leq => some (.bool (A.le a b))
  | .gtr => some (.bool (A.lt b a))
  | .geq => some (.bool (A.le b a))
  | _ => none

def binStr (A : Ar) (op : BinOp) (a b : List UInt8) : Option AV :=
  match op with
  | .add => if A.sroom a b then some (.str (A.cat a b)) else none
  | .eql => some (.bool (A.seq a b))
  | .neq => some (.bool (A.bnot (A.seq a b)))
  | .lss => some (.bool (A.slt a b))
  | .gtr => some (.bool (A.slt b a))
  | .leq => some (.bool (A.bnot (A.slt b a)))
  | .geq => some (.bool (A.bnot (A.slt a b)))
  | _ => none

def bin (A : Ar) (d : TD) (op : BinOp) (x y : AV) : Option AV :=
  match x, y with
  | .int k a, .int k' b => match op with
    | .shl => if A.lt b 0 then none else some (.int k (A.shl k a b))
    | .shr => if A.lt b 0 then none else some (.int k (A.shr k a b))
    | op => if k = k' then binInt A op k a b else none
  | .str a, .str b => binStr A op a b
  | x, y => match op with
    | .eql => (eqv A d x y).map .bool
    | .neq => (eqv A d x y).map fun b => .bool (A.bnot b)
    | _ => none

def un (A : Ar) (op : UnOp) (x : AV) : Option AV :=
  match op, x with
  | .neg, .int k n => some (.int k (A.int .sub k 0 n))
  | .not, .bool b => some (.bool (A.bnot b))
  | _, _ => none

/-- a variable's value out of its cells -/
def ofCells (agg : Bool) (cs : List AV) : Option AV :=
  if agg then some (.agg cs) else match cs with
    | [v] => some v
    | _ => none

def window (cs : List AV) (off n : Nat) : Option (List AV) :=
  if off + n ≤ cs.length then some ((cs.drop off).take n) else none

def put (cs : List AV) (off : Nat) (vs : List AV) : Option (List AV) :=
  if off + vs.length ≤ cs.length then some (cs.take off ++ (vs ++ cs.drop (off + vs.length))) else none

def load (d : TD) (a : AV) (h : List Obj) : Option AV :=
  match a with
  | .ptr r o => match h[r]? with
    | some (.cells cs) => (window cs o d.size).bind (ofCells d.isAgg)
    | _ => none
  | .vptr cs o => (window cs o d.size).bind (ofCells d.isAgg)
  | _ => none

def store (d : TD) (a v : AV) (h : List Obj) : Option (List Obj) :=
  match a with
  | .ptr r o => match h[r]? with
    | some (.cells cs) =>
      if v.cells.length = d.size ∧ v.cells.all AV.one then (put cs o v.cells).map fun cs' => h.set r (.cells cs') else none
    | _ => none
  | _ => none

def chunks (esz : Nat) (agg : Bool) : Nat → List AV → Option (List AV)
  | 0, _ => some []
  | n + 1, cs => match ofCells agg (cs.take esz), chunks esz agg n (cs.drop esz) with
    | some v, some vs => some (v :: vs)
    | _, _ => none

/-- without a reference into the heap from m on -/
def noref (m : Nat) : AV → Bool
  | .ptr r _ | .map r => Nat.blt r m
  | .mslice r .. => Nat.blt r m
  | .slice _ _ (.at r) => Nat.blt r m
  | .func _ a b => go a && go b
  | .agg cs => go cs
  | .tuple cs => go cs
  | _ => true
where
  go : List AV → Bool
    | [] => true
    | c :: cs => noref m c && go cs

/-- the elements of a slice, and their size -/
def elems (h : List Obj) : AV → Option (List AV × Nat)
  | .slice xs e _ => some (xs, e)
  | .mslice r off len _ esz agg => match h[r]? with
    | some (.cells cs) => match window cs off (len * esz) with
      | some ds =>
        if esz ≠ 0 && ds.all AV.one then
          match chunks esz agg len ds with
          | some xs => if noref.go 0 xs then some (xs, esz) else none
          | none => none
        else none
      | none => none
    | _ => none
  | _ => none

/-- what is left of a value when the heap is cut at m -/
def cut (m : Nat) : AV → AV
  | .slice xs e (.at r) => if Nat.blt r m then .slice xs e (.at r) else .slice xs e .none
  | .agg cs => .agg (go cs)
  | .tuple cs => .tuple (go cs)
  | v => if noref m v then v else .undef
where
  go : List AV → List AV
    | [] => []
    | c :: cs => cut m c :: go cs

/-- a value that leaves: what can be written becomes a list -/
def freeze (h : List Obj) (m : Nat) : AV → AV
  | .slice xs e (.at r) => if Nat.blt r m then .slice xs e (.at r) else .slice xs e .none
  | .mslice r off len cap esz agg => if Nat.blt r m then .mslice r off len cap esz agg else
    match elems h (.mslice r off len cap esz agg) with
    | some (xs, e) => .slice xs e .none
    | none => .undef
  | .agg cs => .agg (go cs)
  | .tuple cs => .tuple (go cs)
  | v => if noref m v then v else .undef
where
  go : List AV → List AV
    | [] => []
    | c :: cs => freeze h m c :: go cs

/-- an argument of a call on a heap of its own -/
def freezeA (h : List Obj) : AV → AV
  | .mslice r off len cap esz agg => match elems h (.mslice r off len cap esz agg) with
    | some (xs, e) => .slice xs e .none
    | none => .undef
  | v => cut 0 v

def killed : List AV → List Obj → List Obj
  | [], h => h
  | .mslice r .. :: as, h => killed as (h.set r .dead)
  | _ :: as, h => killed as h

def cutObj (m : Nat) : Obj → Obj
  | .cells cs => .cells (cs.map (cut m))
  | .map es => .map (es.map fun e => (cut m e.1, cut m e.2))
  | o => o

def cutHeap (m : Nat) (h : List Obj) : List Obj := (h.take m).map (cutObj m)

def place (fs : List (Nat × Nat × Bool)) (cells : List AV) : List (Nat × AV) → Option (List AV)
  | [] => some cells
  | (i, v) :: rest => match fs[i]? with
    | some (off, size, _) => if v.cells.length = size ∧ v.cells.all AV.one then (match put cells off v.cells with | some cs => place fs cs rest | none => none) else none
    | none => none

def placeAt (esz : Nat) (cells : List AV) : List (Nat × AV) → Option (List AV)
  | [] => some cells
  | (i, v) :: rest => if v.cells.length = esz ∧ v.cells.all AV.one then (match put cells (i * esz) v.cells with | some cs => placeAt esz cs rest | none => none) else none

def slice_ (A : Ar) (d : TD) (x : AV) (lo hi : Option Int) : Option AV :=
  match d, x with
  | .str, .str s => (A.ssub s lo hi).map .str
  | .slice esz _ _ _, .slice xs e _ =>
    if e = esz ∨ e = 0 then (A.sub xs lo hi).map fun ys => .slice ys e .none else none
  | .slice esz agg _ _, .mslice r off len cap e ag => if e = esz ∧ ag = agg then
      match A.hi hi len cap with
      | some h => match A.lo lo h with
        | some l => some (.mslice r (bif Nat.beq cap l then off else off + l * esz) (h - l) (cap - l) esz agg)
        | none => none
      | none => none
    else none
  | .array n esz agg _, .ptr r off =>
      match A.hi hi n n with
      | some h => match A.lo lo h with
        | some l => some (.mslice r (bif Nat.beq n l then off else off + l * esz) (h - l) (n - l) esz agg)
        | none => none
      | none => none
  | _, _ => none

/-- an index that may be left out -/
def bnd? (t : List AV) : Option Operand → Option (Option Int)
  | none => some none
  | some x => match opnd t x with
    | .int _ i => some (some i)
    | _ => none

def same1 (p : PK) (a b : AV) : Option Bool :=
  match p, a, b with
  | .bool, .bool a, .bool b => some (a == b)
  | .int, .int k a, .int k' b => if k = k' then some (a == b) else none
  | .str, .str a, .str b => some (a == b)
  | _, _, _ => none

def sames : List PK → List AV → List AV → Option Bool
  | [], [], [] => some true
  | p :: ps, a :: as, b :: bs => match same1 p a b, sames ps as bs with
    | some x, some y => some (x && y)
    | _, _ => none
  | _, _, _ => none

def keySame (ks : Keys) (a b : AV) : Option Bool :=
  match ks with
  | .one p => same1 p a b
  | .fields ps => match a, b with
    | .agg as, .agg bs => sames ps as bs
    | _, _ => none

def findFrom (ks : Keys) (k : AV) : List (AV × AV) → Nat → Option (Option (Nat × AV))
  | [], _ => some none
  | e :: es, i => match keySame ks k e.1 with
    | some true => some (some (i, e.2))
    | some false => findFrom ks k es (i + 1)
    | none => none

def toBytes : List AV → Option (List UInt8)
  | [] => some []
  | .int .u8 n :: xs => match toBytes xs with
    | some bs => some (UInt8.ofNat n.toNat :: bs)
    | none => none
  | _ => none

def idxStd (i : Int) (n : Nat) : Option Nat := if 0 ≤ i ∧ i < n then some i.toNat else none
def bndStd (i : Int) (n : Nat) : Option Nat := if 0 ≤ i ∧ i ≤ n then some i.toNat else none
def hiStd (h : Option Int) (len cap : Nat) : Option Nat :=
  match h with
  | some h => bndStd h cap
  | none => some len
def loStd (l : Option Int) (h : Nat) : Option Nat :=
  match l with
  | some l => bndStd l h
  | none => some 0
def subStd {α : Type} (xs : List α) (lo hi : Option Int) : Option (List α) :=
  match hiStd hi xs.length xs.length with
  | some h => match loStd lo h with
    | some l => some ((xs.take h).drop l)
    | none => none
  | none => none

def Ar.std : Ar where
  int := fun op k a b => match op with
    | .add => k.wrap (a + b)
    | .sub => k.wrap (a - b)
    | .mul => k.wrap (a * b)
    | .quo => k.wrap (a.tdiv b)
    | .rem => a.tmod b
    | .and => k.wrap (BitVec.ofInt k.bits a &&& BitVec.ofInt k.bits b).toNat
    | .or => k.wrap (BitVec.ofInt k.bits a ||| BitVec.ofInt k.bits b).toNat
    | .xor => k.wrap (BitVec.ofInt k.bits a ^^^ BitVec.ofInt k.bits b).toNat
    | .andNot => k.wrap (BitVec.ofInt k.bits a &&& ~~~ BitVec.ofInt k.bits b).toNat
    | _ => 0
  lt := fun a b => decide (a < b)
  le := fun a b => decide (a ≤ b)
  eq := fun a b => a == b
  conv := fun k n => k.wrap n
  shl := fun k a y => k.wrap (a * 2 ^ (min y.toNat k.bits))
  shr := fun k a y => a.fdiv (2 ^ (min y.toNat k.bits))
  band := fun a b => a && b
  bnot := fun a => !a
  beq := fun a b => a == b
  seq := fun a b => a == b
  slt := fun a b => Op.bytesLess a b
  cat := fun a b => a ++ b
  sroom := fun a b => decide (a.length + b.length ≤ 4611686018427387904)
  slen := fun a => a.length
  sget := fun s i => if 0 ≤ i then (s[i.toNat]?).map fun b => (b.toNat : Int) else none
  ssub := fun s lo hi => subStd s lo hi
  bytes := fun s => s.map fun b => .int .u8 b.toNat
  ofBytes := toBytes
  ofRune := fun n => (Utf8.encode n).data.toList
  len := fun xs => xs.length
  get := fun xs i => if 0 ≤ i then xs[i.toNat]? else none
  sub := fun xs lo hi => subStd xs lo hi
  app := fun xs ys => xs ++ ys
  room := fun xs ys => decide (xs.length + ys.length ≤ 2147483648)
  idx := idxStd
  bnd := bndStd
  hi := hiStd
  lo := loStd
  find := fun ks k es => findFrom ks k es 0
  num := fun n => n

def cellsOf (xs : List AV) : List AV := xs.flatMap AV.cells

/-- a made slice's cells -/
def makeCells (z : List AV) : Nat → List AV
  | 0 => []
  | n + 1 => z ++ makeCells z n

/-- what an operation comes to: a value and a heap, or a call -/
inductive Res where
  | val (v : AV) (h : List Obj)
  | call (f : Nat) (args : List AV)

def val (h : List Obj) (v : Option AV) : Option Res := v.map fun v => .val v h

def append (A : Ar) (esz ebytes : Nat) (h : List Obj) (xs : List AV) (e : Nat) (t : Tok) (ys : List AV) (e' : Nat) : Option Res :=
  if (e = esz ∨ e = 0) ∧ (e' = esz ∨ e' = 0) ∧ esz ≠ 0 ∧ ebytes ≤ 4096 then
    if A.room xs ys then
      match t with
      | .exact => some (.val (.slice (A.app xs ys) esz (.at h.length)) (h ++ [.tok (A.app xs ys) esz]))
      | .at r => match h[r]? with
        | some (.tok l e'') => if e'' = esz then
            if A.eq (A.len l) (A.len xs) then some (.val (.slice (A.app xs ys) esz (.at r)) (h.set r (.tok (A.app xs ys) esz))) else none
          else none
        | _ => none
      | .none => none
    else none
  else none

def kindOk : PK → AV → Bool
  | .bool, .bool _ | .int, .int .. | .str, .str _ => true
  | _, _ => false
def kindsOk : List PK → List AV → Bool
  | [], [] => true
  | p :: ps, a :: as => kindOk p a && kindsOk ps as
  | _, _ => false

/-- can this be a key? -/
def keyOk (ks : Keys) (k : AV) : Bool :=
  match ks, k with
  | .one p, k => kindOk p k
  | .fields ps, .agg cs => kindsOk ps cs
  | _, _ => false

def builtin (E : Env) (h : List Obj) (b : Builtin) (ts : Array TypeId) (args : List AV) : Option Res :=
  match b, args with
  | .len, [x] => match (ts[0]?).bind E.td, x with
    | some (.slice ..), .slice xs _ _ => some (.val (.int .i64 (E.ar.len xs)) h)
    | some (.slice ..), .mslice _ _ n _ _ _ => some (.val (.int .i64 (E.ar.num n)) h)
    | some .str, .str s => some (.val (.int .i64 (E.ar.slen s)) h)
    | some (.array n ..), .agg _ => some (.val (.int .i64 (E.ar.num n)) h)
    | some (.map ..), .nilmap => some (.val (.int .i64 0) h)
    | some (.map ..), .map r => match h[r]? with
      | some (.map es) => some (.val (.int .i64 (E.ar.num es.length)) h)
      | _ => none
    | _, _ => none
  | .min, [.int k a, .int _ b] => some (.val (.int k (if E.ar.lt b a then b else a)) h)
  | .max, [.int k a, .int _ b] => some (.val (.int k (if E.ar.lt a b then b else a)) h)
  | .append, [.slice xs e t, y] => match (ts[0]?).bind E.td, (ts[1]?).bind E.td with
    | some (.slice esz _ ebytes _), some (.slice ..) => match elems h y with
      | some (ys, e') => append E.ar esz ebytes h xs e t ys e'
      | none => none
    | some (.slice 1 false 1 _), some .str => match y with
      | .str s => append E.ar 1 1 h xs e t (E.ar.bytes s) 1
      | _ => none
    | _, _ => none
  | .copy, [.mslice r off len _ 1 _, .str s] => match (ts[0]?).bind E.td with
    | some (.slice 1 _ _ _) => match h[r]? with
      | some (.cells cs) => match put cs off ((E.ar.bytes s).take len) with
        | some cs' => some (.val (.int .i64 (E.ar.num (min s.length len))) (h.set r (.cells cs')))
        | none => none
      | _ => none
    | _ => none
  | _, _ => none

def callVal (args : List AV) : AV → Option Res
  | .func (.func f) first cap => some (.call f (first ++ args ++ cap))
  | _ => none

/-- a nil value of an interface type against the literal nil -/
def nilNil (d : TD) (b : BinOp) (x y : Operand) (u v : AV) : Option AV :=
  match d, u, v with
  | .iface, .niliface, .niliface => match (x matches .const _) || (y matches .const _), b with
    | true, .eql => some (.bool true)
    | true, .neq => some (.bool false)
    | _, _ => none
  | _, _, _ => none

/-- the bytes of a text -/
def convB (src dst : TD) (x : AV) : Option (List UInt8) :=
  match src, dst, x with
  | .str, .slice 1 false 1 [.int .u8 0], .str b => bif Nat.ble b.length 1000000 then some b else none
  | _, _, _ => none

def convert (A : Ar) (src dst : TD) (x : AV) (h : List Obj) : Option AV :=
  match src, dst, x with
  | _, .int k, .int _ n => some (.int k (A.conv k n))
  | .str, .str, .str s => some (.str s)
  | .int _, .str, .int _ n => some (.str (A.ofRune n))
  | .slice 1 false 1 [.int .u8 0], .str, x => match elems h x with
    | some (xs, e) => if e = 1 ∨ e = 0 then (A.ofBytes xs).map .str else none
    | none => none
  | _, _, _ => none

def lit0 : Operand → Bool
  | .const (.int _ n) => n == 0
  | _ => false

def isNil : Operand → Bool
  | .const (.slice none 0 0) => true
  | _ => false

def inOrder : Nat → List (Nat × Operand) → Bool
  | _, [] => true
  | k, (i, _) :: ps => i == k && inOrder (k + 1) ps

def op (E : Env) (own : Bool) (t : List AV) (h : List Obj) (ty : Nat) (o : Op) : Option Res :=
  let ρ := opnd t
  match o with
  | .move x => some (.val (ρ x) h)
  | .assign x =>
    if own && isNil x then
      match E.td ty with
      | some (.slice esz _ _ _) => if esz ≠ 0 then some (.val (.slice [] esz (.at h.length)) (h ++ [.tok [] esz])) else none
      | _ => none
    else some (.val (ρ x) h)
  | .pick c a b => match ρ c with
    | .bool true => some (.val (ρ a) h)
    | .bool false => some (.val (ρ b) h)
    | _ => none
  | .alloc e => (E.td e).map fun d => .val (.ptr h.length 0) (h ++ [.cells d.zero])
  | .box _ x => if (ρ x).cells.all AV.one then some (.val (.ptr h.length 0) (h ++ [.cells (ρ x).cells])) else none
  | .build ty parts => match E.td ty with
    | some (.struct _ _ fs z) => val h ((place fs z (parts.toList.map fun p => (p.1, ρ p.2))).map .agg)
    | some (.array _ esz _ z) => val h ((placeAt esz z (parts.toList.map fun p => (p.1, ρ p.2))).map .agg)
    | _ => none
  | .buildSlice ty n parts => match E.td ty with
    | some (.slice esz _ _ _) =>
      let vs := parts.toList.map fun p => ρ p.2
      if inOrder 0 parts.toList && parts.size == n && esz ≠ 0 && n * esz ≤ 16777216 && noref.go 0 vs && (vs.all fun v => v.cells.length == esz && v.cells.all AV.one) then
        some (.val (.slice vs esz .exact) h) else none
    | _ => none
  | .load ty a => match E.td ty with
    | some d => val h (load d (ρ a) h)
    | none => none
  | .store ty a v => match E.td ty with
    | some d => (store d (ρ a) (ρ v) h).map fun h' => .val (.tuple []) h'
    | none => none
  | .nilCheck x => match ρ x with
    | .ptr r o => some (.val (.ptr r o) h)
    | .vptr cs o => some (.val (.vptr cs o) h)
    | .func (.func f) a b => some (.val (.func (.func f) a b) h)
    | _ => none
  | .binOp b xt x y _ => match E.td xt with
    | some d => match nilNil d b x y (ρ x) (ρ y) with
      | some v => some (.val v h)
      | none => val h (bin E.ar d b (ρ x) (ρ y))
    | none => none
  | .unOp u _ x => val h (un E.ar u (ρ x))
  | .convert s d x => match E.td s, E.td d with
    | some s, some d => match convB s d (ρ x) with
      | some b => some (.val (.slice (E.ar.bytes b) 1 .none) h)
      | none => val h (convert E.ar s d (ρ x) h)
    | _, _ => none
  | .makeFunc f a b => some (.val (.func f (a.toList.map ρ) (b.toList.map ρ)) h)
  | .makeMap _ none => some (.val (.map h.length) (h ++ [.map []]))
  | .makeSlice ty l c => match E.td ty, ρ l, ρ c with
    | some (.slice esz agg ebytes z), .int _ n, .int _ m =>
      if ebytes ≤ 4096 ∧ esz ≠ 0 then
        match E.ar.bnd m 2147483648 with
        | some m => match E.ar.bnd n m with
          | some n =>
            if lit0 l then some (.val (.slice [] esz (.at h.length)) (h ++ [.tok [] esz]))
            else some (.val (.mslice h.length 0 n m esz agg) (h ++ [.cells (makeCells z m)]))
          | none => none
        | none => none
      else none
    | _, _, _ => none
  | .slice ty x lo hi none => match E.td ty with
    | some d => match bnd? t lo, bnd? t hi with
      | some lo, some hi => val h (slice_ E.ar d (ρ x) lo hi)
      | _, _ => none
    | none => none
  | .fieldAddr s x f => match E.td s, ρ x with
    | some (.struct _ _ fs _), .ptr r o => match fs[f]? with
      | some (off, n, _) => if n = 0 then none else some (.val (.ptr r (o + off)) h)
      | none => none
    | some (.struct _ _ fs _), .vptr cs o => match fs[f]? with
      | some (off, n, _) => if n = 0 then none else some (.val (.vptr cs (o + off)) h)
      | none => none
    | _, _ => none
  | .field s x f => match E.td s, ρ x with
    | some (.struct _ _ fs _), .agg cs => match fs[f]? with
      | some (off, n, agg) => val h ((window cs off n).bind (ofCells agg))
      | none => none
    | _, _ => none
  | .indexAddr ty x i => match E.td ty, ρ x, ρ i with
    | some (.slice esz _ _ _), .slice xs e _, .int _ i =>
      if e = esz then match E.ar.get xs i with
        | some x => some (.val (.vptr x.cells 0) h)
        | none => none
      else none
    | some (.slice esz _ _ _), .mslice r off len _ e _, .int _ i =>
      if e = esz then match E.ar.idx i len with
        | some i => some (.val (.ptr r (off + i * esz)) h)
        | none => none
      else none
    | some (.array n esz _ _), .ptr r off, .int _ i => match E.ar.idx i n with
      | some i => some (.val (.ptr r (off + i * esz)) h)
      | none => none
    | some (.array n esz _ _), .vptr cs off, .int _ i => match E.ar.idx i n with
      | some i => some (.val (.vptr cs (off + i * esz)) h)
      | none => none
    | _, _, _ => none
  | .index ty x i => match E.td ty, ρ x, ρ i with
    | some (.array n esz agg _), .agg cs, .int _ i => match E.ar.idx i n with
      | some i => val h ((window cs (i * esz) esz).bind (ofCells agg))
      | none => none
    | some .str, .str s, .int _ i => match E.ar.sget s i with
      | some b => some (.val (.int .u8 b) h)
      | none => none
    | _, _, _ => none
  | .lookup ty x k ok => match E.td ty with
    | some (.map ks vagg z) =>
      match (match ρ x with
        | .nilmap => some []
        | .map r => match h[r]? with
          | some (.map es) => some es
          | _ => none
        | _ => none) with
      | some es => if keyOk ks (ρ k) then match E.ar.find ks (ρ k) es, ofCells vagg z with
        | some (some (_, v)), _ => some (.val (if ok then .tuple [v, .bool true] else v) h)
        | some none, some z => some (.val (if ok then .tuple [z, .bool false] else z) h)
        | _, _ => none
        else none
      | none => none
    | _ => none
  | .mapUpdate ty m k v | .insert ty m k v => match E.td ty, ρ m with
    | some (.map ks _ _), .map r => match h[r]? with
      | some (.map es) => if keyOk ks (ρ k) then match E.ar.find ks (ρ k) es with
        | some (some (i, _)) => some (.val (.tuple []) (h.set r (.map (es.set i (ρ k, ρ v)))))
        | some none => some (.val (.tuple []) (h.set r (.map (es ++ [(ρ k, ρ v)]))))
        | none => none
        else none
      | _ => none
    | _, _ => none
  | .extract x i => match ρ x with
    | .tuple vs => match vs[i]? with
      | some v => some (.val v h)
      | none => none
    | _ => none
  | .call c => match c.callee with
    | .value f => callVal (c.args.toList.map ρ) (ρ f)
    | .builtin b => builtin E h b c.argTypes (c.args.toList.map ρ)
    | .invoke _ _ => none
  | _ => none

/-- is an operation wanted? none: not known -/
def wanted (ops : Array Oper) (t : List AV) (o : Oper) : Option Bool :=
  match o.guard with
  | none => some true
  | some (j, want) => match ops[j]? with
    | some o' => match o'.dst with
      | some d => match t[d]? with
        | some (.bool true) => some want
        | some (.bool false) => some (!want)
        | some .undef => none
        | some _ => some false
        | none => some false
      | none => some false
    | none => some false

def setT (t : List AV) (dst : Option Nat) (v : AV) : List AV :=
  match dst with
  | some d => t.set d v
  | none => t

def keepT (ks : List Nat) : Nat → List AV → List AV
  | _, [] => []
  | i, v :: vs => (if ks.contains i then v else .undef) :: keepT ks (i + 1) vs

def resultOf (t : List AV) (h : List Obj) (td : Nat → Option TD) : ResultVar → Option AV
  | .tmp d => some (t.getD d .undef)
  | .cell a ty => match td ty with
    | some d => load d (t.getD a .undef) h
    | none => none

def resultsOf (t : List AV) (h : List Obj) (td : Nat → Option TD) : List ResultVar → Option (List AV)
  | [] => some []
  | r :: rs => match resultOf t h td r, resultsOf t h td rs with
    | some v, some vs => some (v :: vs)
    | _, _ => none

def results (fn : Func) (t : List AV) (h : List Obj) (td : Nat → Option TD) : Option AV :=
  match resultsOf t h td fn.results.toList with
  | some [v] => some v
  | some vs => some (.tuple vs)
  | none => none

/-- a call; a loop -/
abbrev Kall := Nat → List AV → List Obj → Option (AV × List Obj)
abbrev Lp := Nat → List (List AV) → St → Option (Ex × St)

def runOps (E : Env) (κ : Kall) (own : Bool) (ops : Array Oper) : List Oper → St → Option St
  | [], s => some s
  | o :: os, s => match wanted ops s.tmps o with
    | none => none
    | some false => runOps E κ own ops os { s with tmps := setT s.tmps o.dst (.tuple []) }
    | some true => match op E own s.tmps s.heap o.type o.op with
      | none => none
      | some (.val v h) => runOps E κ own ops os { tmps := setT s.tmps o.dst v, heap := h }
      | some (.call g args) => match κ g args s.heap with
        | some (v, h) => runOps E κ own ops os { tmps := setT s.tmps o.dst v, heap := h }
        | none => none

def lookupN {α : Type} : List (Nat × α) → Nat → Option α
  | [], _ => none
  | (k, a) :: l, n => if k = n then some a else lookupN l n

/-- what an operation touches of the heap: nothing; it reads an object; it writes an object (and reads it); it makes one; anything -/
inductive Foot where
  | none | rd (r : Nat) | wr (r : Nat) | mk | any
  deriving DecidableEq, Inhabited

def isPure (E : Env) (g : Nat) : Bool :=
  match E.fn g with
  | some (.prim _) => true
  | some (.go i _) => match i.mode with
    | .pure => true
    | _ => false
  | none => false

def noM : List AV → Bool
  | [] => true
  | .mslice .. :: _ => false
  | _ :: as => noM as

/-- the one argument that can be written -/
def oneM : List AV → Option Nat
  | [] => none
  | .mslice r .. :: as => bif noM as then some r else none
  | _ :: as => oneM as

def foot (E : Env) (t : List AV) (o : Op) : Foot :=
  let ρ := opnd t
  match o with
  | .load _ a => match ρ a with
    | .ptr r _ => .rd r
    | _ => .none
  | .store _ a _ => match ρ a with
    | .ptr r _ => .wr r
    | _ => .none
  | .alloc _ | .box .. | .makeMap .. | .makeSlice .. => .mk
  | .assign x => bif isNil x then .any else .none
  | .convert _ _ x => match ρ x with
    | .mslice .. => .any
    | _ => .none
  | .lookup _ x .. => match ρ x with
    | .map r => .rd r
    | _ => .none
  | .call c => match c.callee with
    | .value f => match ρ f with
      | .func (.func g) first cap => bif isPure E g then (bif noM (first ++ c.args.toList.map ρ ++ cap) then .none else match oneM (first ++ c.args.toList.map ρ ++ cap) with
        | some r => .wr r
        | none => .any) else .any
      | _ => .none
    | .builtin .min | .builtin .max => .none
    | .builtin .append => match c.args.toList.map ρ with
      | [.slice _ _ t, y] => match y with
        | .mslice .. => .any
        | _ => match t with
          | .exact => .mk
          | .at r => .wr r
          | .none => .any
      | _ => .any
    | .builtin .len => match c.args.toList.map ρ with
      | [.map r] => .rd r
      | _ => .none
    | _ => .any
  | .move _ | .pick .. | .build .. | .buildSlice .. | .nilCheck _ | .binOp .. | .unOp .. | .makeFunc .. | .slice .. | .fieldAddr .. | .field .. | .indexAddr .. | .index .. | .extract .. => .none
  | _ => .any

/-- may two operations change places, the first of which comes first in the text? -/
def apart (m : Nat) (a b : Foot) : Bool :=
  match a, b with
  | .none, _ | _, .none => true
  | .rd _, .rd _ => true
  | .rd r, .wr s | .wr r, .rd s | .wr r, .wr s => !Nat.beq r s
  | .rd _, .mk | .wr _, .mk => true
  | .mk, .rd r | .mk, .wr r => Nat.blt r m
  | _, _ => false

def footAt (E : Env) (ops : Array Oper) (t : List AV) (k : Nat) : Foot :=
  match ops[k]? with
  | some o => match wanted ops t o with
    | some true => foot E t o.op
    | _ => .none
  | none => .none

/-- may the operations of a region come up in any order? -/
def drawOk (E : Env) (i : Info) (id : Nat) (ops : Array Oper) (m : Nat) (t : List AV) : Bool :=
  match lookupN i.pairs id with
  | some ps => ps.all fun p => apart m (footAt E ops t p.1) (footAt E ops t p.2)
  | none => false

/-- what a loop's head keeps -/
def norm (i : Info) (id : Nat) (s : St) : St :=
  match lookupN i.keep id with
  | some ks => { s with tmps := keepT ks 0 s.tmps }
  | none => s

def run (E : Env) (κ : Kall) (lp : Lp) (i : Info) : Code → St → Option (Ex × St)
  | .skip, s | .label _, s => some (.normal, s)
  | .region id ops draw, s =>
    match runOps E κ i.own ops ops.toList s with
    | some s' => if draw && !drawOk E i id ops s.heap.length s'.tmps then none else some (.normal, s')
    | none => none
  | .seq a b, s => match run E κ lp i a s with
    | some (.normal, s') => run E κ lp i b s'
    | r => r
  | .cond c a b, s => match opnd s.tmps c with
    | .bool true => run E κ lp i a s
    | .bool false => run E κ lp i b s
    | _ => none
  | .block id (.loop _), s => lp id [] (norm i id s)
  | .block id (.rangeFunc f _ _ _), s => match opnd s.tmps f with
    | .func (.func g) [] cap => match E.iter g cap s.heap with
      | some items => lp id items s
      | none => none
    | _ => none
  | .block id c, s => match run E κ lp i c s with
    | some (.exit id', s') => if id' = id then some (.normal, s') else some (.exit id', s')
    | r => r
  | .exit id, s => some (.exit id, s)
  | .ret, s => some (.ret, s)
  | _, _ => none

/-- the body of the loop in a block -/
def findLoop (id : Nat) : Code → Option Code
  | .seq a b | .cond _ a b => match findLoop id a with
    | some c => some c
    | none => findLoop id b
  | .block id' (.loop c) => if id' = id then some (.loop c) else findLoop id c
  | .block id' (.rangeFunc f ps a b) => if id' = id then some (.rangeFunc f ps a b) else findLoop id b
  | .block _ c | .scope c | .loop c => findLoop id c
  | .rangeFunc _ _ _ b => findLoop id b
  | _ => none

def setAll : List Nat → List AV → List AV → List AV
  | p :: ps, v :: vs, t => setAll ps vs (t.set p v)
  | _, _, t => t

/-- the heap and the temporaries behind a round that began with m objects -/
def back (i : Info) (id m : Nat) (s : St) : St :=
  if i.cut && !i.grow.contains id then norm i id { tmps := s.tmps.map (cut m), heap := cutHeap m s.heap } else norm i id s

/-- behind a round of a loop over a function: its temporaries are not kept -/
def backR (i : Info) (s s' : St) : St :=
  if i.cut then { tmps := s.tmps.map (cut s.heap.length), heap := cutHeap s.heap.length s'.heap } else { tmps := s.tmps, heap := s'.heap }

def loopStep (E : Env) (κ : Kall) (lp : Lp) (i : Info) (code : Code) (id : Nat) (items : List (List AV)) (s : St) : Option (Ex × St) :=
  match findLoop id code with
  | some (.loop c) => match run E κ lp i c s with
    | some (.normal, s') => lp id [] (back i id s.heap.length s')
    | some (.exit id', s') => if id' = id then some (.normal, s') else some (.exit id', s')
    | r => r
  | some (.rangeFunc f ps a b) => match opnd s.tmps f with
    | .func (.func g) [] cap => match items with
      | [] => bif E.fin g cap s.heap then some (.normal, s) else none
      | _ :: xs => match E.iter g cap s.heap with
        | some l => match l[xs.length]? with
          | some x => if x.length = ps.size then
              match run E κ lp i (.seq a b) { s with tmps := setAll ps.toList x s.tmps } with
              | some (.normal, s') => match E.post g cap x s'.heap with
                | some h2 => lp id xs (backR i s { s' with heap := h2 })
                | none => none
              | some (.exit id', s') => if id' = id then some (.normal, { s with heap := s'.heap }) else some (.exit id', { s with heap := s'.heap })
              | some (.ret, s') => some (.ret, { s with heap := s'.heap })
              | none => none
            else none
          | none => none
        | none => none
    | _ => none
  | _ => none

def leave (mode : Mode) (args : List AV) (h : List Obj) (v : AV) (h' : List Obj) : AV × List Obj :=
  match mode with
  | .pure => (freeze h' 0 v, killed args h)
  | .loc => (freeze h' h.length v, cutHeap h.length h')
  | .raw => (v, h')

def enter0 (E : Env) (κ : Kall) (lp : Nat → Lp) (g : Nat) (args : List AV) (h : List Obj) : Option (AV × List Obj) :=
  match E.fn g with
  | none => none
  | some (.prim p) => match p (args.map (freezeA h)) with
    | some v => some (v, killed args h)
    | none => none
  | some (.go i fn) => match fn.body with
    | none => none
    | some c =>
      let args' := if i.mode = .pure then args.map (freezeA h) else args
      let h0 := if i.mode = .pure then [] else h
      match run E κ (lp g) i c { tmps := args' ++ List.replicate (fn.ntmps - args'.length) (.tuple []), heap := h0 } with
      | some (.normal, s) | some (.ret, s) =>
        match results fn s.tmps s.heap E.td with
        | none => none
        | some v => some (leave i.mode args h v s.heap)
      | _ => none

/-- what can be written, among the arguments, is there -/
def okM (h : List Obj) : List AV → Bool
  | [] => true
  | .mslice r .. :: as => Nat.blt r h.length && okM h as
  | _ :: as => okM h as

def enter (E : Env) (κ : Kall) (lp : Nat → Lp) (g : Nat) (args : List AV) (h : List Obj) : Option (AV × List Obj) :=
  bif okM h args then (match enter0 E κ lp g args h with
    | some r => bif Nat.ble h.length r.2.length then some r else none
    | none => none) else none

def infoOf (E : Env) (g : Nat) : Option (Info × Code) :=
  match E.fn g with
  | some (.go i fn) => fn.body.map fun c => (i, c)
  | _ => none

/-- with so many rounds and calls within one another -/
def lpN (E : Env) (κ : Kall) (g : Nat) : Nat → Lp
  | 0 => fun _ _ _ => none
  | n + 1 => fun id items s => match infoOf E g with
    | some (i, c) => loopStep E κ (lpN E κ g n) i c id items s
    | none => none

def callN (E : Env) : Nat → Kall
  | 0 => fun _ _ _ => none
  | n + 1 => enter E (callN E n) (fun g => lpN E (callN E n) g n)

end AM

/- THE RELATION between the abstract machine's values and heap and the model's values and world, and how it lasts. -/
namespace AM
open Go

/-- M: memory that stays as it is and may be handed on · F: blocks that stay as they are · φ: where the objects lie · τ: where a slice that grew lay at each length, and its capacity · N: how many objects there are · w0: the streams -/
structure Phi where
  M : Nat → Nat → Option Value
  F : Nat → Option Go.Obj
  φ : Nat → Nat
  τ : Nat → Nat → Option (Option Addr × Nat)
  N : Nat
  w0 : World

def TokR (Φ : Phi) : Tok → Nat → Option Addr → Nat → Prop
  | .none, _, _, _ => True
  | .exact, n, _, cap => cap = n
  | .at r, n, a, cap => r < Φ.N ∧ Φ.τ r n = some (a, cap)

inductive VR (Φ : Phi) : AV → Value → Prop
  | undef (v : Value) : VR Φ .undef v
  | bool (b : Bool) : VR Φ (.bool b) (.bool b)
  | int (k : IntKind) (n : Int) : VR Φ (.int k n) (.int k n)
  | str (s : ByteArray) : VR Φ (.str s.data.toList) (.string s)
  | nilptr : VR Φ .nilptr (.pointer none)
  | ptr (r o : Nat) (h : r < Φ.N) : VR Φ (.ptr r o) (.pointer (some ⟨Φ.φ r, o, none⟩))
  | vptr (cs : List AV) (o b off : Nat) (vs : List Value) (hl : cs.length = vs.length) (hm : ∀ (k : Nat) v, vs[k]? = some v → Φ.M b (off + k) = some v)
      (hv : ∀ (k : Nat) c v, cs[k]? = some c → vs[k]? = some v → VR Φ c v) (hp : noref.go 0 cs = true) : VR Φ (.vptr cs o) (.pointer (some ⟨b, off + o, none⟩))
  | snil (e : Nat) (t : Tok) (ht : TokR Φ t 0 none 0) : VR Φ (.slice [] e t) (.slice none 0 0)
  | sodd (e : Nat) (a : Addr) : VR Φ (.slice [] e .none) (.slice (some a) 0 0)
  | slice (xs : List AV) (e : Nat) (t : Tok) (b off cap : Nat) (vs : List Value) (hc : xs.length ≤ cap) (he : ∀ x ∈ xs, x.cells.length = e) (hz : e = 0 → xs = [])
      (hl : (cellsOf xs).length = vs.length) (hm : ∀ (k : Nat) v, vs[k]? = some v → Φ.M b (off + k) = some v)
      (hv : ∀ (k : Nat) c v, (cellsOf xs)[k]? = some c → vs[k]? = some v → VR Φ c v) (hp : noref.go 0 xs = true) (h1 : (cellsOf xs).all AV.one = true)
      (ht : TokR Φ t xs.length (some ⟨b, off, none⟩) cap) :
      VR Φ (.slice xs e t) (.slice (some ⟨b, off, none⟩) xs.length cap)
  | mslice (r off len cap e : Nat) (agg : Bool) (h : r < Φ.N) (hc : len ≤ cap) : VR Φ (.mslice r off len cap e agg) (.slice (some ⟨Φ.φ r, off, none⟩) len cap)
  | nilmap : VR Φ .nilmap (.map none)
  | map (r : Nat) (h : r < Φ.N) : VR Φ (.map r) (.map (some (Φ.φ r)))
  | nilfunc : VR Φ .nilfunc .nilFunc
  | func (fn : Fn) (as bs : List AV) (vs ws : Array Value) (hl : as.length = vs.toList.length) (hv : ∀ (k : Nat) a v, as[k]? = some a → vs.toList[k]? = some v → VR Φ a v)
      (kl : bs.length = ws.toList.length) (kv : ∀ (k : Nat) a v, bs[k]? = some a → ws.toList[k]? = some v → VR Φ a v) : VR Φ (.func fn as bs) (.func fn vs ws)
  | agg (as : List AV) (vs : Array Value) (hl : as.length = vs.toList.length) (hv : ∀ (k : Nat) a v, as[k]? = some a → vs.toList[k]? = some v → VR Φ a v) : VR Φ (.agg as) (.agg vs)
  | tuple (as : List AV) (vs : Array Value) (hl : as.length = vs.toList.length) (hv : ∀ (k : Nat) a v, as[k]? = some a → vs.toList[k]? = some v → VR Φ a v) : VR Φ (.tuple as) (.tuple vs)
  | niliface : VR Φ .niliface .nilIface
  | iface (t : TypeId) (v : Value) : VR Φ .iface (.iface t v)

def VRs (Φ : Phi) (as : List AV) (vs : List Value) : Prop := as.length = vs.length ∧ ∀ (k : Nat) a v, as[k]? = some a → vs[k]? = some v → VR Φ a v

theorem VRs.nil {Φ : Phi} : VRs Φ [] [] := ⟨rfl, fun k a v h => by simp at h⟩
theorem VRs.cons {Φ : Phi} {a : AV} {v : Value} {as : List AV} {vs : List Value} (h : VR Φ a v) (hs : VRs Φ as vs) : VRs Φ (a :: as) (v :: vs) :=
  ⟨by simp [hs.1], fun k b u hb hu => by
    cases k with
    | zero => simp at hb hu; subst hb; subst hu; exact h
    | succ k => exact hs.2 k b u (by simpa using hb) (by simpa using hu)⟩
theorem VRs.inv_nil {Φ : Phi} {vs : List Value} (h : VRs Φ [] vs) : vs = [] := by
  have := h.1; cases vs with
  | nil => rfl
  | cons v vs => simp at this
theorem VRs.inv_cons {Φ : Phi} {a : AV} {as : List AV} {vs : List Value} (h : VRs Φ (a :: as) vs) : ∃ v us, vs = v :: us ∧ VR Φ a v ∧ VRs Φ as us := by
  cases vs with
  | nil => have := h.1; simp at this
  | cons v us => exact ⟨v, us, rfl, h.2 0 a v rfl rfl, ⟨by have := h.1; simpa using this, fun k b u hb hu => h.2 (k + 1) b u (by simpa using hb) (by simpa using hu)⟩⟩
theorem VRs.append {Φ : Phi} {as bs : List AV} {vs us : List Value} (h : VRs Φ as vs) (k : VRs Φ bs us) : VRs Φ (as ++ bs) (vs ++ us) := by
  induction as generalizing vs with
  | nil => obtain rfl := h.inv_nil; exact k
  | cons a as ih => obtain ⟨v, vs, rfl, h1, h2⟩ := h.inv_cons; exact .cons h1 (ih h2)
theorem VRs.drop {Φ : Phi} {as : List AV} {vs : List Value} (h : VRs Φ as vs) (n : Nat) : VRs Φ (as.drop n) (vs.drop n) :=
  ⟨by simp [h.1], fun k a v ha hv => h.2 (n + k) a v (by simpa using ha) (by simpa using hv)⟩
theorem VRs.take {Φ : Phi} {as : List AV} {vs : List Value} (h : VRs Φ as vs) (n : Nat) : VRs Φ (as.take n) (vs.take n) :=
  ⟨by simp [h.1], fun k a v ha hv => by
    rw [List.getElem?_take] at ha hv
    split at ha
    · rename_i hk; rw [if_pos hk] at hv; exact h.2 k a v ha hv
    · cases ha⟩
theorem VRs.set {Φ : Phi} {as : List AV} {vs : List Value} (h : VRs Φ as vs) (n : Nat) {a : AV} {v : Value} (ha : VR Φ a v) : VRs Φ (as.set n a) (vs.set n v) :=
  ⟨by simp [h.1], fun k b u hb hu => by
    rw [List.getElem?_set] at hb hu
    by_cases hk : n = k
    · subst hk
      simp only [if_true] at hb hu
      split at hb
      · rename_i hl; rw [if_pos (by rw [← h.1]; exact hl)] at hu; cases hb; cases hu; exact ha
      · cases hb
    · rw [if_neg hk] at hb hu; exact h.2 k b u hb hu⟩
theorem VRs.get {Φ : Phi} {as : List AV} {vs : List Value} (h : VRs Φ as vs) {k : Nat} {a : AV} (ha : as[k]? = some a) : ∃ v, vs[k]? = some v ∧ VR Φ a v := by
  have hk : k < as.length := by
    rcases Nat.lt_or_ge k as.length with h' | h'
    · exact h'
    · rw [List.getElem?_eq_none h'] at ha; cases ha
  have hk' : k < vs.length := h.1 ▸ hk
  exact ⟨vs[k], List.getElem?_eq_getElem hk', h.2 k a _ ha (List.getElem?_eq_getElem hk')⟩
theorem VRs.mem {Φ : Phi} {as : List AV} {vs : List Value} (h : VRs Φ as vs) {v : Value} (hv : v ∈ vs) : ∃ a ∈ as, VR Φ a v := by
  obtain ⟨k, hk, rfl⟩ := List.getElem_of_mem hv
  have hk' : k < as.length := h.1 ▸ hk
  exact ⟨as[k], List.getElem_mem hk', h.2 k _ _ (List.getElem?_eq_getElem hk') (List.getElem?_eq_getElem hk)⟩

theorem VRs.of {Φ : Phi} {as : List AV} {vs : List Value} (hl : as.length = vs.length) (hv : ∀ (k : Nat) a v, as[k]? = some a → vs[k]? = some v → VR Φ a v) : VRs Φ as vs := ⟨hl, hv⟩

/-- what lasts -/
structure Phi.le (Φ Ψ : Phi) : Prop where
  M : ∀ b o v, Φ.M b o = some v → Ψ.M b o = some v
  F : Ψ.F = Φ.F
  φ : ∀ r, r < Φ.N → Ψ.φ r = Φ.φ r
  τ : ∀ r n x, r < Φ.N → Φ.τ r n = some x → Ψ.τ r n = some x
  N : Φ.N ≤ Ψ.N
  new : ∀ b o, Φ.M b o = none → Ψ.M b o ≠ none → Φ.F b = none
  w0 : Ψ.w0 = Φ.w0

theorem Phi.le.refl (Φ : Phi) : Φ.le Φ := ⟨fun _ _ _ h => h, rfl, fun _ _ => rfl, fun _ _ _ _ h => h, Nat.le_refl _, fun _ _ h k => absurd h k, rfl⟩
theorem Phi.le.trans {Φ Ψ Ω : Phi} (h : Φ.le Ψ) (k : Ψ.le Ω) : Φ.le Ω where
  M := fun b o v hb => k.M b o v (h.M b o v hb)
  F := k.F.trans h.F
  φ := fun r hr => (k.φ r (Nat.lt_of_lt_of_le hr h.N)).trans (h.φ r hr)
  τ := fun r n x hr hx => k.τ r n x (Nat.lt_of_lt_of_le hr h.N) (h.τ r n x hr hx)
  N := Nat.le_trans h.N k.N
  new := fun b o hb ho => by
    cases hm : Ψ.M b o with
    | none => have := k.new b o hm ho; rw [h.F] at this; exact this
    | some v => exact h.new b o hb (by rw [hm]; simp)
  w0 := k.w0.trans h.w0

theorem TokR.mono {Φ Ψ : Phi} (h : Φ.le Ψ) {t : Tok} {n : Nat} {a : Option Addr} {cap : Nat} (ht : TokR Φ t n a cap) : TokR Ψ t n a cap := by
  cases t with
  | none => trivial
  | exact => exact ht
  | «at» r => exact ⟨Nat.lt_of_lt_of_le ht.1 h.N, h.τ _ _ _ ht.1 ht.2⟩

theorem VR.mono {Φ Ψ : Phi} (h : Φ.le Ψ) {a : AV} {v : Value} (r : VR Φ a v) : VR Ψ a v := by
  induction r with
  | undef v => exact .undef v
  | bool b => exact .bool b
  | int k n => exact .int k n
  | str s => exact .str s
  | nilptr => exact .nilptr
  | ptr r o hr => rw [← h.φ r hr]; exact .ptr r o (Nat.lt_of_lt_of_le hr h.N)
  | vptr cs o b off vs hl hm hv hp ih => exact .vptr cs o b off vs hl (fun k v hk => h.M _ _ _ (hm k v hk)) ih hp
  | snil e t ht => exact .snil e t (ht.mono h)
  | sodd e a => exact .sodd e a
  | slice xs e t b off cap vs hc he hz hl hm hv hp h1 ht ih => exact .slice xs e t b off cap vs hc he hz hl (fun k v hk => h.M _ _ _ (hm k v hk)) ih hp h1 (ht.mono h)
  | mslice r off len cap e agg hr hc => rw [← h.φ r hr]; exact .mslice r off len cap e agg (Nat.lt_of_lt_of_le hr h.N) hc
  | nilmap => exact .nilmap
  | map r hr => rw [← h.φ r hr]; exact .map r (Nat.lt_of_lt_of_le hr h.N)
  | nilfunc => exact .nilfunc
  | func fn as bs vs ws hl hv kl kv ih1 ih2 => exact .func fn as bs vs ws hl ih1 kl ih2
  | agg as vs hl hv ih => exact .agg as vs hl ih
  | tuple as vs hl hv ih => exact .tuple as vs hl ih
  | niliface => exact .niliface
  | iface t v => exact .iface t v

theorem VRs.mono {Φ Ψ : Phi} (h : Φ.le Ψ) {as : List AV} {vs : List Value} (r : VRs Φ as vs) : VRs Ψ as vs := ⟨r.1, fun k a v ha hv => (r.2 k a v ha hv).mono h⟩

/-- what an object is in the world -/
def ObjR (Φ : Phi) (w : World) (r : Nat) : Obj → Prop
  | .cells cs => ∃ (vs : Array Value) (t : TypeId), w.heap[Φ.φ r]? = some (.cells vs t (0, 0)) ∧ VRs Φ cs vs.toList ∧ (∀ o, Φ.M (Φ.φ r) o = none) ∧ Φ.F (Φ.φ r) = none
  | .map es => ∃ (es' : Array MapEntry) (clock : Nat), w.heap[Φ.φ r]? = some (.map es' clock) ∧ VRs Φ (es.map (·.1)) (es'.toList.map (·.key)) ∧ VRs Φ (es.map (·.2)) (es'.toList.map (·.val)) ∧
      (∀ o, Φ.M (Φ.φ r) o = none) ∧ Φ.F (Φ.φ r) = none
  | .tok xs e => ∃ a cap, Φ.τ r xs.length = some (a, cap) ∧ xs.length ≤ cap ∧ e ≠ 0 ∧ (∀ m, xs.length < m → Φ.τ r m = none) ∧ (xs.length < cap → ∃ b, a = some ⟨b, 0, none⟩ ∧
      (∃ (vs : Array Value) (t : TypeId), w.heap[b]? = some (.cells vs t (0, 0)) ∧ cap * e ≤ vs.size) ∧ (∀ o, xs.length * e ≤ o → Φ.M b o = none) ∧ Φ.F b = none)
  | .dead => True

/-- the block that an object may write to -/
def blk (Φ : Phi) (r : Nat) : Obj → Option Nat
  | .cells _ | .map _ => some (Φ.φ r)
  | .tok xs _ => (Φ.τ r xs.length).bind fun x => if xs.length < x.2 then x.1.map (·.block) else none
  | .dead => none

structure WR (Φ : Phi) (h : List Obj) (w : World) : Prop where
  len : h.length = Φ.N
  mem : ∀ b o v, Φ.M b o = some v → w.cell? ⟨b, o, none⟩ = some v
  frz : ∀ b ob, Φ.F b = some ob → w.heap[b]? = some ob
  obj : ∀ r ob, h[r]? = some ob → ObjR Φ w r ob
  inj : ∀ r s x y b, h[r]? = some x → h[s]? = some y → blk Φ r x = some b → blk Φ s y = some b → r = s
  str : w.os = Φ.w0.os ∧ w.tape = Φ.w0.tape ∧ w.output = Φ.w0.output
  tab : ∀ g k v, table g k = some v → Φ.M g k = some v

end AM

/- What is left of a value, and of the relation, when the heap is cut; values that leave a call. -/
namespace AM
open Go

theorem noref_go (m : Nat) (cs : List AV) : noref.go m cs = true ↔ ∀ c ∈ cs, noref m c = true := by
  induction cs with
  | nil => simp [noref.go]
  | cons c cs ih => simp [noref.go, ih]

theorem blt_true {a b : Nat} : Nat.blt a b = true ↔ a < b := by simp [Nat.blt]; omega

/-- a value without references from m on is related wherever the memory and the places below m are -/
theorem VR.down {Φ Ψ : Phi} {m : Nat} (hM : ∀ b o v, Φ.M b o = some v → Ψ.M b o = some v) (hφ : ∀ r, r < m → Ψ.φ r = Φ.φ r)
    (hτ : ∀ r n x, r < m → Φ.τ r n = some x → Ψ.τ r n = some x) (hN : m ≤ Ψ.N) {a : AV} {v : Value} (r : VR Φ a v) : (noref m a = true ∨ noref 0 a = true) → VR Ψ a v := by
  have tok : ∀ {t : Tok} {n a cap}, (∀ r, t = .at r → r < m) → TokR Φ t n a cap → TokR Ψ t n a cap := by
    intro t n a cap ht h
    cases t with
    | none => trivial
    | exact => exact h
    | «at» r => exact ⟨Nat.lt_of_lt_of_le (ht r rfl) hN, hτ _ _ _ (ht r rfl) h.2⟩
  have tk : ∀ {xs : List AV} {e : Nat} {t : Tok}, (noref m (.slice xs e t) = true ∨ noref 0 (.slice xs e t) = true) → ∀ r, t = .at r → r < m := by
    intro xs e t h r hr; subst hr
    rcases h with h | h <;> simp only [noref, blt_true] at h <;> omega
  have lst : ∀ {cs : List AV}, (noref.go m cs = true ∨ noref.go 0 cs = true) → ∀ (k : Nat) c, cs[k]? = some c → noref m c = true ∨ noref 0 c = true := by
    intro cs h k c hc
    have hm := List.mem_of_getElem? hc
    rcases h with h | h
    · exact .inl ((noref_go _ _).1 h c hm)
    · exact .inr ((noref_go _ _).1 h c hm)
  induction r with
  | undef v => exact fun _ => .undef v
  | bool b => exact fun _ => .bool b
  | int k n => exact fun _ => .int k n
  | str s => exact fun _ => .str s
  | nilptr => exact fun _ => .nilptr
  | ptr r o hr =>
    intro h
    have hm : r < m := by rcases h with h | h <;> simp only [noref, blt_true] at h <;> omega
    rw [← hφ r hm]; exact .ptr r o (Nat.lt_of_lt_of_le hm hN)
  | vptr cs o b off vs hl hm hv hp ih =>
    intro _
    exact .vptr cs o b off vs hl (fun k v hk => hM _ _ _ (hm k v hk)) (fun k c v hc hv => ih k c v hc hv (.inr ((noref_go _ _).1 hp c (List.mem_of_getElem? hc)))) hp
  | snil e t ht => exact fun h => .snil e t (tok (tk h) ht)
  | sodd e a => exact fun _ => .sodd e a
  | slice xs e t b off cap vs hc he hz hl hm hv hp h1 ht ih =>
    intro h
    refine .slice xs e t b off cap vs hc he hz hl (fun k v hk => hM _ _ _ (hm k v hk)) (fun k c v hc hv => ih k c v hc hv (.inr ?_)) hp h1 (tok (tk h) ht)
    have hx : c ∈ cellsOf xs := List.mem_of_getElem? hc
    simp only [cellsOf, List.mem_flatMap] at hx
    obtain ⟨x, hx, hcx⟩ := hx
    have h0 := (noref_go _ _).1 hp x hx
    cases x <;> simp only [AV.cells, List.mem_singleton] at hcx <;> first | (subst hcx; exact h0) | (simp only [noref] at h0; exact (noref_go _ _).1 h0 c hcx)
  | mslice r off len cap e agg hr hc =>
    intro h
    have hm : r < m := by rcases h with h | h <;> simp only [noref, blt_true] at h <;> omega
    rw [← hφ r hm]; exact .mslice r off len cap e agg (Nat.lt_of_lt_of_le hm hN) hc
  | nilmap => exact fun _ => .nilmap
  | map r hr =>
    intro h
    have hm : r < m := by rcases h with h | h <;> simp only [noref, blt_true] at h <;> omega
    rw [← hφ r hm]; exact .map r (Nat.lt_of_lt_of_le hm hN)
  | nilfunc => exact fun _ => .nilfunc
  | func fn as bs vs ws hl hv kl kv ih1 ih2 =>
    intro h
    have h1 : noref.go m as = true ∨ noref.go 0 as = true := by rcases h with h | h <;> simp only [noref, Bool.and_eq_true] at h <;> simp [h.1]
    have h2 : noref.go m bs = true ∨ noref.go 0 bs = true := by rcases h with h | h <;> simp only [noref, Bool.and_eq_true] at h <;> simp [h.2]
    exact .func fn as bs vs ws hl (fun k a v ha hv => ih1 k a v ha hv (lst h1 k a ha)) kl (fun k a v ha hv => ih2 k a v ha hv (lst h2 k a ha))
  | agg as vs hl hv ih =>
    intro h
    have h1 : noref.go m as = true ∨ noref.go 0 as = true := by simpa only [noref] using h
    exact .agg as vs hl (fun k a v ha hv => ih k a v ha hv (lst h1 k a ha))
  | tuple as vs hl hv ih =>
    intro h
    have h1 : noref.go m as = true ∨ noref.go 0 as = true := by simpa only [noref] using h
    exact .tuple as vs hl (fun k a v ha hv => ih k a v ha hv (lst h1 k a ha))
  | niliface => exact fun _ => .niliface
  | iface t v => exact fun _ => .iface t v

theorem cut_go (m : Nat) (cs : List AV) : cut.go m cs = cs.map (cut m) := by
  induction cs with
  | nil => rfl
  | cons c cs ih => simp [cut.go, ih]

theorem VR.tokNone {Φ : Phi} {xs : List AV} {e : Nat} {t : Tok} {v : Value} (h : VR Φ (.slice xs e t) v) : VR Φ (.slice xs e .none) v := by
  cases h with
  | snil e t ht => exact .snil e .none trivial
  | sodd e a => exact .sodd e a
  | slice xs e t b off cap vs hc he hz hl hm hv hp h1 ht => exact .slice xs e .none b off cap vs hc he hz hl hm hv hp h1 trivial

theorem VR.cut {Φ Ψ : Phi} {m : Nat} (hM : ∀ b o v, Φ.M b o = some v → Ψ.M b o = some v) (hφ : ∀ r, r < m → Ψ.φ r = Φ.φ r)
    (hτ : ∀ r n x, r < m → Φ.τ r n = some x → Ψ.τ r n = some x) (hN : m ≤ Ψ.N) {a : AV} {v : Value} (r : VR Φ a v) : VR Ψ (cut m a) v := by
  have dn : ∀ {a v}, VR Φ a v → noref m a = true → VR Ψ a v := fun h hn => h.down hM hφ hτ hN (.inl hn)
  have one : ∀ {a v}, VR Φ a v → VR Ψ (if noref m a = true then a else .undef) v := by
    intro a v h
    split
    · exact dn h ‹_›
    · exact .undef v
  induction r with
  | undef v => simpa only [AM.cut] using one (VR.undef v)
  | bool b => simpa only [AM.cut] using one (VR.bool b)
  | int k n => simpa only [AM.cut] using one (VR.int k n)
  | str s => simpa only [AM.cut] using one (VR.str s)
  | nilptr => simpa only [AM.cut] using one VR.nilptr
  | ptr r o hr => simpa only [AM.cut] using one (VR.ptr r o hr)
  | vptr cs o b off vs hl hm hv hp ih => simpa only [AM.cut] using one (VR.vptr cs o b off vs hl hm hv hp)
  | sodd e a => simpa only [AM.cut] using one (VR.sodd e a)
  | snil e t ht =>
    have h := VR.snil e t ht
    cases t with
    | none => simpa only [AM.cut] using one h
    | exact => simpa only [AM.cut] using one h
    | «at» r =>
      simp only [AM.cut]
      split
      · exact dn h (by simpa only [noref] using ‹_›)
      · exact dn h.tokNone rfl
  | slice xs e t b off cap vs hc he hz hl hm hv hp h1 ht ih =>
    have h := VR.slice xs e t b off cap vs hc he hz hl hm hv hp h1 ht
    cases t with
    | none => simpa only [AM.cut] using one h
    | exact => simpa only [AM.cut] using one h
    | «at» r =>
      simp only [AM.cut]
      split
      · exact dn h (by simpa only [noref] using ‹_›)
      · exact dn h.tokNone rfl
  | mslice r off len cap e agg hr hc => simpa only [AM.cut] using one (VR.mslice r off len cap e agg hr hc)
  | nilmap => simpa only [AM.cut] using one VR.nilmap
  | map r hr => simpa only [AM.cut] using one (VR.map r hr)
  | nilfunc => simpa only [AM.cut] using one VR.nilfunc
  | func fn as bs vs ws hl hv kl kv ih1 ih2 => simpa only [AM.cut] using one (VR.func fn as bs vs ws hl hv kl kv)
  | agg as vs hl hv ih =>
    simp only [AM.cut, cut_go]
    refine .agg _ _ (by simpa using hl) (fun k a v ha hv => ?_)
    rw [List.getElem?_map] at ha
    cases hk : as[k]? with
    | none => rw [hk] at ha; cases ha
    | some c => rw [hk] at ha; cases ha; exact ih k c v hk hv
  | tuple as vs hl hv ih =>
    simp only [AM.cut, cut_go]
    refine .tuple _ _ (by simpa using hl) (fun k a v ha hv => ?_)
    rw [List.getElem?_map] at ha
    cases hk : as[k]? with
    | none => rw [hk] at ha; cases ha
    | some c => rw [hk] at ha; cases ha; exact ih k c v hk hv
  | niliface => simpa only [AM.cut] using one VR.niliface
  | iface t v => simpa only [AM.cut] using one (VR.iface t v)

theorem VRs.cut {Φ Ψ : Phi} {m : Nat} (hM : ∀ b o v, Φ.M b o = some v → Ψ.M b o = some v) (hφ : ∀ r, r < m → Ψ.φ r = Φ.φ r)
    (hτ : ∀ r n x, r < m → Φ.τ r n = some x → Ψ.τ r n = some x) (hN : m ≤ Ψ.N) {as : List AV} {vs : List Value} (r : VRs Φ as vs) : VRs Ψ (as.map (AM.cut m)) vs :=
  ⟨by simpa using r.1, fun k a v ha hv => by
    rw [List.getElem?_map] at ha
    cases hk : as[k]? with
    | none => rw [hk] at ha; cases ha
    | some c => rw [hk] at ha; cases ha; exact (r.2 k c v hk hv).cut hM hφ hτ hN⟩

open Classical in
/-- cells of some blocks may be handed on from now on; m objects are left -/
noncomputable def Phi.share (Φ : Phi) (S : Nat → Prop) (w : World) (m : Nat) : Phi :=
  { Φ with M := (fun b o => match Φ.M b o with
      | some v => some v
      | none => if S b then w.cell? ⟨b, o, none⟩ else none), N := m }

theorem Phi.share_M {Φ : Phi} {S : Nat → Prop} {w : World} {m b o : Nat} {v : Value} (h : Φ.M b o = some v) : (Φ.share S w m).M b o = some v := by
  simp [Phi.share, h]
theorem Phi.share_S {Φ : Phi} {S : Nat → Prop} {w : World} {m b o : Nat} {v : Value} (hb : S b) (hw : w.cell? ⟨b, o, none⟩ = some v) (hm : ∀ u, Φ.M b o = some u → u = v) : (Φ.share S w m).M b o = some v := by
  cases hc : Φ.M b o with
  | some u => simp [Phi.share, hc, hm u hc]
  | none => simp [Phi.share, hc, hb, hw]
theorem Phi.share_none {Φ : Phi} {S : Nat → Prop} {w : World} {m b o : Nat} (hb : ¬ S b) (h : Φ.M b o = none) : (Φ.share S w m).M b o = none := by
  simp [Phi.share, h, hb]
theorem Phi.share_inv {Φ : Phi} {S : Nat → Prop} {w : World} {m b o : Nat} {v : Value} (h : (Φ.share S w m).M b o = some v) : Φ.M b o = some v ∨ (Φ.M b o = none ∧ S b ∧ w.cell? ⟨b, o, none⟩ = some v) := by
  simp only [Phi.share] at h
  split at h
  · rename_i u hu; cases h; exact .inl hu
  · rename_i hu
    split at h
    · exact .inr ⟨hu, ‹_›, h⟩
    · cases h

/-- sharing blocks of objects that are left behind lasts -/
theorem Phi.le_share {Φ : Phi} {S : Nat → Prop} {w : World} (hF : ∀ b, S b → Φ.F b = none) {m : Nat} (hm : Φ.N ≤ m) : Φ.le (Φ.share S w m) where
  M := fun _ _ _ h => Phi.share_M h
  F := rfl
  φ := fun _ _ => rfl
  τ := fun _ _ _ _ h => h
  N := hm
  new := fun b o h1 h2 => by
    cases hc : (Φ.share S w m).M b o with
    | none => exact absurd hc h2
    | some v =>
      rcases Phi.share_inv hc with h | ⟨_, hs, _⟩
      · rw [h1] at h; cases h
      · exact hF b hs
  w0 := rfl

end AM

/- HOW THE RELATION FOLLOWS WHAT IS WRITTEN AND MADE: a new object, a store, a slice that grows. -/
namespace AM
open Go

theorem cell_lt {w : World} {b o : Nat} {v : Value} (h : w.cell? ⟨b, o, none⟩ = some v) : b < w.heap.size := World.block_lt_of_cell? w ⟨b, o, none⟩ h
theorem heap_lt {w : World} {b : Nat} {ob : Go.Obj} (h : w.heap[b]? = some ob) : b < w.heap.size := by
  rcases Nat.lt_or_ge b w.heap.size with h' | h'
  · exact h'
  · rw [Array.getElem?_eq_none h'] at h; cases h
theorem lt_of_get {α : Type} {l : List α} {k : Nat} {x : α} (h : l[k]? = some x) : k < l.length := by
  rcases Nat.lt_or_ge k l.length with h' | h'
  · exact h'
  · rw [List.getElem?_eq_none h'] at h; cases h
theorem cell_of {w w' : World} {b : Nat} (h : w'.heap[b]? = w.heap[b]?) (o : Nat) : w'.cell? ⟨b, o, none⟩ = w.cell? ⟨b, o, none⟩ := by
  simp only [World.cell?, h]
theorem cell_cells {w : World} {b o : Nat} {vs : Array Value} {t : TypeId} {f : Nat × Nat} (h : w.heap[b]? = some (.cells vs t f)) : w.cell? ⟨b, o, none⟩ = vs[o]? := by
  simp [World.cell?, h]
theorem alloc_old {w : World} {o : Go.Obj} {b : Nat} (h : b < w.heap.size) : (w.alloc o).heap[b]? = w.heap[b]? := by
  show (w.heap.push o)[b]? = _
  rw [Array.getElem?_push, if_neg (by omega)]
theorem alloc_new {w : World} {o : Go.Obj} : (w.alloc o).heap[w.heap.size]? = some o := by
  show (w.heap.push o)[w.heap.size]? = _
  rw [Array.getElem?_push, if_pos rfl]

theorem blk_mono {Φ Ψ : Phi} (h : Φ.le Ψ) {r : Nat} (hr : r < Φ.N) {ob : Obj} {b : Nat} (hb : blk Φ r ob = some b) : blk Ψ r ob = some b := by
  cases ob with
  | cells cs => simp only [blk] at hb ⊢; rw [h.φ r hr]; exact hb
  | map es => simp only [blk] at hb ⊢; rw [h.φ r hr]; exact hb
  | dead => simp [blk] at hb
  | tok xs e =>
    simp only [blk] at hb ⊢
    cases hx : Φ.τ r xs.length with
    | none => rw [hx] at hb; cases hb
    | some x => rw [hx] at hb; rw [h.τ _ _ _ hr hx]; exact hb

/-- an object is still what it was where its block is -/
theorem ObjR.move {Φ Ψ : Phi} {w w' : World} {r : Nat} {ob : Obj} (h : Φ.le Ψ) (hr : r < Φ.N) (hτ : ∀ n, Ψ.τ r n = Φ.τ r n)
    (hb : ∀ b, blk Φ r ob = some b → w'.heap[b]? = w.heap[b]? ∧ (∀ o, Φ.M b o = none → Ψ.M b o = none)) (ho : ObjR Φ w r ob) : ObjR Ψ w' r ob := by
  cases ob with
  | dead => trivial
  | cells cs =>
    obtain ⟨vs, t, h1, h2, h3, h4⟩ := ho
    obtain ⟨k1, k2⟩ := hb _ rfl
    refine ⟨vs, t, ?_, h2.mono h, fun o => ?_, ?_⟩
    · rw [h.φ r hr, k1, h1]
    · rw [h.φ r hr]; exact k2 o (h3 o)
    · rw [h.φ r hr, h.F]; exact h4
  | map es =>
    obtain ⟨es', clock, h1, h2, h2', h3, h4⟩ := ho
    obtain ⟨k1, k2⟩ := hb _ rfl
    refine ⟨es', clock, ?_, h2.mono h, h2'.mono h, fun o => ?_, ?_⟩
    · rw [h.φ r hr, k1, h1]
    · rw [h.φ r hr]; exact k2 o (h3 o)
    · rw [h.φ r hr, h.F]; exact h4
  | tok xs e =>
    obtain ⟨a, cap, h1, h2, h3, hm, h4⟩ := ho
    refine ⟨a, cap, h.τ _ _ _ hr h1, h2, h3, fun m hlt => by rw [hτ]; exact hm m hlt, fun hlt => ?_⟩
    obtain ⟨b, had, ⟨vs, t, h5, h6⟩, h7, h8⟩ := h4 hlt
    obtain ⟨k1, k2⟩ := hb b (by simp [blk, h1, hlt, had])
    exact ⟨b, had, ⟨vs, t, by rw [k1, h5], h6⟩, fun o ho => k2 o (h7 o ho), by rw [h.F]; exact h8⟩

/-- the block of a live object lies in the world -/
theorem ObjR.lt {Φ : Phi} {w : World} {r : Nat} {ob : Obj} (ho : ObjR Φ w r ob) {b : Nat} (hb : blk Φ r ob = some b) : b < w.heap.size := by
  cases ob with
  | dead => cases hb
  | cells cs => obtain ⟨vs, t, h1, _⟩ := ho; cases hb; exact heap_lt h1
  | map es => obtain ⟨es', clock, h1, _⟩ := ho; cases hb; exact heap_lt h1
  | tok xs e =>
    obtain ⟨a, cap, h1, h2, h3, _, h4⟩ := ho
    simp only [blk, h1, Option.bind_some] at hb
    split at hb
    · rename_i hlt
      obtain ⟨b', had, ⟨vs, t, h5, _⟩, _⟩ := h4 hlt
      rw [had] at hb; cases hb; exact heap_lt h5
    · cases hb

theorem ObjR.F {Φ : Phi} {w : World} {r : Nat} {ob : Obj} (ho : ObjR Φ w r ob) {b : Nat} (hb : blk Φ r ob = some b) : Φ.F b = none := by
  cases ob with
  | dead => cases hb
  | cells cs => obtain ⟨vs, t, h1, h2, h3, h4⟩ := ho; cases hb; exact h4
  | map es => obtain ⟨es', clock, h1, h2, h2', h3, h4⟩ := ho; cases hb; exact h4
  | tok xs e =>
    obtain ⟨a, cap, h1, h2, h3, _, h4⟩ := ho
    simp only [blk, h1, Option.bind_some] at hb
    split at hb
    · rename_i hlt
      obtain ⟨b', had, _, _, h8⟩ := h4 hlt
      rw [had] at hb; cases hb; exact h8
    · cases hb

theorem blk_back {Φ Ψ : Phi} {h : List Obj} {w : World} (hw : WR Φ h w) (hle : Φ.le Ψ) {r : Nat} {x : Obj} {b : Nat} (hr : h[r]? = some x) (hx : blk Ψ r x = some b) : blk Φ r x = some b := by
  have hrN : r < Φ.N := hw.len ▸ lt_of_get hr
  cases x with
  | cells cs => simp only [blk] at hx ⊢; rw [← hle.φ r hrN]; exact hx
  | map es => simp only [blk] at hx ⊢; rw [← hle.φ r hrN]; exact hx
  | dead => cases hx
  | tok xs e =>
    obtain ⟨a, cap, h1, _⟩ := hw.obj r _ hr
    simp only [blk] at hx ⊢
    rw [hle.τ _ _ _ hrN h1] at hx; rw [h1]; exact hx

/-- nothing that is held has turned -/
theorem WR.same {Φ Ψ : Phi} {h : List Obj} {w w' : World} (hw : WR Φ h w) (hle : Φ.le Ψ) (hN : Ψ.N = Φ.N) (hτ : ∀ r n, Ψ.τ r n = Φ.τ r n)
    (hb : ∀ b, (∃ o v, Φ.M b o = some v) ∨ (∃ ob, Φ.F b = some ob) ∨ (∃ r ob, h[r]? = some ob ∧ blk Φ r ob = some b) → w'.heap[b]? = w.heap[b]?)
    (hM : ∀ b o v, Ψ.M b o = some v → Φ.M b o = some v ∨ (w'.cell? ⟨b, o, none⟩ = some v ∧ ∀ r ob, h[r]? = some ob → blk Φ r ob ≠ some b))
    (hs : w'.os = w.os ∧ w'.tape = w.tape ∧ w'.output = w.output) : WR Ψ h w' where
  len := by rw [hN]; exact hw.len
  mem := fun b o v hv => by
    rcases hM b o v hv with h1 | h1
    · rw [cell_of (hb b (.inl ⟨o, v, h1⟩))]; exact hw.mem b o v h1
    · exact h1.1
  frz := fun b ob hf => by rw [hle.F] at hf; rw [hb b (.inr (.inl ⟨ob, hf⟩))]; exact hw.frz b ob hf
  obj := fun r ob hr => by
    have hrN : r < Φ.N := hw.len ▸ lt_of_get hr
    refine (hw.obj r ob hr).move hle hrN (hτ r) (fun b hbk => ⟨hb b (.inr (.inr ⟨r, ob, hr, hbk⟩)), fun o ho => ?_⟩)
    cases hc : Ψ.M b o with
    | none => rfl
    | some v =>
      rcases hM b o v hc with h1 | h1
      · rw [ho] at h1; cases h1
      · exact absurd hbk (h1.2 r ob hr)
  inj := fun r s x y b hr hs hx hy => hw.inj r s x y b hr hs (blk_back hw hle hr hx) (blk_back hw hle hs hy)
  str := by rw [hs.1, hs.2.1, hs.2.2, hle.w0]; exact hw.str
  tab := fun g k v h => hle.M _ _ _ (hw.tab g k v h)

/-- a draw -/
theorem WR.drew {Φ : Phi} {h : List Obj} {w : World} (hw : WR Φ h w) : WR Φ h w.drew :=
  hw.same (Phi.le.refl Φ) rfl (fun _ _ => rfl) (fun _ _ => rfl) (fun _ _ _ h => .inl h) ⟨rfl, rfl, rfl⟩

/-- one object more, in block b -/
def Phi.new (Φ : Phi) (b : Nat) : Phi := { Φ with φ := (fun r => if r = Φ.N then b else Φ.φ r), N := Φ.N + 1 }
theorem Phi.le_new (Φ : Phi) (b : Nat) : Φ.le (Φ.new b) where
  M := fun _ _ _ h => h
  F := rfl
  φ := fun r hr => by simp only [Phi.new]; rw [if_neg (by omega)]
  τ := fun _ _ _ _ h => h
  N := by simp [Phi.new]
  new := fun b o h k => absurd h k
  w0 := rfl
theorem Phi.new_φ (Φ : Phi) (b : Nat) : (Φ.new b).φ Φ.N = b := by simp [Phi.new]

/-- one token more -/
def Phi.newT (Φ : Phi) (n : Nat) (x : Option Addr × Nat) : Phi := { Φ with τ := (fun r m => if r = Φ.N then (if m = n then some x else none) else Φ.τ r m), N := Φ.N + 1 }
theorem Phi.le_newT (Φ : Phi) (n : Nat) (x : Option Addr × Nat) : Φ.le (Φ.newT n x) where
  M := fun _ _ _ h => h
  F := rfl
  φ := fun _ _ => rfl
  τ := fun r m y hr h => by simp only [Phi.newT]; rw [if_neg (by omega)]; exact h
  N := by simp [Phi.newT]
  new := fun b o h k => absurd h k
  w0 := rfl
theorem Phi.newT_τ (Φ : Phi) (n : Nat) (x : Option Addr × Nat) : (Φ.newT n x).τ Φ.N n = some x := by simp [Phi.newT]

/-- memory more that may be handed on -/
def Phi.addM (Φ : Phi) (b off : Nat) (vs : List Value) : Phi :=
  { Φ with M := (fun b' o => if b' = b ∧ off ≤ o ∧ o < off + vs.length then vs[o - off]? else Φ.M b' o) }
theorem Phi.addM_at {Φ : Phi} {b off : Nat} {vs : List Value} {k : Nat} {v : Value} (h : vs[k]? = some v) : (Φ.addM b off vs).M b (off + k) = some v := by
  have := lt_of_get h
  simp only [Phi.addM]
  rw [if_pos ⟨trivial, by omega, by omega⟩, show off + k - off = k by omega, h]
theorem Phi.addM_inv {Φ : Phi} {b off : Nat} {vs : List Value} {b' o : Nat} {v : Value} (h : (Φ.addM b off vs).M b' o = some v) : (b' = b ∧ off ≤ o ∧ vs[o - off]? = some v) ∨ (Φ.M b' o = some v ∧ ¬ (b' = b ∧ off ≤ o ∧ o < off + vs.length)) := by
  simp only [Phi.addM] at h
  split at h
  · rename_i hc; exact .inl ⟨hc.1, hc.2.1, h⟩
  · rename_i hc; exact .inr ⟨h, hc⟩
theorem Phi.le_addM {Φ : Phi} {b off : Nat} {vs : List Value} (hn : ∀ o, off ≤ o → o < off + vs.length → Φ.M b o = none) (hF : Φ.F b = none) : Φ.le (Φ.addM b off vs) where
  M := fun b' o v h => by
    simp only [Phi.addM]
    split
    · rename_i hc; rw [hc.1, hn o hc.2.1 hc.2.2] at h; cases h
    · exact h
  F := rfl
  φ := fun _ _ => rfl
  τ := fun _ _ _ _ h => h
  N := Nat.le_refl _
  new := fun b' o h k => by
    simp only [Phi.addM] at k
    split at k
    · rename_i hc; rw [hc.1]; exact hF
    · exact absurd h k
  w0 := rfl

theorem newT_none {Φ : Phi} {m : Nat} {x : Option Addr × Nat} {n : Nat} (h : n < m) : (Φ.newT n x).τ Φ.N m = none := by
  have h0 : m ≠ n := by omega
  simp [Phi.newT, h0]

/-- nothing is held in a block that is not there -/
theorem WR.fresh {Φ : Phi} {h : List Obj} {w : World} (hw : WR Φ h w) : (∀ o, Φ.M w.heap.size o = none) ∧ Φ.F w.heap.size = none ∧ (∀ r ob, h[r]? = some ob → blk Φ r ob ≠ some w.heap.size) := by
  refine ⟨fun o => ?_, ?_, fun r ob hr hb => ?_⟩
  · cases hc : Φ.M w.heap.size o with
    | none => rfl
    | some v => have := cell_lt (hw.mem _ _ _ hc); omega
  · cases hc : Φ.F w.heap.size with
    | none => rfl
    | some v => have := heap_lt (hw.frz _ _ hc); omega
  · have := (hw.obj r ob hr).lt hb; omega

theorem WR.held_lt {Φ : Phi} {h : List Obj} {w : World} (hw : WR Φ h w) {b : Nat} (hb : (∃ o v, Φ.M b o = some v) ∨ (∃ ob, Φ.F b = some ob) ∨ (∃ r ob, h[r]? = some ob ∧ blk Φ r ob = some b)) : b < w.heap.size := by
  rcases hb with ⟨o, v, h⟩ | ⟨ob, h⟩ | ⟨r, ob, h, k⟩
  · exact cell_lt (hw.mem _ _ _ h)
  · exact heap_lt (hw.frz _ _ h)
  · exact (hw.obj r ob h).lt k

/-- a new block that no object is -/
theorem WR.alloc {Φ : Phi} {h : List Obj} {w : World} (hw : WR Φ h w) (o : Go.Obj) : WR Φ h (w.alloc o) :=
  hw.same (Phi.le.refl Φ) rfl (fun _ _ => rfl) (fun _ hb => alloc_old (hw.held_lt hb)) (fun _ _ _ h => .inl h) ⟨rfl, rfl, rfl⟩

/-- one object more: what was, and the new one -/
theorem WR.more {Φ Ψ : Phi} {h : List Obj} {w : World} (hw : WR Φ h w) (hle : Φ.le Ψ) (hN : Ψ.N = Φ.N + 1) (hM : Ψ.M = Φ.M) (hτ : ∀ r n, r < Φ.N → Ψ.τ r n = Φ.τ r n) {ob : Obj} (ho : ObjR Ψ w Φ.N ob)
    (hb : ∀ b, blk Ψ Φ.N ob = some b → ∀ r x, h[r]? = some x → blk Φ r x ≠ some b) : WR Ψ (h ++ [ob]) w where
  len := by rw [hN]; simp [hw.len]
  mem := fun b o v hv => hw.mem b o v (by rw [← hM]; exact hv)
  frz := fun b ob hf => hw.frz b ob (by rw [← hle.F]; exact hf)
  obj := fun r x hr => by
    rw [List.getElem?_append] at hr
    split at hr
    · have hrN : r < Φ.N := hw.len ▸ lt_of_get hr
      exact (hw.obj r x hr).move hle hrN (fun n => hτ r n hrN) (fun b _ => ⟨rfl, fun o ho => by rw [hM]; exact ho⟩)
    · rename_i hlt
      have hr' : r - h.length = 0 := by
        have := lt_of_get hr; simp at this; omega
      rw [hr'] at hr
      have hrr : r = Φ.N := by rw [← hw.len]; omega
      simp at hr; subst hr; subst hrr; exact ho
  inj := fun r s x y b hr hs hx hy => by
    have hlen := hw.len
    have back : ∀ (r : Nat) (x : Obj), h[r]? = some x → blk Ψ r x = some b → blk Φ r x = some b := fun r x hr hx => blk_back hw hle hr hx
    rw [List.getElem?_append] at hr hs
    split at hr <;> split at hs
    · exact hw.inj r s x y b hr hs (back r x hr hx) (back s y hs hy)
    · rename_i h1 h2
      have : s - h.length = 0 := by have := lt_of_get hs; simp at this; omega
      rw [this] at hs; simp at hs; subst hs
      have hs' : s = Φ.N := by omega
      subst hs'
      exact absurd (back r x hr hx) (hb b hy r x hr)
    · rename_i h1 h2
      have : r - h.length = 0 := by have := lt_of_get hr; simp at this; omega
      rw [this] at hr; simp at hr; subst hr
      have hr' : r = Φ.N := by omega
      subst hr'
      exact absurd (back s y hs hy) (hb b hx s y hs)
    · rename_i h1 h2
      have := lt_of_get hr; have := lt_of_get hs; simp at *; omega
  str := by rw [hle.w0]; exact hw.str
  tab := fun g k v h => hle.M _ _ _ (hw.tab g k v h)

/-- a new block of cells that is an object -/
theorem WR.newCells {Φ : Phi} {h : List Obj} {w : World} (hw : WR Φ h w) {cs : List AV} {vs : Array Value} (hc : VRs Φ cs vs.toList) (t : TypeId) :
    WR (Φ.new w.heap.size) (h ++ [.cells cs]) (w.alloc (.cells vs t)) := by
  refine (hw.alloc _).more (Φ.le_new _) rfl rfl (fun _ _ _ => rfl) ?_ ?_
  · refine ⟨vs, t, ?_, hc.mono (Φ.le_new _), ?_, ?_⟩
    · rw [Phi.new_φ]; exact alloc_new
    · rw [Phi.new_φ]; exact hw.fresh.1
    · rw [Phi.new_φ]; exact hw.fresh.2.1
  · intro b hb r x hr
    simp only [blk, Phi.new_φ, Option.some.injEq] at hb
    subst hb
    exact hw.fresh.2.2 r x hr

theorem WR.newMap {Φ : Phi} {h : List Obj} {w : World} (hw : WR Φ h w) : WR (Φ.new w.heap.size) (h ++ [.map []]) (w.alloc (.map #[] 0)) := by
  refine (hw.alloc _).more (Φ.le_new _) rfl rfl (fun _ _ _ => rfl) ?_ ?_
  · refine ⟨#[], 0, ?_, VRs.nil, VRs.nil, ?_, ?_⟩
    · rw [Phi.new_φ]; exact alloc_new
    · rw [Phi.new_φ]; exact hw.fresh.1
    · rw [Phi.new_φ]; exact hw.fresh.2.1
  · intro b hb r x hr
    simp only [blk, Phi.new_φ, Option.some.injEq] at hb
    subst hb
    exact hw.fresh.2.2 r x hr

/-- a token for a nil slice -/
theorem WR.newTok {Φ : Phi} {h : List Obj} {w : World} (hw : WR Φ h w) {e : Nat} (he : e ≠ 0) : WR (Φ.newT 0 (none, 0)) (h ++ [.tok [] e]) w := by
  refine hw.more (Φ.le_newT _ _) rfl rfl (fun r n hr => by simp only [Phi.newT]; rw [if_neg (by omega)]) ⟨none, 0, Phi.newT_τ _ _ _, Nat.le_refl _, he, fun m hm => newT_none hm, fun h => by simp at h⟩ ?_
  intro b hb
  simp [blk, Phi.newT] at hb

/-- an object is another one, and nothing else has turned -/
theorem WR.upd {Φ Ψ : Phi} {h : List Obj} {w w' : World} {r : Nat} {x y : Obj} (hw : WR Φ h w) (hle : Φ.le Ψ) (hN : Ψ.N = Φ.N) (hr : h[r]? = some x) (hτ : ∀ s n, s ≠ r → Ψ.τ s n = Φ.τ s n)
    (mem : ∀ b o v, Ψ.M b o = some v → w'.cell? ⟨b, o, none⟩ = some v) (frz : ∀ b ob, Φ.F b = some ob → w'.heap[b]? = w.heap[b]?)
    (oth : ∀ s z b, s ≠ r → h[s]? = some z → blk Φ s z = some b → w'.heap[b]? = w.heap[b]? ∧ (∀ o, Φ.M b o = none → Ψ.M b o = none))
    (ho : ObjR Ψ w' r y) (hinj : ∀ b, blk Ψ r y = some b → ∀ s z, s ≠ r → h[s]? = some z → blk Φ s z ≠ some b)
    (hs : w'.os = w.os ∧ w'.tape = w.tape ∧ w'.output = w.output) : WR Ψ (h.set r y) w' where
  len := by simp [hw.len, hN]
  mem := mem
  frz := fun b ob hf => by rw [hle.F] at hf; rw [frz b ob hf]; exact hw.frz b ob hf
  obj := fun s z hz => by
    rw [List.getElem?_set] at hz
    split at hz
    · rename_i hs; subst hs
      split at hz
      · cases hz; exact ho
      · cases hz
    · rename_i hne
      have hsN : s < Φ.N := hw.len ▸ lt_of_get hz
      exact (hw.obj s z hz).move hle hsN (fun n => hτ s n (fun e => hne e.symm)) (fun b hbk => oth s z b (fun e => hne e.symm) hz hbk)
  inj := fun s u z z' b hs hu hz hz' => by
    rw [List.getElem?_set] at hs hu
    split at hs <;> split at hu
    · rename_i h1 h2; omega
    · rename_i h1 h2; subst h1
      split at hs
      · cases hs
        exact absurd (blk_back hw hle hu hz') (hinj b hz u z' (fun e => h2 e.symm) hu)
      · cases hs
    · rename_i h1 h2; subst h2
      split at hu
      · cases hu
        exact absurd (blk_back hw hle hs hz) (hinj b hz' s z (fun e => h1 e.symm) hs)
      · cases hu
    · exact hw.inj s u z z' b hs hu (blk_back hw hle hs hz) (blk_back hw hle hu hz')
  str := by rw [hs.1, hs.2.1, hs.2.2, hle.w0]; exact hw.str
  tab := fun g k v h => hle.M _ _ _ (hw.tab g k v h)

/-- an object's block is written to -/
theorem WR.write {Φ : Phi} {h : List Obj} {w : World} (hw : WR Φ h w) {r : Nat} {x y : Obj} (hr : h[r]? = some x) (hx : blk Φ r x = some (Φ.φ r)) (hy : blk Φ r y = some (Φ.φ r))
    {w' : World} (hb : ∀ b, b ≠ Φ.φ r → w'.heap[b]? = w.heap[b]?) (ho : ObjR Φ w' r y) (hM : ∀ o, Φ.M (Φ.φ r) o = none)
    (hs : w'.os = w.os ∧ w'.tape = w.tape ∧ w'.output = w.output) : WR Φ (h.set r y) w' := by
  refine hw.upd (Phi.le.refl Φ) rfl hr (fun _ _ _ => rfl) (fun b o v hv => ?_) (fun b ob hf => ?_) (fun s z b hne hz hbk => ⟨hb b ?_, fun _ h => h⟩) ho (fun b hbk s z hne hz hzb => ?_) hs
  · have hne : b ≠ Φ.φ r := by rintro rfl; rw [hM] at hv; cases hv
    rw [cell_of (hb b hne)]; exact hw.mem b o v hv
  · exact hb b (by rintro rfl; rw [(hw.obj r x hr).F hx] at hf; cases hf)
  · rintro rfl; exact hne (hw.inj s r z x _ hz hr hbk hx)
  · rw [hy] at hbk; cases hbk; exact hne (hw.inj s r z x _ hz hr hzb hx)

/-- a token's slice lies elsewhere, or is longer -/
def Phi.setT (Φ : Phi) (r n : Nat) (x : Option Addr × Nat) : Phi := { Φ with τ := (fun s m => if s = r ∧ m = n then some x else Φ.τ s m) }
theorem Phi.le_setT {Φ : Phi} {r n : Nat} {x : Option Addr × Nat} (hn : ∀ y, Φ.τ r n = some y → y = x) : Φ.le (Φ.setT r n x) where
  M := fun _ _ _ h => h
  F := rfl
  φ := fun _ _ => rfl
  τ := fun s m y hs h => by
    simp only [Phi.setT]
    split
    · rename_i hc; rw [hc.1, hc.2] at h; rw [hn y h]
    · exact h
  N := Nat.le_refl _
  new := fun b o h k => absurd h k
  w0 := rfl
theorem Phi.setT_at {Φ : Phi} {r n : Nat} {x : Option Addr × Nat} : (Φ.setT r n x).τ r n = some x := by simp [Phi.setT]

end AM

/- WHAT THE MACHINE KNOWS OF TYPES, AND OPERANDS. -/
namespace AM
open Go

def aggP (P : Program) (t : TypeId) : Bool := match P.underlying t with
  | some (.struct _) | some (.array _ _) => true
  | _ => false

/-- cells that any world has -/
def Zr (zs : List AV) (z : Value) : Prop := ∀ Φ, VRs Φ zs z.cells.toList

def kindT (P : Program) (t : TypeId) : PK → Prop
  | .bool => P.underlying t = some .bool
  | .int => ∃ k, P.underlying t = some (.int k)
  | .str => P.underlying t = some .string

/-- a struct type whose fields are plain, one cell each -/
def PlainS (P : Program) (t : TypeId) (fields : Array Field) (ps : List PK) : Prop :=
  P.stoodInHeld t = false ∧ P.eqGuardType P.depth t = false ∧ fields.size = ps.length ∧
    ∀ (k : Nat) f p, fields[k]? = some f → ps[k]? = some p → f.offset = k ∧ (f.name ≠ "_") ∧ kindT P f.type p

def KeyR (P : Program) (k : TypeId) : Keys → Prop
  | .one p => kindT P k p
  | .fields ps => ∃ fields, P.underlying k = some (.struct fields) ∧ PlainS P k fields ps

def TDK (P : Program) (t : TypeId) : TD → Prop
  | .bool => P.underlying t = some .bool
  | .int k => P.underlying t = some (.int k)
  | .str => P.underlying t = some .string
  | .ptr => ∃ e, P.underlying t = some (.pointer e)
  | .func => ∃ ps rs v, P.underlying t = some (.func ps rs v)
  | .iface => ∃ ms, P.underlying t = some (.interface ms)
  | .slice esz agg eb zs => ∃ e ie iz, P.underlying t = some (.slice e) ∧ P.info? e = some ie ∧ ie.size = esz ∧ ie.bytes = eb ∧ ie.zero = some iz ∧ Zr zs iz ∧ zs.length = esz ∧
      aggP P e = agg ∧ (P.underlying e).isSome ∧ (zs = [.int .u8 0] → P.underlying e = some (.int .u8))
  | .map ks vagg zs => ∃ k e ie iz, P.underlying t = some (.map k e) ∧ P.info? e = some ie ∧ ie.zero = some iz ∧ (∀ Φ z, ofCells vagg zs = some z → VR Φ z iz) ∧ KeyR P k ks
  | .struct cmp _ fs _ => ∃ fields, P.underlying t = some (.struct fields) ∧ fs = fields.toList.map (fun f => (f.offset, P.cellsOf f.type, aggP P f.type)) ∧
      (∀ f ∈ fields, (P.info? f.type).isSome ∧ (P.underlying f.type).isSome) ∧ (∀ ps, cmp = some ps → PlainS P t fields ps)
  | .array n esz agg _ => ∃ e ie, P.underlying t = some (.array n e) ∧ P.info? e = some ie ∧ ie.size = esz ∧ aggP P e = agg ∧ (P.underlying e).isSome

structure TDR (P : Program) (t : TypeId) (d : TD) : Prop where
  info : ∃ i z, P.info? t = some i ∧ i.size = d.size ∧ i.zero = some z ∧ Zr d.zero z ∧ d.zero.length = d.size
  und : (P.underlying t).isSome
  agg : aggP P t = d.isAgg
  kind : TDK P t d

section
variable {P : Program}

theorem und_of {t : TypeId} {d : TD} (h : TDR P t d) : ∃ u, P.underlying t = some u := Option.isSome_iff_exists.1 h.und

theorem run_isAgg {t : TypeId} {u : TypeDesc} (h : P.underlying t = some u) (w : World) : (isAgg t).run P w = .ok (aggP P t) w := by
  unfold isAgg
  simp only [Sem.run_bind, run_underlying h, Result.andThen_ok, aggP, h]
  cases u <;> rfl

theorem run_sizeT {t : TypeId} {i : TypeInfo} (h : P.info? t = some i) (w : World) : (Go.sizeOf t).run P w = .ok i.size w := by
  simp [Go.sizeOf, typeInfo, h]

theorem run_zero {t : TypeId} {i : TypeInfo} {z : Value} (h : P.info? t = some i) (hz : i.zero = some z) (w : World) : (zeroValue t).run P w = .ok z w := by
  simp [zeroValue, typeInfo, h, hz]

theorem run_info {t : TypeId} {i : TypeInfo} (h : P.info? t = some i) (w : World) : (typeInfo t).run P w = .ok i w := by
  simp [typeInfo, h]
end

theorem ofConst1_R (Φ : Phi) (v : Value) : VR Φ (ofConst1 v) v := by
  cases v with
  | bool b => exact .bool b
  | int k n => exact .int k n
  | string s => exact .str s
  | pointer a => cases a with
    | none => exact .nilptr
    | some a => exact .undef _
  | slice a l c => cases a with
    | none =>
      cases l with
      | zero => cases c with
        | zero => exact .snil 0 .exact rfl
        | succ c => exact .undef _
      | succ l => exact .undef _
    | some a => exact .undef _
  | map r => cases r with
    | none => exact .nilmap
    | some r => exact .undef _
  | nilFunc => exact .nilfunc
  | nilIface => exact .niliface
  | _ => exact .undef _

theorem ofConst_R (Φ : Phi) (v : Value) : VR Φ (ofConst v) v := by
  have h := ofConst1_R Φ v
  cases v with
  | agg cs =>
    refine .agg _ _ (by simp) (fun k a u ha hu => ?_)
    rw [List.getElem?_map, hu] at ha
    cases ha
    exact ofConst1_R Φ u
  | _ => exact h

theorem tmp_R {Φ : Phi} {t : List AV} {a : Act} (ht : VRs Φ t a.tmps.toList) (n : Nat) : VR Φ (t.getD n .undef) (a.tmps.getD n undef) := by
  cases hn : t[n]? with
  | none => rw [List.getD, hn]; exact .undef _
  | some x =>
    obtain ⟨v, hv, hr⟩ := ht.get hn
    rw [List.getD, hn]
    have hv' : a.tmps[n]? = some v := by simpa using hv
    rw [Array.getD_eq_getD_getElem?, hv']
    exact hr

theorem noref_const1 (v : Value) : noref 0 (ofConst1 v) = true := by
  unfold ofConst1
  split <;> simp [noref]

theorem noref_consts : ∀ vs : List Value, noref.go 0 (vs.map ofConst1) = true
  | [] => rfl
  | v :: vs => by
    simp only [List.map_cons, noref.go, noref_const1, noref_consts vs, Bool.and_self]

/-- the tables are held -/
def TabR (Φ : Phi) : Prop := ∀ g k v, table g k = some v → Φ.M g k = some v

theorem glob_R {Φ : Phi} (hT : TabR Φ) (t : List AV) (g : Nat) : VR Φ (opnd t (.global g)) (.pointer (some ⟨g, 0, none⟩)) := by
  simp only [opnd]
  split
  · exact .undef _
  · rename_i vs hne
    refine .vptr (vs := tabG g) _ 0 g 0 (by simp) (fun k v hk => ?_) (fun k c v hc hv => ?_) (noref_consts _)
    · rw [Nat.zero_add]; exact hT g k v hk
    · rw [List.getElem?_map, hv] at hc
      cases hc
      exact ofConst1_R Φ v

theorem opnd_R {Φ : Phi} (hT : TabR Φ) {t : List AV} {a : Act} (ht : VRs Φ t a.tmps.toList) (x : Operand) : VR Φ (opnd t x) (a.eval x) := by
  cases x with
  | tmp n => exact tmp_R ht n
  | const v => exact ofConst_R Φ v
  | global g => exact glob_R hT t g
  | func f => exact .func _ _ _ _ _ rfl (fun k a v h => by simp at h) rfl (fun k a v h => by simp at h)

theorem opnds_R {Φ : Phi} (hT : TabR Φ) {t : List AV} {a : Act} (ht : VRs Φ t a.tmps.toList) (xs : List Operand) : VRs Φ (xs.map (opnd t)) (xs.map a.eval) := by
  induction xs with
  | nil => exact .nil
  | cons x xs ih => exact .cons (opnd_R hT ht x) ih

/-- the cells of related values are related -/
theorem cells_R {Φ : Phi} {x : AV} {v : Value} (h : VR Φ x v) (hx : x.cells.all AV.one = true) : VRs Φ x.cells v.cells.toList ∧ ∀ u ∈ v.cells.toList, u.oneCell' = true := by
  have one : ∀ {x v}, VR Φ x v → x.one = true → v.oneCell' = true := by
    intro x v h h1
    cases h <;> first | rfl | (simp [AV.one] at h1)
  cases h with
  | agg as vs hl hv =>
    refine ⟨⟨hl, hv⟩, fun u hu => ?_⟩
    obtain ⟨a, ha, har⟩ := VRs.mem ⟨hl, hv⟩ hu
    exact one har (List.all_eq_true.1 hx a ha)
  | undef v => simp [AV.cells, AV.one] at hx
  | tuple as vs hl hv => simp [AV.cells, AV.one] at hx
  | bool b => exact ⟨.cons (.bool b) .nil, fun u hu => by simp [Value.cells] at hu; subst hu; rfl⟩
  | int k n => exact ⟨.cons (.int k n) .nil, fun u hu => by simp [Value.cells] at hu; subst hu; rfl⟩
  | str s => exact ⟨.cons (.str s) .nil, fun u hu => by simp [Value.cells] at hu; subst hu; rfl⟩
  | nilptr => exact ⟨.cons .nilptr .nil, fun u hu => by simp [Value.cells] at hu; subst hu; rfl⟩
  | ptr r o hr => exact ⟨.cons (.ptr r o hr) .nil, fun u hu => by simp [Value.cells] at hu; subst hu; rfl⟩
  | vptr cs o b off vs hl hm hv hp => exact ⟨.cons (.vptr cs o b off vs hl hm hv hp) .nil, fun u hu => by simp [Value.cells] at hu; subst hu; rfl⟩
  | snil e t ht => exact ⟨.cons (.snil e t ht) .nil, fun u hu => by simp [Value.cells] at hu; subst hu; rfl⟩
  | sodd e a => exact ⟨.cons (.sodd e a) .nil, fun u hu => by simp [Value.cells] at hu; subst hu; rfl⟩
  | slice xs e t b off cap vs hc he hz hl hm hv hp h1 ht => exact ⟨.cons (.slice xs e t b off cap vs hc he hz hl hm hv hp h1 ht) .nil, fun u hu => by simp [Value.cells] at hu; subst hu; rfl⟩
  | mslice r off len cap e agg hr hc => exact ⟨.cons (.mslice r off len cap e agg hr hc) .nil, fun u hu => by simp [Value.cells] at hu; subst hu; rfl⟩
  | nilmap => exact ⟨.cons .nilmap .nil, fun u hu => by simp [Value.cells] at hu; subst hu; rfl⟩
  | map r hr => exact ⟨.cons (.map r hr) .nil, fun u hu => by simp [Value.cells] at hu; subst hu; rfl⟩
  | nilfunc => exact ⟨.cons .nilfunc .nil, fun u hu => by simp [Value.cells] at hu; subst hu; rfl⟩
  | func fn as bs vs ws hl hv kl kv => exact ⟨.cons (.func fn as bs vs ws hl hv kl kv) .nil, fun u hu => by simp [Value.cells] at hu; subst hu; rfl⟩
  | niliface => exact ⟨.cons .niliface .nil, fun u hu => by simp [Value.cells] at hu; subst hu; rfl⟩
  | iface t v => exact ⟨.cons (.iface t v) .nil, fun u hu => by simp [Value.cells] at hu; subst hu; rfl⟩

/-- a variable's value out of related cells -/
theorem ofCells_R {Φ : Phi} {agg : Bool} {cs : List AV} {vs : List Value} {x : AV} (h : VRs Φ cs vs) (hx : ofCells agg cs = some x) :
    VR Φ x (if agg then .agg vs.toArray else vs.getD 0 undef) := by
  unfold ofCells at hx
  cases agg with
  | true => simp only [if_true] at hx ⊢; cases hx; exact .agg _ _ (by simpa using h.1) (by simpa using h.2)
  | false =>
    simp only [Bool.false_eq_true, if_false] at hx ⊢
    split at hx
    · cases hx
      obtain ⟨v, us, rfl, h1, h2⟩ := h.inv_cons
      exact h1
    · cases hx

theorem window_R {Φ : Phi} {cs ds : List AV} {vs : List Value} {off n : Nat} (h : VRs Φ cs vs) (hw : window cs off n = some ds) : off + n ≤ vs.length ∧ VRs Φ ds ((vs.drop off).take n) := by
  unfold window at hw
  split at hw
  · cases hw; exact ⟨by rw [← h.1]; assumption, (h.drop off).take n⟩
  · cases hw

theorem put_R {Φ : Phi} {cs ds es : List AV} {vs us : List Value} {off : Nat} (h : VRs Φ cs vs) (hd : VRs Φ ds us) (hp : put cs off ds = some es) :
    off + us.length ≤ vs.length ∧ VRs Φ es (vs.take off ++ us ++ vs.drop (off + us.length)) := by
  unfold put at hp
  split at hp
  · cases hp
    refine ⟨by rw [← h.1, ← hd.1]; assumption, ?_⟩
    rw [List.append_assoc]
    exact (h.take off).append (hd.append (by rw [hd.1]; exact h.drop _))
  · cases hp

end AM

/- EACH OPERATION: what the abstract machine computes, the model computes. -/
namespace AM
open Go

/-- the operation runs, to a related value, in a related world -/
def Ran (P : Program) (Φ : Phi) (w : World) (s : Sem Next) (v : AV) (h' : List Obj) : Prop :=
  ∃ Ψ w', Φ.le Ψ ∧ WR Ψ h' w' ∧ ((∃ v', s.run P w = .ok (.value v') w' ∧ VR Ψ v v') ∨ (s.run P w = .ok .skip w' ∧ v = .tuple []))

section
variable {P : Program} {Φ : Phi} {h : List Obj} {w : World}

theorem ran_pure {s : Sem Next} {v : AV} {v' : Value} (hw : WR Φ h w) (hr : s.run P w = .ok (.value v') w) (hv : VR Φ v v') : Ran P Φ w s v h :=
  ⟨Φ, w, .refl Φ, hw, .inl ⟨v', hr, hv⟩⟩

theorem ran_val {s : Sem Value} {v : AV} {v' : Value} (hw : WR Φ h w) (hr : s.run P w = .ok v' w) (hv : VR Φ v v') : Ran P Φ w (do pure (.value (← s))) v h :=
  ran_pure hw (by simp [hr]) hv

theorem ran_new {Ψ : Phi} {h' : List Obj} {w' : World} {s : Sem Value} {v : AV} {v' : Value} (hle : Φ.le Ψ) (hw : WR Ψ h' w') (hr : s.run P w = .ok v' w') (hv : VR Ψ v v') :
    Ran P Φ w (do pure (.value (← s))) v h' := ⟨Ψ, w', hle, hw, .inl ⟨v', by simp [hr], hv⟩⟩

theorem ran_skip {Ψ : Phi} {h' : List Obj} {w' : World} {s : Sem Unit} (hle : Φ.le Ψ) (hw : WR Ψ h' w') (hr : s.run P w = .ok () w') :
    Ran P Φ w (do s; pure .skip) (.tuple []) h' := ⟨Ψ, w', hle, hw, .inr ⟨by simp [hr], rfl⟩⟩

theorem size_one {d : TD} (h : d.isAgg = false) : d.size = 1 := by cases d <;> first | rfl | cases h

theorem run_loadVar {t : TypeId} {d : TD} (hd : TDR P t d) {b off : Nat} {vs : List Value} (hl : vs.length = d.size)
    (hc : ∀ k v, vs[k]? = some v → w.cell? ⟨b, off + k, none⟩ = some v) :
    (loadVar t ⟨b, off, none⟩).run P w = .ok (if d.isAgg then .agg vs.toArray else vs.getD 0 undef) w := by
  obtain ⟨u, hu⟩ := und_of hd
  obtain ⟨i, z, hi, hs, _⟩ := hd.info
  have hag := hd.agg
  unfold loadVar
  simp only [Sem.run_bind, run_isAgg hu, Result.andThen_ok, Sem.run_ite, hag]
  cases ha : d.isAgg with
  | true =>
    simp only [if_true, Sem.run_bind, run_sizeT hi, Result.andThen_ok, hs, ← hl]
    rw [run_loadCells_list w ⟨b, off, none⟩ vs (fun j v hj => by rw [Addr.add_lit]; exact hc j v hj)]
    rfl
  | false =>
    have h1 := size_one ha
    rw [h1] at hl
    match vs, hl with
    | [v], _ =>
      have := hc 0 v rfl
      simp only [Nat.add_zero] at this
      simp [this]

theorem load_sim {t : TypeId} {d : TD} (hd : TDR P t d) (hw : WR Φ h w) {a x : AV} {a' : Value} (ha : VR Φ a a') (hx : load d a h = some x) :
    ∃ v', (Instr.loadAt t a').run P w = .ok v' w ∧ VR Φ x v' := by
  unfold load at hx
  split at hx
  · rename_i r o
    cases ha with
    | ptr r o hr =>
      split at hx
      · rename_i cs hcs
        obtain ⟨vs, t', h1, h2, h3, h4⟩ := hw.obj r _ hcs
        cases hwin : window cs o d.size with
        | none => rw [hwin] at hx; cases hx
        | some ds =>
          rw [hwin] at hx
          obtain ⟨hl, hR⟩ := window_R h2 hwin
          refine ⟨_, ?_, ofCells_R hR hx⟩
          unfold Instr.loadAt Instr.sureAddr
          simp only [Sem.run_bind, Sem.run_pure, Result.andThen_ok]
          refine run_loadVar hd (by simp at hl ⊢; omega) (fun k v hk => ?_)
          rw [cell_cells h1]
          rw [List.getElem?_take] at hk
          split at hk
          · rw [List.getElem?_drop] at hk; simpa using hk
          · cases hk
      · cases hx
  · rename_i cs o
    cases ha with
    | vptr cs o b off vs hl hm hv hp =>
      cases hwin : window cs o d.size with
      | none => rw [hwin] at hx; cases hx
      | some ds =>
        rw [hwin] at hx
        obtain ⟨hl', hR⟩ := window_R (VRs.of hl hv) hwin
        refine ⟨_, ?_, ofCells_R hR hx⟩
        unfold Instr.loadAt Instr.sureAddr
        simp only [Sem.run_bind, Sem.run_pure, Result.andThen_ok]
        refine run_loadVar hd (by simp at hl' ⊢; omega) (fun k v hk => ?_)
        rw [List.getElem?_take] at hk
        split at hk
        · rw [List.getElem?_drop] at hk
          have := hm _ _ hk
          rw [show off + (o + k) = off + o + k by omega] at this
          exact hw.mem _ _ _ this
        · cases hk
  · cases hx

/-- a store into an object's cells -/
theorem run_storeCells {b o : Nat} {vs : Array Value} {t : TypeId} {us : List Value} (hb : w.heap[b]? = some (.cells vs t (0, 0))) (hl : o + us.length ≤ vs.size) (h1 : ∀ u ∈ us, u.oneCell' = true) :
    (storeCells ⟨b, o, none⟩ us).run P w = .ok () (w.setRow b (vs.toList.take o ++ us ++ vs.toList.drop (o + us.length)).toArray) := by
  have := run_storeCells_at P b o t us 0 vs w hb (by simpa using hl) h1
  simpa using this

theorem WR.setCells (hw : WR Φ h w) {r : Nat} {cs : List AV} (hr : h[r]? = some (.cells cs)) {vs : Array Value} {t : TypeId} (hb : w.heap[Φ.φ r]? = some (.cells vs t (0, 0)))
    {cs' : List AV} {vs' : Array Value} (hR : VRs Φ cs' vs'.toList) : WR Φ (h.set r (.cells cs')) (w.setRow (Φ.φ r) vs') := by
  obtain ⟨vs0, t0, h1, h2, h3, h4⟩ := hw.obj r _ hr
  exact hw.write hr rfl rfl (fun b hne => setRow_other w _ b _ hne) ⟨vs', t, setRow_heap w _ vs vs' t (0, 0) hb, hR, h3, h4⟩ h3 ⟨rfl, rfl, rfl⟩

theorem store_sim {t : TypeId} {d : TD} (hd : TDR P t d) (hw : WR Φ h w) {a x : AV} {a' x' : Value} (ha : VR Φ a a') (hx : VR Φ x x') {h' : List Obj} (hs : store d a x h = some h') :
    ∃ w', (Instr.storeAt t a' x').run P w = .ok () w' ∧ WR Φ h' w' := by
  unfold store at hs
  split at hs
  · rename_i r o
    cases ha with
    | ptr r o hr =>
      split at hs
      · rename_i cs hcs
        split at hs
        · rename_i hc
          obtain ⟨vs, t', h1, h2, h3, h4⟩ := hw.obj r _ hcs
          obtain ⟨hxR, hx1⟩ := cells_R hx hc.2
          cases hp : put cs o x.cells with
          | none => rw [hp] at hs; cases hs
          | some cs' =>
            rw [hp] at hs; cases hs
            obtain ⟨hl, hR⟩ := put_R h2 hxR hp
            obtain ⟨i, z, hi, hsz, _⟩ := hd.info
            refine ⟨_, ?_, hw.setCells hcs h1 (vs' := (vs.toList.take o ++ x'.cells.toList ++ vs.toList.drop (o + x'.cells.toList.length)).toArray) (by simpa using hR)⟩
            unfold Instr.storeAt Instr.sureAddr storeVar
            have hsize : x'.cells.size = i.size := by
              have := hxR.1; simp only [Array.length_toList] at this; rw [← this, hc.1, hsz]
            simp only [Sem.run_bind, Sem.run_pure, Result.andThen_ok, run_sizeT hi, hsize, ne_eq, not_true, if_false]
            exact run_storeCells h1 (by simpa using hl) hx1
        · cases hs
      · cases hs
  · cases hs

theorem alloc_sim {e : TypeId} {d : TD} (hd : TDR P e d) (hw : WR Φ h w) (v : AV) (hv : v = .ptr h.length 0) :
    Ran P Φ w (do pure (.value (← Instr.alloc e true (.tuple #[])))) v (h ++ [.cells d.zero]) := by
  obtain ⟨i, z, hi, hs, hz, hZ, hl⟩ := hd.info
  subst hv
  refine ran_new (Φ.le_new w.heap.size) (hw.newCells (hZ Φ) e) (v' := .pointer (some ⟨w.heap.size, 0, none⟩)) ?_ ?_
  · simp [Instr.alloc, run_zero hi hz, newVar, newRow]
  · have := VR.ptr (Φ := Φ.new w.heap.size) h.length 0 (by simp [Phi.new, hw.len])
    rw [hw.len, Phi.new_φ] at this
    rw [hw.len]; exact this

theorem box_sim {e : TypeId} {x : AV} {x' : Value} (hw : WR Φ h w) (hx : VR Φ x x') (h1 : x.cells.all AV.one = true) :
    Ran P Φ w (do pure (.value (← Instr.box e x'))) (.ptr h.length 0) (h ++ [.cells x.cells]) := by
  obtain ⟨hR, _⟩ := cells_R hx h1
  refine ran_new (Φ.le_new w.heap.size) (hw.newCells hR e) (v' := .pointer (some ⟨w.heap.size, 0, none⟩)) ?_ ?_
  · simp [Instr.box, newVar, newRow]
  · have := VR.ptr (Φ := Φ.new w.heap.size) h.length 0 (by simp [Phi.new, hw.len])
    rw [hw.len, Phi.new_φ] at this
    rw [hw.len]; exact this

end
end AM

/- Arithmetic, comparisons, conversions. -/
namespace AM
open Go

section
variable {P : Program} {Φ : Phi} {h : List Obj} {w : World}

theorem bytesLess_total : ∀ (a b : List UInt8), (Op.bytesLess a b || a == b) = !(Op.bytesLess b a)
  | [], [] => by simp [Op.bytesLess]
  | [], y :: b => by simp [Op.bytesLess]
  | x :: a, [] => by simp [Op.bytesLess]
  | x :: a, y :: b => by
    have ih := bytesLess_total a b
    simp only [Op.bytesLess]
    by_cases h : x < y
    · have h2 : ¬ y < x := fun h' => by rw [UInt8.lt_iff_toNat_lt] at h h'; omega
      have h3 : ¬ y = x := fun h' => by subst h'; exact h2 h
      simp [h, h2, h3]
    · by_cases h' : y < x
      · have h3 : ¬ x = y := fun e => by subst e; exact h h'
        simp [h, h', h3]
      · have h3 : x = y := by
          apply UInt8.toNat_inj.1
          rw [UInt8.lt_iff_toNat_lt] at h h'; omega
        subst h3
        simp [h] at ih ⊢
        exact ih

theorem ba_eq (a b : ByteArray) : (a == b) = true ↔ a = b := by
  cases a with | mk a => cases b with | mk b =>
  show ((a == b) : Bool) = true ↔ _
  simp

theorem kindT_eq {p : PK} {t : TypeId} (ht : kindT P t p) {a b : AV} {a' b' : Value} (ha : VR Φ a a') (hb : VR Φ b b') {r : Bool} (hr : same1 p a b = some r) (n : Nat) :
    (Op.equalIn (n + 1) t a' b').run P w = .ok r w := by
  unfold same1 at hr
  cases p with
  | bool =>
    cases ha <;> try (cases hr; done)
    cases hb <;> try (cases hr; done)
    simp only at hr; cases hr
    simp [Op.equalIn, run_underlying (show P.underlying t = some .bool from ht)]
  | int =>
    obtain ⟨k, hk⟩ := ht
    cases ha <;> try (cases hr; done)
    cases hb <;> try (cases hr; done)
    simp only at hr
    split at hr
    · rename_i he; subst he; cases hr
      simp [Op.equalIn, run_underlying hk]
    · cases hr
  | str =>
    cases ha <;> try (cases hr; done)
    cases hb <;> try (cases hr; done)
    rename_i s s'
    simp only at hr; cases hr
    simp only [Op.equalIn, Sem.run_bind, run_underlying (show P.underlying t = some .string from ht), Result.andThen_ok, Sem.run_pure]
    congr 1
    rw [Bool.eq_iff_iff]
    simp only [beq_iff_eq]
    constructor
    · intro h; rw [ba_eq] at h; rw [h]
    · intro h; rw [ba_eq]; cases s; cases s'; simp at h; simp [h]

end

theorem eq1_std (p : PK) (a b : AV) : eq1 Ar.std p a b = same1 p a b := by
  unfold eq1 same1
  cases p <;> cases a <;> try rfl
  all_goals cases b <;> rfl

theorem eqs_std : ∀ (ps : List PK) (as bs : List AV), eqs Ar.std ps as bs = sames ps as bs
  | [], [], [] => rfl
  | p :: ps, a :: as, b :: bs => by
    simp only [eqs, sames, eq1_std, eqs_std ps as bs]
    rfl
  | [], [], _ :: _ => rfl
  | [], _ :: _, _ => rfl
  | _ :: _, [], _ => rfl
  | _ :: _, _ :: _, [] => rfl

section
variable {P : Program} {Φ : Phi} {h : List Obj} {w : World}

theorem kindT_agg {p : PK} {t : TypeId} (ht : kindT P t p) : aggP P t = false := by
  unfold aggP
  cases p with
  | bool => rw [show P.underlying t = some .bool from ht]
  | int => obtain ⟨k, hk⟩ := ht; rw [hk]
  | str => rw [show P.underlying t = some .string from ht]
theorem kindT_und {p : PK} {t : TypeId} (ht : kindT P t p) : ∃ u, P.underlying t = some u := by
  cases p with
  | bool => exact ⟨_, ht⟩
  | int => obtain ⟨k, hk⟩ := ht; exact ⟨_, hk⟩
  | str => exact ⟨_, ht⟩

/-- the loop of '==' over a struct's fields -/
theorem sames_run (n : Nat) : ∀ (fields : List Field) (ps : List PK) (as bs : List AV) (xs ys : Array Value) (j : Nat), fields.length = ps.length →
    (∀ (k : Nat) f p, fields[k]? = some f → ps[k]? = some p → f.offset = j + k ∧ f.name ≠ "_" ∧ kindT P f.type p) →
    VRs Φ as (xs.toList.drop j) → VRs Φ bs (ys.toList.drop j) → ∀ r, sames ps as bs = some r → ∀ (rest : Sem Bool),
    (do let x ← forIn fields ((none, ()) : Option Bool × Unit) fun f _ => (do
          if f.name ≠ "_" then
            if !(← Op.equalIn (n + 1) f.type (← part f.type xs f.offset) (← part f.type ys f.offset)) then pure (ForInStep.done (some false, ()))
            else pure (ForInStep.yield (none, ()))
          else pure (ForInStep.yield (none, ())) : Sem (ForInStep (Option Bool × Unit)))
        match x.fst with
        | some a => pure a
        | none => pure true : Sem Bool).run P w = .ok r w := by
  intro fields
  induction fields with
  | nil =>
    intro ps as bs xs ys j hl hf ha hb r hr rest
    cases ps with
    | cons p ps => simp at hl
    | nil =>
      cases as with
      | cons a as => simp [sames] at hr
      | nil => cases bs with
        | cons b bs => simp [sames] at hr
        | nil => simp [sames] at hr; subst hr; simp
  | cons f fields ih =>
    intro ps as bs xs ys j hl hf ha hb r hr rest
    cases ps with
    | nil => simp at hl
    | cons p ps =>
      cases as with
      | nil => simp [sames] at hr
      | cons a as => cases bs with
        | nil => simp [sames] at hr
        | cons b bs =>
          obtain ⟨x, us, hx, hax, hau⟩ := ha.inv_cons
          obtain ⟨y, vs, hy, hby, hbv⟩ := hb.inv_cons
          obtain ⟨hoff, hname, hk⟩ := hf 0 f p rfl rfl
          simp only [Nat.add_zero] at hoff
          have hxj : xs[j]? = some x := by
            have := congrArg (·[0]?) hx; simpa using this
          have hyj : ys[j]? = some y := by
            have := congrArg (·[0]?) hy; simpa using this
          obtain ⟨u, hu⟩ := kindT_und hk
          have hpx : (part f.type xs f.offset).run P w = .ok x w := by
            unfold part
            simp [run_isAgg hu, kindT_agg hk, hoff, hxj]
          have hpy : (part f.type ys f.offset).run P w = .ok y w := by
            unfold part
            simp [run_isAgg hu, kindT_agg hk, hoff, hyj]
          simp only [sames] at hr
          split at hr
          · rename_i r1 r2 h1 h2
            cases hr
            have he := kindT_eq (w := w) hk hax hby h1 n
            simp only [List.forIn_cons, bind_assoc]
            simp only [Sem.run_bind, Sem.run_ite, hname, ne_eq, not_false_eq_true, if_true, hpx, hpy, he, Result.andThen_ok, Sem.run_pure]
            cases r1 with
            | false => simp
            | true =>
              simp only [Bool.not_true, Bool.false_eq_true, if_false, Sem.run_pure, Result.andThen_ok, Bool.true_and]
              have hd1 : us = xs.toList.drop (j + 1) := by
                have := congrArg List.tail hx; simpa using this.symm
              have hd2 : vs = ys.toList.drop (j + 1) := by
                have := congrArg List.tail hy; simpa using this.symm
              have := ih ps as bs xs ys (j + 1) (by simpa using hl) (fun k f' p' h1 h2 => by
                obtain ⟨a1, a2, a3⟩ := hf (k + 1) f' p' (by simpa using h1) (by simpa using h2)
                exact ⟨by omega, a2, a3⟩) (hd1 ▸ hau) (hd2 ▸ hbv) r2 h2 rest
              simp only [Sem.run_bind] at this ⊢
              exact this
          · cases hr

theorem struct_eq {t : TypeId} {fields : Array Field} {ps : List PK} (hu : P.underlying t = some (.struct fields)) (hp : PlainS P t fields ps) {as bs : List AV} {xs ys : Array Value}
    (ha : VRs Φ as xs.toList) (hb : VRs Φ bs ys.toList) {r : Bool} (hr : sames ps as bs = some r) (n : Nat) :
    (Op.equalIn (n + 2) t (.agg xs) (.agg ys)).run P w = .ok r w := by
  obtain ⟨h1, h2, h3, h4⟩ := hp
  rw [show n + 2 = (n + 1) + 1 from rfl, Op.equalIn]
  simp only [Sem.run_bind, run_underlying hu, Result.andThen_ok, run_program, h1, Bool.false_eq_true, if_false]
  have := sames_run (P := P) (w := w) n fields.toList ps as bs xs ys 0 (by simpa using h3) (fun k f p hf hp => by
    have := h4 k f p (by simpa using hf) hp; simpa using this) (by simpa using ha) (by simpa using hb) r hr (pure true)
  simp only [Sem.run_bind] at this
  rw [← this]
  simp only [Array.forIn_toList]
  congr 1
  funext a w'
  obtain ⟨x, _⟩ := a
  cases x <;> rfl

theorem run_eqGuard_word (op : BinOp) (t : TypeId) (x y : Operand) (a b : Value) (ha : ∀ c, a ≠ .agg c) (hn : a ≠ .nilIface ∨ b ≠ .nilIface) : (eqGuard op t x y a b).run P w = .ok () w := by
  unfold eqGuard
  cases op <;> try rfl
  all_goals
    cases a <;> first | rfl | exact absurd rfl (ha _) | skip
    cases b <;> first | rfl | (simp at hn; done)

theorem run_eqGuard_struct (op : BinOp) (t : TypeId) (x y : Operand) (a b : Value) (hg : P.eqGuardType P.depth t = false) (hn : a ≠ .nilIface ∨ b ≠ .nilIface) : (eqGuard op t x y a b).run P w = .ok () w := by
  unfold eqGuard
  cases op <;> try rfl
  all_goals
    cases a <;> first | rfl | skip
    all_goals cases b <;> first | rfl | (simp at hn; done) | (simp [hg]; done)

theorem int_sim {op : BinOp} {k : IntKind} {a b : Int} {x : AV} (hx : binInt Ar.std op k a b = some x) (t : TypeId) : ∃ v', (Go.binOp op t (.int k a) (.int k b)).run P w = .ok v' w ∧ VR Φ x v' := by
  unfold binInt at hx
  cases op <;> simp [Ar.std] at hx
  case add => cases hx; exact ⟨_, by simp [Go.binOp, Op.intArith], .int _ _⟩
  case sub => cases hx; exact ⟨_, by simp [Go.binOp, Op.intArith], .int _ _⟩
  case mul => cases hx; exact ⟨_, by simp [Go.binOp, Op.intArith], .int _ _⟩
  case and => cases hx; exact ⟨_, by simp [Go.binOp, Op.intBits], .int _ _⟩
  case or => cases hx; exact ⟨_, by simp [Go.binOp, Op.intBits], .int _ _⟩
  case xor => cases hx; exact ⟨_, by simp [Go.binOp, Op.intBits], .int _ _⟩
  case andNot => cases hx; exact ⟨_, by simp [Go.binOp, Op.intBits], .int _ _⟩
  case quo => obtain ⟨hb, rfl⟩ := hx; exact ⟨_, by simp [Go.binOp, Op.intDiv, hb], .int _ _⟩
  case rem => obtain ⟨hb, rfl⟩ := hx; exact ⟨_, by simp [Go.binOp, Op.intDiv, hb], .int _ _⟩
  case eql => cases hx; exact ⟨_, by simp [Go.binOp, Op.intCmp], .bool _⟩
  case neq => cases hx; exact ⟨_, by simp [Go.binOp, Op.intCmp, bne], .bool _⟩
  case lss => cases hx; exact ⟨_, by simp [Go.binOp, Op.intCmp], .bool _⟩
  case leq => cases hx; exact ⟨_, by simp [Go.binOp, Op.intCmp], .bool _⟩
  case gtr => cases hx; exact ⟨_, by simp [Go.binOp, Op.intCmp], .bool _⟩
  case geq => cases hx; exact ⟨_, by simp [Go.binOp, Op.intCmp], .bool _⟩

theorem ba_append (a b : ByteArray) : (a ++ b).data.toList = a.data.toList ++ b.data.toList := by simp [ByteArray.data_append]

theorem str_sim {op : BinOp} {a b : ByteArray} {x : AV} (hx : binStr Ar.std op a.data.toList b.data.toList = some x) (t : TypeId) :
    ∃ v', (Go.binOp op t (.string a) (.string b)).run P w = .ok v' w ∧ VR Φ x v' := by
  have tl := ByteArray.toList_eq
  unfold binStr at hx
  cases op <;> simp [Ar.std] at hx
  case add =>
    obtain ⟨hc, rfl⟩ := hx
    refine ⟨.string (a ++ b), ?_, by rw [← Array.toList_append, ← ByteArray.data_append]; exact .str _⟩
    have h1 : a.data.size = a.size := rfl
    have h2 : b.data.size = b.size := rfl
    have : ¬ ((a.size + b.size : Nat) : Int) > IntKind.i64.max := by simp [IntKind.max, IntKind.signed, IntKind.bits]; omega
    simp only [Go.binOp, Op.stringOp, if_neg this, Sem.run_pure]
  case eql => cases hx; exact ⟨_, by simp [Go.binOp, Op.stringOp, tl], .bool _⟩
  case neq => cases hx; exact ⟨_, by simp [Go.binOp, Op.stringOp, tl], .bool _⟩
  case lss => cases hx; exact ⟨_, by simp [Go.binOp, Op.stringOp, tl], .bool _⟩
  case leq => cases hx; exact ⟨_, by simp only [Go.binOp, Op.stringOp, tl, bytesLess_total, Sem.run_pure], .bool _⟩
  case gtr => cases hx; exact ⟨_, by simp only [Go.binOp, Op.stringOp, tl, bytesLess_total, Bool.not_not, Sem.run_pure], .bool _⟩
  case geq => cases hx; exact ⟨_, by simp [Go.binOp, Op.stringOp, tl], .bool _⟩
end
end AM

/- '==' and the other binary operators; conversions; addresses; fields; indexes; slices. -/
namespace AM
open Go

section
variable {P : Program} {Φ : Phi} {h : List Obj} {w : World}

theorem VR.not_agg {x : AV} {v : Value} (h : VR Φ x v) (hx : ∀ cs, x ≠ .agg cs) (hu : x ≠ .undef) : ∀ cs, v ≠ .agg cs := by
  intro cs e; subst e
  cases h with
  | undef => exact hu rfl
  | agg as vs hl hv => exact hx _ rfl

def wordEq (d : TD) (a b : AV) : Option Bool :=
  match d with
  | .ptr => match a, b with
    | .nilptr, .nilptr => some true
    | .nilptr, .ptr .. | .ptr .., .nilptr | .nilptr, .vptr .. | .vptr .., .nilptr => some false
    | _, _ => none
  | .iface => match a, b with
    | .niliface, .iface | .iface, .niliface => some false
    | _, _ => none
  | .func => match a, b with
    | .nilfunc, .nilfunc => some true
    | .nilfunc, .func .. | .func .., .nilfunc => some false
    | _, _ => none
  | _ => none

theorem word_eq {t : TypeId} {d : TD} (hk : TDK P t d) {x y : AV} {x' y' : Value} (hx : VR Φ x x') (hy : VR Φ y y') {r : Bool} (hr : wordEq d x y = some r) (n : Nat) :
    (Op.equalIn (n + 1) t x' y').run P w = .ok r w ∧ (∀ c, x' ≠ .agg c) ∧ (x' ≠ .nilIface ∨ y' ≠ .nilIface) := by
  unfold wordEq at hr
  cases d with
  | ptr =>
    obtain ⟨e, he⟩ := hk
    cases hx <;> simp at hr <;> cases hy <;> simp at hr <;> subst hr <;> simp [Op.equalIn, run_underlying he]
  | func =>
    obtain ⟨ps, rs, v, he⟩ := hk
    cases hx <;> simp at hr <;> cases hy <;> simp at hr <;> subst hr <;> simp [Op.equalIn, run_underlying he]
  | iface =>
    obtain ⟨ms, he⟩ := hk
    cases hx <;> simp at hr <;> cases hy <;> simp at hr <;> subst hr <;> simp [Op.equalIn, run_underlying he]
  | bool => cases hr
  | int k => cases hr
  | str => cases hr
  | slice a b c d => cases hr
  | map a b c => cases hr
  | struct a b c d => cases hr
  | array a b c d => cases hr

theorem same1_word {p : PK} {x y : AV} {x' y' : Value} (hx : VR Φ x x') (hy : VR Φ y y') {r : Bool} (hr : same1 p x y = some r) : (∀ c, x' ≠ .agg c) ∧ (x' ≠ .nilIface ∨ y' ≠ .nilIface) := by
  unfold same1 at hr
  cases p <;> cases hx <;> simp at hr ⊢

theorem eqv_sim {t : TypeId} {d : TD} (hd : TDR P t d) {x y : AV} {x' y' : Value} (hx : VR Φ x x') (hy : VR Φ y y') {r : Bool} (hr : eqv Ar.std d x y = some r) (op : BinOp) (X Y : Operand) :
    (Op.equal t x' y').run P w = .ok r w ∧ (eqGuard op t X Y x' y').run P w = .ok () w := by
  have hk := hd.kind
  unfold Op.equal
  rw [show Op.maxDepth = 9999 + 1 from rfl]
  have word : wordEq d x y = some r → (Op.equalIn (9999 + 1) t x' y').run P w = .ok r w ∧ (eqGuard op t X Y x' y').run P w = .ok () w := fun h =>
    let ⟨a, b, c⟩ := word_eq (w := w) hk hx hy h 9999
    ⟨a, run_eqGuard_word op t X Y _ _ b c⟩
  have plain : ∀ p, kindT P t p → same1 p x y = some r → (Op.equalIn (9999 + 1) t x' y').run P w = .ok r w ∧ (eqGuard op t X Y x' y').run P w = .ok () w := fun p hp h =>
    let ⟨b, c⟩ := same1_word hx hy h
    ⟨kindT_eq hp hx hy h 9999, run_eqGuard_word op t X Y _ _ b c⟩
  unfold eqv at hr
  cases d with
  | bool => exact plain .bool hk (by rw [← eq1_std]; exact hr)
  | int k => exact plain .int ⟨k, hk⟩ (by rw [← eq1_std]; exact hr)
  | str => exact plain .str hk (by rw [← eq1_std]; exact hr)
  | ptr => exact word hr
  | func => exact word hr
  | iface => exact word hr
  | slice esz agg eb zs => cases hr
  | struct cmp n fs zs =>
    cases cmp with
    | none => cases hr
    | some ps =>
      obtain ⟨fields, hu, hfs, hall, hcmp⟩ := hk
      have hp := hcmp ps rfl
      dsimp only at hr
      split at hr
      · rw [eqs_std] at hr
        cases hx with
        | agg as xs hl hv => cases hy with
          | agg bs ys kl kv =>
            exact ⟨struct_eq hu hp (VRs.of hl hv) (VRs.of kl kv) hr 9998, run_eqGuard_struct op t X Y _ _ hp.2.1 (by simp)⟩
      · cases hr
  | map ks va z => cases hr
  | array n e a z => cases hr

theorem nilNil_sim {t : TypeId} {d : TD} (hd : TDR P t d) {x y : Operand} {u v : AV} {u' v' : Value} (hu : VR Φ u u') (hv : VR Φ v v') {op : BinOp} {z : AV} (hz : nilNil d op x y u v = some z) :
    ∃ z', (do eqGuard op t x y u' v'; Go.binOp op t u' v' : Sem Value).run P w = .ok z' w ∧ VR Φ z z' := by
  unfold nilNil at hz
  split at hz
  · obtain ⟨ms, he⟩ := hd.kind
    cases hu; cases hv
    have g : ∀ op, ((x matches .const _) || (y matches .const _)) = true → (eqGuard op t x y .nilIface .nilIface).run P w = .ok () w := by
      intro op hc
      unfold eqGuard
      cases x <;> cases y <;> first | (cases op <;> rfl) | exact absurd hc Bool.false_ne_true
    have hq : ∀ n, (Op.equalIn (n + 1) t .nilIface .nilIface).run P w = .ok true w := fun n => by simp [Op.equalIn, run_underlying he]
    have hq2 : (Op.equal t .nilIface .nilIface).run P w = .ok true w := by
      unfold Op.equal
      rw [show Op.maxDepth = 9999 + 1 from rfl]
      exact hq 9999
    split at hz
    · rename_i hc
      cases hz
      refine ⟨.bool true, ?_, .bool _⟩
      simp only [Sem.run_bind, g _ hc, Result.andThen_ok]
      simp [Go.binOp, hq2]
    · rename_i hc
      cases hz
      refine ⟨.bool false, ?_, .bool _⟩
      simp only [Sem.run_bind, g _ hc, Result.andThen_ok]
      simp [Go.binOp, hq2]
    · cases hz
  · cases hz

theorem bin_sim {t : TypeId} {d : TD} (hd : TDR P t d) {x y : AV} {x' y' : Value} (hx : VR Φ x x') (hy : VR Φ y y') (op : BinOp) (X Y : Operand) {z : AV} (hz : bin Ar.std d op x y = some z) :
    ∃ v', (do eqGuard op t X Y x' y'; Go.binOp op t x' y' : Sem Value).run P w = .ok v' w ∧ VR Φ z v' := by
  have fin : (eqGuard op t X Y x' y').run P w = .ok () w → (∃ v', (Go.binOp op t x' y').run P w = .ok v' w ∧ VR Φ z v') →
      ∃ v', (do eqGuard op t X Y x' y'; Go.binOp op t x' y' : Sem Value).run P w = .ok v' w ∧ VR Φ z v' := by
    rintro h1 ⟨v', h2, h3⟩
    exact ⟨v', by simp [h1, h2], h3⟩
  unfold bin at hz
  split at hz
  · rename_i k a k' b
    cases hx; cases hy
    refine fin (run_eqGuard_word op t X Y _ _ (by simp) (by simp)) ?_
    split at hz
    · simp [Ar.std] at hz
      obtain ⟨hb, rfl⟩ := hz
      exact ⟨_, by simp [Go.binOp, Op.shift, show ¬ b < 0 by omega], .int _ _⟩
    · simp [Ar.std] at hz
      obtain ⟨hb, rfl⟩ := hz
      exact ⟨_, by simp [Go.binOp, Op.shift, show ¬ b < 0 by omega], .int _ _⟩
    · split at hz
      · rename_i he; subst he
        exact int_sim hz t
      · cases hz
  · rename_i a b
    cases hx; cases hy
    exact fin (run_eqGuard_word op t X Y _ _ (by simp) (by simp)) (str_sim hz t)
  · rename_i h1 h2
    have hne : ∀ r, eqv Ar.std d x y = some r → (Go.binOp .eql t x' y').run P w = .ok (.bool r) w ∧ (Go.binOp .neq t x' y').run P w = .ok (.bool !r) w := by
      intro r hr
      have he := (eqv_sim (w := w) hd hx hy hr .eql X Y).1
      have nu : x ≠ .undef := by
        rintro rfl; unfold eqv eq1 at hr; cases d <;> simp at hr
        rename_i c _ _ _; cases c <;> simp at hr
      have ni : ∀ k n, x ≠ .int k n := by
        rintro k n rfl; unfold eqv eq1 at hr
        cases d with
        | int k' => cases y <;> simp at hr; exact h1 _ _ _ _ rfl rfl
        | struct c _ _ _ => cases c <;> simp at hr
        | _ => simp at hr
      have ns : ∀ a, x ≠ .str a := by
        rintro a rfl; unfold eqv eq1 at hr
        cases d with
        | str => cases y <;> simp at hr; exact h2 _ _ rfl rfl
        | struct c _ _ _ => cases c <;> simp at hr
        | _ => simp at hr
      have hbo : Go.binOp .eql t x' y' = (do pure (.bool (← Op.equal t x' y'))) ∧ Go.binOp .neq t x' y' = (do pure (.bool (!(← Op.equal t x' y')))) := by
        cases hx with
        | undef => exact absurd rfl nu
        | int k n => exact absurd rfl (ni k n)
        | str s => exact absurd rfl (ns _)
        | _ => constructor <;> simp [Go.binOp]
      rw [hbo.1, hbo.2]
      constructor <;> simp [he]
    split at hz
    · cases hr : eqv Ar.std d x y with
      | none => rw [hr] at hz; cases hz
      | some r =>
        rw [hr] at hz; cases hz
        exact fin (eqv_sim hd hx hy hr _ X Y).2 ⟨_, (hne r hr).1, .bool r⟩
    · cases hr : eqv Ar.std d x y with
      | none => rw [hr] at hz; cases hz
      | some r =>
        rw [hr] at hz; cases hz
        exact fin (eqv_sim hd hx hy hr _ X Y).2 ⟨_, (hne r hr).2, .bool _⟩
    · cases hz

end
end AM

/- Conversions; addresses; fields; indexes; parts of slices and strings. -/
namespace AM
open Go

section
variable {P : Program} {Φ : Phi} {h : List Obj} {w : World}

theorem un_sim {op : UnOp} {x z : AV} {x' : Value} (hx : VR Φ x x') (hz : un Ar.std op x = some z) : ∃ v', (Op.unary op x').run P w = .ok v' w ∧ VR Φ z v' := by
  unfold un at hz
  split at hz
  · cases hx; cases hz; exact ⟨_, by simp [Op.unary, Op.intArith, Ar.std], .int _ _⟩
  · cases hx; cases hz; exact ⟨_, by simp [Op.unary, Ar.std], .bool _⟩
  · cases hz

/-- the elements of a slice: where its cells lie -/
structure Lies (Φ : Phi) (w : World) (xs : List AV) (e : Nat) (b off : Nat) (vs : List Value) : Prop where
  R : VRs Φ (cellsOf xs) vs
  c : ∀ k v, vs[k]? = some v → w.cell? ⟨b, off + k, none⟩ = some v
  sz : ∀ x ∈ xs, x.cells.length = e
  z : e = 0 → xs = []
  p : noref.go 0 xs = true
  o : (cellsOf xs).all AV.one = true

theorem cellsOf_length {xs : List AV} {e : Nat} (h : ∀ x ∈ xs, x.cells.length = e) : (cellsOf xs).length = xs.length * e := by
  induction xs with
  | nil => simp [cellsOf]
  | cons x xs ih =>
    have := ih (fun y hy => h y (by simp [hy]))
    simp only [cellsOf, List.flatMap_cons, List.length_append, List.length_cons] at this ⊢
    rw [this, h x (by simp), Nat.succ_mul, Nat.add_comm]

theorem slice_lies (hw : WR Φ h w) {xs : List AV} {e : Nat} {t : Tok} {v : Value} (hv : VR Φ (.slice xs e t) v) :
    (xs = [] ∧ ∃ A, v = .slice A 0 0) ∨ ∃ b off cap vs, v = .slice (some ⟨b, off, none⟩) xs.length cap ∧ xs.length ≤ cap ∧ Lies Φ w xs e b off vs ∧ TokR Φ t xs.length (some ⟨b, off, none⟩) cap ∧
      (∀ k v, vs[k]? = some v → Φ.M b (off + k) = some v) := by
  cases hv with
  | snil e t ht => exact .inl ⟨rfl, none, rfl⟩
  | sodd e a => exact .inl ⟨rfl, some a, rfl⟩
  | slice xs e t b off cap vs hc he hz hl hm hv hp h1 ht =>
    exact .inr ⟨b, off, cap, vs, rfl, hc, ⟨VRs.of hl hv, fun k v hk => hw.mem _ _ _ (hm k v hk), he, hz, hp, h1⟩, ht, hm⟩

theorem nil_lies (Φ : Phi) (w : World) (e b off : Nat) : Lies Φ w [] e b off [] :=
  ⟨.nil, fun k v hk => by simp at hk, fun x hx => by simp at hx, fun _ => rfl, rfl, rfl⟩

theorem chunks_flat (e : Nat) (agg : Bool) : ∀ (n : Nat) (cs xs : List AV), chunks e agg n cs = some xs → n * e ≤ cs.length → cs.all (fun c => match c with | .agg _ => false | _ => true) = true →
    xs.length = n ∧ cellsOf xs = cs.take (n * e) ∧ ∀ x ∈ xs, x.cells.length = e
  | 0, cs, xs, h, _, _ => by simp [chunks] at h; subst h; simp [cellsOf]
  | n + 1, cs, xs, h, hl, hno => by
    simp only [chunks] at h
    split at h
    · rename_i v vs h1 h2
      cases h
      have hl' : n * e ≤ (cs.drop e).length := by
        rw [List.length_drop, Nat.succ_mul] at *; omega
      have hno' : (cs.drop e).all (fun c => match c with | .agg _ => false | _ => true) = true := by
        rw [List.all_eq_true] at hno ⊢
        exact fun x hx => hno x (List.mem_of_mem_drop hx)
      obtain ⟨i1, i2, i3⟩ := chunks_flat e agg n (cs.drop e) vs h2 hl' hno'
      have hv : v.cells = cs.take e := by
        unfold ofCells at h1
        cases agg with
        | true => simp at h1; subst h1; rfl
        | false =>
          simp only [Bool.false_eq_true, if_false] at h1
          split at h1
          · rename_i u hu
            cases h1
            have hm : v ∈ cs := List.mem_of_mem_take (hu ▸ List.mem_singleton.2 rfl)
            have := List.all_eq_true.1 hno v hm
            rw [hu]
            cases v <;> first | rfl | (simp at this)
          · cases h1
      refine ⟨by simp [i1], ?_, ?_⟩
      · show cellsOf (v :: vs) = _
        simp only [cellsOf, List.flatMap_cons] at i2 ⊢
        rw [i2, hv, Nat.succ_mul, Nat.add_comm (n * e) e, List.take_add]
      · intro x hx
        cases hx with
        | head => rw [hv, List.length_take]; rw [Nat.succ_mul] at hl; omega
        | tail _ hx => exact i3 x hx
    · cases h

/-- a field's place -/
theorem run_fieldPlace {b o : Nat} {f : Field} {i : TypeInfo} (hi : P.info? f.type = some i) (h0 : i.size ≠ 0) : (fieldPlace ⟨b, o, none⟩ f).run P w = .ok ⟨b, o + f.offset, none⟩ w := by
  unfold fieldPlace
  simp [run_sizeT hi, h0, Addr.add_lit]

theorem field_get {P : Program} {fields : Array Field} {fs : List (Nat × Nat × Bool)} (hfs : fs = fields.toList.map (fun f => (f.offset, P.cellsOf f.type, aggP P f.type)))
    (hall : ∀ f ∈ fields, (P.info? f.type).isSome ∧ (P.underlying f.type).isSome) {k : Nat} {x : Nat × Nat × Bool} (hk : fs[k]? = some x) :
    ∃ f i u, fields[k]? = some f ∧ P.info? f.type = some i ∧ P.underlying f.type = some u ∧ x = (f.offset, i.size, aggP P f.type) := by
  subst hfs
  rw [List.getElem?_map] at hk
  cases hf : fields[k]? with
  | none => have : fields.toList[k]? = none := by simpa using hf
            rw [this] at hk; cases hk
  | some f =>
    have : fields.toList[k]? = some f := by simpa using hf
    rw [this] at hk
    cases hk
    obtain ⟨h1, h2⟩ := hall f (Array.mem_of_getElem? hf)
    obtain ⟨i, hi⟩ := Option.isSome_iff_exists.1 h1
    obtain ⟨u, hu⟩ := Option.isSome_iff_exists.1 h2
    exact ⟨f, i, u, rfl, hi, hu, by simp [Program.cellsOf, hi]⟩

theorem fieldAddr_sim {t : TypeId} {cmp : Option (List PK)} {n : Nat} {fs : List (Nat × Nat × Bool)} {zs : List AV} (hd : TDR P t (.struct cmp n fs zs)) {k off sz : Nat} {ag : Bool}
    (hk : fs[k]? = some (off, sz, ag)) (h0 : sz ≠ 0) :
    (∀ r o a', VR Φ (.ptr r o) a' → ∃ v', (Instr.fieldAt t a' k).run P w = .ok v' w ∧ VR Φ (.ptr r (o + off)) v') ∧
    (∀ cs o a', VR Φ (.vptr cs o) a' → ∃ v', (Instr.fieldAt t a' k).run P w = .ok v' w ∧ VR Φ (.vptr cs (o + off)) v') := by
  obtain ⟨fields, hu, hfs, hall, _⟩ := hd.kind
  obtain ⟨f, i, u, hf, hi, _, hx⟩ := field_get hfs hall hk
  cases hx
  constructor
  · intro r o a' ha
    cases ha with
    | ptr r o hr =>
      refine ⟨_, ?_, .ptr r _ hr⟩
      unfold Instr.fieldAt Instr.sureAddr
      simp [run_underlying hu, hf, run_fieldPlace hi h0]
  · intro cs o a' ha
    cases ha with
    | vptr cs o b off' vs hl hm hv hp =>
      refine ⟨.pointer (some ⟨b, off' + (o + f.offset), none⟩), ?_, .vptr cs _ b off' vs hl hm hv hp⟩
      unfold Instr.fieldAt Instr.sureAddr
      simp [run_underlying hu, hf, run_fieldPlace hi h0, Nat.add_assoc]

theorem part_sim {t : TypeId} {u : TypeDesc} (hu : P.underlying t = some u) {i : TypeInfo} (hi : P.info? t = some i) {cs ds : List AV} {vs : Array Value} {off : Nat} {x : AV}
    (hR : VRs Φ cs vs.toList) (hwin : window cs off i.size = some ds) (hx : ofCells (aggP P t) ds = some x) : ∃ v', (part t vs off).run P w = .ok v' w ∧ VR Φ x v' := by
  obtain ⟨hl, hR'⟩ := window_R hR hwin
  refine ⟨_, ?_, ofCells_R hR' hx⟩
  unfold part
  simp only [Sem.run_bind, run_isAgg hu, Result.andThen_ok, Sem.run_ite]
  cases ha : aggP P t with
  | true =>
    simp only [if_true, Sem.run_bind, run_sizeT hi, Result.andThen_ok, Sem.run_pure]
    congr 2
    apply Array.ext'
    simp only [Array.toList_extract, List.extract_eq_take_drop]
    rw [show off + i.size - off = i.size by omega]
  | false =>
    rw [ha] at hx
    unfold ofCells at hx
    simp only [Bool.false_eq_true, if_false] at hx ⊢
    split at hx
    · rename_i ds v
      have hlen := hR'.1
      simp only [List.length_cons, List.length_nil, List.length_take, List.length_drop] at hlen
      have h1 : off < vs.size := by simp at hlen; omega
      have h2 : 0 < i.size := by simp at hlen; omega
      have hv0 : vs[off]? = some vs[off] := Array.getElem?_eq_getElem h1
      rw [hv0]
      simp [List.getD, List.getElem?_take, h2, h1]
    · cases hx

theorem field_sim {t : TypeId} {cmp : Option (List PK)} {n : Nat} {fs : List (Nat × Nat × Bool)} {zs : List AV} (hd : TDR P t (.struct cmp n fs zs)) {k off sz : Nat} {ag : Bool}
    (hk : fs[k]? = some (off, sz, ag)) {cs : List AV} {a' : Value} (ha : VR Φ (.agg cs) a') {x : AV} (hx : (window cs off sz).bind (ofCells ag) = some x) :
    ∃ v', (Instr.field t a' k).run P w = .ok v' w ∧ VR Φ x v' := by
  obtain ⟨fields, hu, hfs, hall, _⟩ := hd.kind
  obtain ⟨f, i, u, hf, hi, hu', hx'⟩ := field_get hfs hall hk
  cases hx'
  cases hwin : window cs f.offset i.size with
  | none => rw [hwin] at hx; cases hx
  | some ds =>
    rw [hwin] at hx
    cases ha with
    | agg cs vs hl hv =>
      obtain ⟨v', h1, h2⟩ := part_sim (P := P) (w := w) hu' hi (VRs.of hl hv) hwin hx
      refine ⟨v', ?_, h2⟩
      unfold Instr.field
      simp [run_underlying hu, hf, asAgg, h1]

theorem idx_std {i : Int} {n k : Nat} (h : Ar.std.idx i n = some k) : 0 ≤ i ∧ i < n ∧ k = i.toNat := by
  simp only [Ar.std, idxStd] at h
  split at h
  · cases h; exact ⟨by omega, by omega, rfl⟩
  · cases h
theorem bnd_std {i : Int} {n k : Nat} (h : Ar.std.bnd i n = some k) : 0 ≤ i ∧ i ≤ n ∧ k = i.toNat := by
  simp only [Ar.std, bndStd] at h
  split at h
  · cases h; exact ⟨by omega, by omega, rfl⟩
  · cases h

/-- an element's cells within all cells -/
theorem cellsOf_get {xs : List AV} {e : Nat} (h : ∀ x ∈ xs, x.cells.length = e) {i : Nat} {x : AV} (hx : xs[i]? = some x) : x.cells = ((cellsOf xs).drop (i * e)).take e := by
  induction xs generalizing i with
  | nil => simp at hx
  | cons y ys ih =>
    have he := h y (by simp)
    cases i with
    | zero =>
      simp at hx; subst hx
      subst he
      simp [cellsOf, List.take_append_of_le_length]
    | succ i =>
      have := ih (fun x hx => h x (by simp [hx])) (i := i) (by simpa using hx)
      rw [this]
      simp only [cellsOf, List.flatMap_cons, Nat.succ_mul]
      rw [Nat.add_comm (i * e) e, ← List.drop_drop, List.drop_append_of_le_length (by omega), ← he, List.drop_length, List.nil_append]

theorem indexAddr_sim (hw : WR Φ h w) {E : Env} (hA : E.ar = Ar.std) (hE : ∀ t d, E.td t = some d → TDR P t d) {own : Bool} {tm : List AV} {a : Act} (ht : VRs Φ tm a.tmps.toList) {ty ty' : TypeId} {X I : Operand} {v : AV} {h' : List Obj}
    (hop : op E own tm h ty' (.indexAddr ty X I) = some (.val v h')) : h' = h ∧ ∃ v', (Instr.indexAt ty (a.eval X) (a.eval I)).run P w = .ok v' w ∧ VR Φ v v' := by
  simp only [op] at hop
  have hX := opnd_R hw.tab ht X
  have hI := opnd_R hw.tab ht I
  generalize a.eval X = X' at hX ⊢
  generalize a.eval I = I' at hI ⊢
  rw [hA] at hop
  split at hop
  · rename_i esz agg eb zs xs e t k i h1 h2 h3
    rw [h2] at hX; rw [h3] at hI
    obtain ⟨el, ie, iz, hu, hi, hs, _⟩ := (hE _ _ h1).kind
    split at hop
    · rename_i he; subst he
      split at hop
      · rename_i x hx
        cases hop
        refine ⟨rfl, ?_⟩
        simp only [Ar.std] at hx
        split at hx
        · rename_i h0
          have hlt := lt_of_get hx
          cases hI
          rcases slice_lies hw hX with ⟨rfl, _⟩ | ⟨b, off, cap, vs, hv, hcap, L, _, hm⟩
          · simp at hx
          · rw [hv]
            have hseg := cellsOf_get L.sz hx
            refine ⟨.pointer (some ⟨b, off + i.toNat * e, none⟩), ?_, ?_⟩
            · unfold Instr.indexAt
              simp only [asIntOf, Sem.run_bind, Sem.run_pure, Result.andThen_ok, run_underlying hu]
              simp only [Sem.run_ite, Sem.run_bind, run_sizeT hi, hs, Result.andThen_ok, Sem.run_pure, Addr.add_lit]
              rw [if_pos ⟨h0, by omega⟩]
            · have := VR.vptr (Φ := Φ) x.cells 0 b (off + i.toNat * e) ((vs.drop (i.toNat * e)).take e) ?_ ?_ ?_ ?_
              · simpa using this
              · rw [hseg]; simp [L.R.1]
              · intro k v hk
                rw [List.getElem?_take] at hk
                split at hk
                · rw [List.getElem?_drop] at hk; rw [Nat.add_assoc]; exact hm _ _ hk
                · cases hk
              · intro k c v hc hv
                have hR := (L.R.drop (i.toNat * e)).take e
                rw [hseg] at hc
                exact hR.2 k c v hc hv
              · have h0 := (noref_go _ _).1 L.p x (List.mem_of_getElem? hx)
                cases x <;> simp only [AV.cells, noref.go, Bool.and_true] <;> first | exact h0 | (simp only [noref] at h0; exact h0)
        · cases hx
      · cases hop
    · cases hop
  · rename_i esz agg eb zs r off len cap e ag k i h1 h2 h3
    rw [h2] at hX; rw [h3] at hI
    obtain ⟨el, ie, iz, hu, hi, hs, _⟩ := (hE _ _ h1).kind
    split at hop
    · rename_i he; subst he
      split at hop
      · rename_i j hj
        cases hop
        obtain ⟨j0, j1, rfl⟩ := idx_std hj
        cases hI
        cases hX with
        | mslice r off len cap e agg hr hc =>
          refine ⟨rfl, _, ?_, .ptr r _ hr⟩
          unfold Instr.indexAt
          simp only [asIntOf, Sem.run_bind, Sem.run_pure, Result.andThen_ok, run_underlying hu]
          simp only [Sem.run_ite, Sem.run_bind, run_sizeT hi, hs, Result.andThen_ok, Sem.run_pure, Addr.add_lit]
          rw [if_pos ⟨j0, by omega⟩]
      · cases hop
    · cases hop
  · rename_i n esz agg zs r off k i h1 h2 h3
    rw [h2] at hX; rw [h3] at hI
    obtain ⟨el, ie, hu, hi, hs, _⟩ := (hE _ _ h1).kind
    split at hop
    · rename_i j hj
      cases hop
      obtain ⟨j0, j1, rfl⟩ := idx_std hj
      cases hI
      cases hX with
      | ptr r off hr =>
        refine ⟨rfl, _, ?_, .ptr r _ hr⟩
        unfold Instr.indexAt Instr.sureAddr
        simp only [asIntOf, Sem.run_bind, Sem.run_pure, Result.andThen_ok, run_underlying hu]
        simp only [Sem.run_ite, Sem.run_bind, run_sizeT hi, hs, Result.andThen_ok, Sem.run_pure, Addr.add_lit]
        rw [if_pos ⟨j0, by omega⟩]
    · cases hop
  · rename_i n esz agg zs cs off k i h1 h2 h3
    rw [h2] at hX; rw [h3] at hI
    obtain ⟨el, ie, hu, hi, hs, _⟩ := (hE _ _ h1).kind
    split at hop
    · rename_i j hj
      cases hop
      obtain ⟨j0, j1, rfl⟩ := idx_std hj
      cases hI
      cases hX with
      | vptr cs o b off' vs hl hm hv hp =>
        refine ⟨rfl, .pointer (some ⟨b, off' + (off + i.toNat * esz), none⟩), ?_, .vptr cs _ b off' vs hl hm hv hp⟩
        unfold Instr.indexAt Instr.sureAddr
        simp only [asIntOf, Sem.run_bind, Sem.run_pure, Result.andThen_ok, run_underlying hu]
        simp only [Sem.run_ite, Sem.run_bind, run_sizeT hi, hs, Result.andThen_ok, Sem.run_pure, Addr.add_lit]
        rw [if_pos ⟨j0, by omega⟩, Nat.add_assoc]
    · cases hop
  · cases hop

end
end AM

/- Indexes of values; parts of slices and strings; conversions; values that are built. -/
namespace AM
open Go

section
variable {P : Program} {Φ : Phi} {h : List Obj} {w : World}

theorem index_sim (hw : WR Φ h w) {E : Env} (hA : E.ar = Ar.std) (hE : ∀ t d, E.td t = some d → TDR P t d) {own : Bool} {tm : List AV} {a : Act} (ht : VRs Φ tm a.tmps.toList) {ty ty' : TypeId} {X I : Operand} {v : AV} {h' : List Obj}
    (hop : op E own tm h ty' (.index ty X I) = some (.val v h')) : h' = h ∧ ∃ v', (Instr.index ty (a.eval X) (a.eval I)).run P w = .ok v' w ∧ VR Φ v v' := by
  simp only [op] at hop
  have hX := opnd_R hw.tab ht X
  have hI := opnd_R hw.tab ht I
  generalize a.eval X = X' at hX ⊢
  generalize a.eval I = I' at hI ⊢
  rw [hA] at hop
  split at hop
  · rename_i n esz agg zs cs k i h1 h2 h3
    rw [h2] at hX; rw [h3] at hI
    obtain ⟨el, ie, hu, hi, hs, hag, hue⟩ := (hE _ _ h1).kind
    obtain ⟨ue, hue⟩ := Option.isSome_iff_exists.1 hue
    split at hop
    · rename_i j hj
      obtain ⟨j0, j1, rfl⟩ := idx_std hj
      cases hwin : (window cs (i.toNat * esz) esz).bind (ofCells agg) with
      | none => rw [hwin] at hop; cases hop
      | some x =>
        rw [hwin] at hop
        cases hop
        cases hwin' : window cs (i.toNat * esz) esz with
        | none => rw [hwin'] at hwin; cases hwin
        | some ds =>
          rw [hwin'] at hwin
          cases hI
          cases hX with
          | agg cs vs hl hv =>
            subst hs; subst hag
            obtain ⟨v', p1, p2⟩ := part_sim (P := P) (w := w) hue hi (VRs.of hl hv) hwin' hwin
            refine ⟨rfl, v', ?_, p2⟩
            unfold Instr.index
            simp only [asIntOf, Sem.run_bind, Sem.run_pure, Result.andThen_ok, run_underlying hu, Sem.run_ite, run_sizeT hi]
            rw [if_pos ⟨j0, by omega⟩]; exact p1
    · cases hop
  · rename_i s k i h1 h2 h3
    rw [h2] at hX; rw [h3] at hI
    split at hop
    · rename_i b hb
      cases hop
      cases hI
      cases hX with
      | str s =>
        simp only [Ar.std] at hb
        split at hb
        · rename_i h0
          cases hg : s.data.toList[i.toNat]? with
          | none => rw [hg] at hb; cases hb
          | some c =>
            rw [hg] at hb
            cases hb
            refine ⟨rfl, _, ?_, .int _ _⟩
            unfold Instr.index
            have hlt := lt_of_get hg
            have hlt' : i.toNat < s.size := by
              have hs : s.data.toList.length = s.size := Array.length_toList
              omega
            have hgc : s[i.toNat]? = some c := by
              rw [getElem?_pos s i.toNat hlt']
              have : s.data.toList[i.toNat]? = some s[i.toNat] := by
                rw [List.getElem?_eq_getElem hlt]; rfl
              rw [this] at hg; cases hg; rfl
            simp only [asIntOf, Sem.run_bind, Sem.run_pure, Result.andThen_ok, run_underlying (hE _ _ h1).kind]
            rw [if_pos h0, hgc]
            rfl
        · cases hb
    · cases hop
  · cases hop

theorem bnd_run {k : IntKind} {i : Int} {y j : Nat} {c : BoundsCode} (h : bndStd i y = some j) : (Instr.sliceBound (.int k i) y c).run P w = .ok j w := by
  unfold bndStd at h
  split at h
  · rename_i hc; cases h
    unfold Instr.sliceBound
    simp only [asIntOf, Sem.run_bind, Sem.run_pure, Result.andThen_ok, Sem.run_ite]
    rw [if_pos ⟨hc.1, by omega⟩]
  · cases h

/-- an index that may be left out, and the model's -/
theorem bnd?_R (hT : TabR Φ) {tm : List AV} {a : Act} (ht : VRs Φ tm a.tmps.toList) {o : Option Operand} {i : Option Int} (h : bnd? tm o = some i) :
    (o = none ∧ i = none) ∨ ∃ x k n, o = some x ∧ i = some n ∧ a.eval x = .int k n := by
  unfold bnd? at h
  cases o with
  | none => cases h; exact .inl ⟨rfl, rfl⟩
  | some x =>
    right
    have hx := opnd_R hT ht x
    dsimp only at h
    split at h
    · rename_i k n hk
      cases h
      rw [hk] at hx
      generalize he : a.eval x = v at hx
      cases hx
      exact ⟨x, k, n, rfl, rfl, he⟩
    · cases h

theorem bounds_run (hT : TabR Φ) {tm : List AV} {a : Act} (ht : VRs Φ tm a.tmps.toList) {lo hi : Option Operand} {l h' : Option Int} (hl : bnd? tm lo = some l) (hh : bnd? tm hi = some h')
    {sl : Bool} {len cap H L : Nat} (h1 : hiStd h' len cap = some H) (h2 : loStd l H = some L) :
    (Instr.sliceBounds sl len cap (lo.map a.eval) (hi.map a.eval) none).run P w = .ok (L, H, cap) w := by
  unfold Instr.sliceBounds
  rcases bnd?_R hT ht hl with ⟨rfl, rfl⟩ | ⟨x, k, n, rfl, rfl, hx⟩ <;> rcases bnd?_R hT ht hh with ⟨rfl, rfl⟩ | ⟨y, k', m, rfl, rfl, hy⟩
  · cases h1; cases h2; simp
  · cases h2; simp [hy, bnd_run (show bndStd m cap = some H from h1)]
  · cases h1; simp [hx, bnd_run (show bndStd n len = some L from h2)]
  · simp [hx, hy, bnd_run (show bndStd m cap = some H from h1), bnd_run (show bndStd n H = some L from h2)]

theorem take_drop_cells {xs : List AV} {e : Nat} (he : ∀ x ∈ xs, x.cells.length = e) (H L : Nat) : cellsOf ((xs.take H).drop L) = ((cellsOf xs).take (H * e)).drop (L * e) := by
  have tk : ∀ (xs : List AV), (∀ x ∈ xs, x.cells.length = e) → ∀ n, cellsOf (xs.take n) = (cellsOf xs).take (n * e) := by
    intro xs
    induction xs with
    | nil => intro _ n; simp [cellsOf]
    | cons x xs ih =>
      intro hx n
      cases n with
      | zero => simp [cellsOf]
      | succ n =>
        have := ih (fun y hy => hx y (by simp [hy])) n
        simp only [cellsOf, List.take_succ_cons, List.flatMap_cons] at this ⊢
        have hxe := hx x (by simp)
        rw [this, Nat.succ_mul, Nat.add_comm, List.take_append, hxe, List.take_of_length_le (l := x.cells) (by omega), show e + n * e - e = n * e by omega]
  have dr : ∀ (xs : List AV), (∀ x ∈ xs, x.cells.length = e) → ∀ n, cellsOf (xs.drop n) = (cellsOf xs).drop (n * e) := by
    intro xs
    induction xs with
    | nil => intro _ n; simp [cellsOf]
    | cons x xs ih =>
      intro hx n
      cases n with
      | zero => simp
      | succ n =>
        have := ih (fun y hy => hx y (by simp [hy])) n
        simp only [cellsOf, List.drop_succ_cons, List.flatMap_cons] at this ⊢
        rw [this, Nat.succ_mul, Nat.add_comm, ← List.drop_drop, List.drop_append_of_le_length (by rw [hx x (by simp)]; omega), ← hx x (by simp), List.drop_length, List.nil_append]
  rw [dr _ (fun x hx => he x (List.mem_of_mem_take hx)), tk _ he]

theorem bnd_le {i : Int} {n j : Nat} (h : bndStd i n = some j) : j ≤ n := by
  unfold bndStd at h; split at h
  · cases h; omega
  · cases h
theorem hi_le {h : Option Int} {len cap H : Nat} (hc : len ≤ cap) (hh : hiStd h len cap = some H) : H ≤ cap := by
  cases h with
  | none => cases hh; exact hc
  | some y => exact bnd_le hh
theorem lo_le {l : Option Int} {H L : Nat} (hh : loStd l H = some L) : L ≤ H := by
  cases l with
  | none => cases hh; exact Nat.zero_le _
  | some y => exact bnd_le hh

theorem sub_std {α : Type} {xs ys : List α} {l h : Option Int} (hs : subStd xs l h = some ys) : ∃ H L, hiStd h xs.length xs.length = some H ∧ loStd l H = some L ∧ ys = (xs.take H).drop L ∧ H ≤ xs.length ∧ L ≤ H := by
  unfold subStd at hs
  split at hs
  · rename_i H hH
    split at hs
    · rename_i L hL
      cases hs
      exact ⟨H, L, hH, hL, rfl, hi_le (Nat.le_refl _) hH, lo_le hL⟩
    · cases hs
  · cases hs

theorem slice_sim (hw : WR Φ h w) {t : TypeId} {d : TD} (hd : TDR P t d) {tm : List AV} {a : Act} (ht : VRs Φ tm a.tmps.toList) {lo hi : Option Operand} {l h' : Option Int} (hl : bnd? tm lo = some l) (hh : bnd? tm hi = some h')
    {x z : AV} {x' : Value} (hx : VR Φ x x') (hz : slice_ Ar.std d x l h' = some z) : ∃ v', (Instr.sliceAt t x' (lo.map a.eval) (hi.map a.eval) none).run P w = .ok v' w ∧ VR Φ z v' := by
  unfold slice_ at hz
  split at hz
  · -- a string
    rename_i s
    cases hx with
    | str s =>
      simp only [Ar.std] at hz
      cases hs : subStd s.data.toList l h' with
      | none => rw [hs] at hz; cases hz
      | some ys =>
        rw [hs] at hz; cases hz
        obtain ⟨H, L, h1, h2, rfl, h3, h4⟩ := sub_std hs
        have hsz : s.data.toList.length = s.size := Array.length_toList
        rw [hsz] at h1 h3
        refine ⟨.string (s.extract L H), ?_, ?_⟩
        · unfold Instr.sliceAt Instr.slice
          simp [run_underlying hd.kind, bounds_run hw.tab ht hl hh h1 h2]
        · have : (s.extract L H).data.toList = (s.data.toList.take H).drop L := by
            simp [ByteArray.data_extract, List.extract_eq_take_drop, List.drop_take]
          rw [← this]; exact .str _
  · -- a slice that stays
    rename_i esz agg eb zs xs e t'
    obtain ⟨el, ie, iz, hu, hi', hs', _⟩ := hd.kind
    split at hz
    · rename_i hc
      simp only [Ar.std] at hz
      cases hs : subStd xs l h' with
      | none => rw [hs] at hz; cases hz
      | some ys =>
        rw [hs] at hz; cases hz
        obtain ⟨H, L, h1, h2, rfl, h3, h4⟩ := sub_std hs
        have run : ∀ (A : Option Addr) (cap : Nat), xs.length ≤ cap → (Instr.sliceAt t (.slice A xs.length cap) (lo.map a.eval) (hi.map a.eval) none).run P w =
            .ok (.slice (if cap = L then A else A.map (·.add (L * esz))) (H - L) (cap - L)) w := by
          intro A cap hcap
          have h1' : hiStd h' xs.length cap = some H := by
            cases h' with
            | none => exact h1
            | some y =>
              simp only [hiStd] at h1 ⊢
              unfold bndStd at h1 ⊢
              split at h1
              · rename_i hy; rw [if_pos ⟨hy.1, by omega⟩]; exact h1
              · cases h1
          unfold Instr.sliceAt Instr.slice
          simp [run_underlying hu, bounds_run hw.tab ht hl hh h1' h2, run_sizeT hi', hs']
        rcases slice_lies hw hx with ⟨rfl, A, rfl⟩ | ⟨b, off, cap, vs, rfl, hcap, Li, _, hm⟩
        · have h0 : H = 0 := by simpa using h3
          have h00 : L = 0 := by omega
          subst h0; subst h00
          refine ⟨_, run A 0 (Nat.le_refl _), ?_⟩
          simp
          cases A with
          | none => exact .snil e .none trivial
          | some a => exact .sodd e a
        · refine ⟨_, run _ cap hcap, ?_⟩
          have hlen : ((xs.take H).drop L).length = H - L := by simp; omega
          have hcl := take_drop_cells Li.sz H L
          have Rr := ((Li.R.take (H * e)).drop (L * e))
          have key : ∀ off', (off' = off + L * e ∨ (xs.take H).drop L = []) → VR Φ (.slice ((xs.take H).drop L) e .none) (.slice (some ⟨b, off', none⟩) (H - L) (cap - L)) := by
            intro off' ho
            rw [← hlen]
            refine .slice _ e .none b off' (cap - L) ((vs.take (H * e)).drop (L * e)) (by omega) (fun y hy => Li.sz y (List.mem_of_mem_take (List.mem_of_mem_drop hy)))
              (fun h0 => by simp [Li.z h0]) (by rw [hcl]; exact Rr.1) ?_ (fun k c v hc hv => Rr.2 k c v (by rw [← hcl]; exact hc) hv) ?_ ?_ trivial
            · intro k v hk
              rcases ho with rfl | ho
              · rw [List.getElem?_drop] at hk
                rw [List.getElem?_take] at hk
                split at hk
                · rw [Nat.add_assoc]; exact hm _ _ hk
                · cases hk
              · have hl0 := Rr.1
                rw [← hcl, ho] at hl0
                simp [cellsOf] at hl0
                have := lt_of_get hk
                simp at this; omega
            · exact (noref_go _ _).2 (fun y hy => (noref_go _ _).1 Li.p y (List.mem_of_mem_take (List.mem_of_mem_drop hy)))
            · rw [hcl]
              exact List.all_eq_true.2 (fun c hc => List.all_eq_true.1 Li.o c (List.mem_of_mem_take (List.mem_of_mem_drop hc)))
          have hee : e = esz ∨ xs = [] := by
            rcases hc with h | h
            · exact .inl h
            · exact .inr (Li.z h)
          split
          · rename_i hcl'
            refine key off ?_
            right
            apply List.eq_nil_of_length_eq_zero; omega
          · simp only [Option.map_some, Addr.add_lit]
            refine key _ ?_
            rcases hee with rfl | h0
            · exact .inl rfl
            · right; simp [h0]
    · cases hz
  · -- a slice of the heap
    rename_i esz agg eb zs r off len cap e ag
    obtain ⟨el, ie, iz, hu, hi', hs', _⟩ := hd.kind
    split at hz
    · split at hz
      · rename_i H hH
        split at hz
        · rename_i L hL
          cases hz
          cases hx with
          | mslice r off len cap e agg hr hc =>
            have hHc : H ≤ cap := hi_le hc hH
            have hLH : L ≤ H := lo_le hL
            refine ⟨.slice (some ⟨Φ.φ r, (bif Nat.beq cap L then off else off + L * esz), none⟩) (H - L) (cap - L), ?_, .mslice r _ _ _ _ _ hr (by omega)⟩
            unfold Instr.sliceAt Instr.slice
            have := bounds_run (P := P) (w := w) hw.tab ht hl hh (sl := true) (len := len) (cap := cap) hH hL
            simp only [Sem.run_bind, run_underlying hu, Result.andThen_ok, this, run_sizeT hi', hs', Sem.run_pure]
            congr 2
            by_cases hcl : cap = L
            · rw [if_pos hcl]; simp [hcl]
            · rw [if_neg hcl, show cap.beq L = false from by cases hb : cap.beq L with
                | true => exact absurd (Nat.eq_of_beq_eq_true hb) hcl
                | false => rfl]
              simp [Addr.add_lit]
        · cases hz
      · cases hz
    · cases hz
  · -- an array of the heap
    rename_i n esz agg zs r off
    obtain ⟨el, ie, hu, hi', hs', _⟩ := hd.kind
    split at hz
    · rename_i H hH
      split at hz
      · rename_i L hL
        cases hz
        cases hx with
        | ptr r off hr =>
          have hHc : H ≤ n := hi_le (Nat.le_refl _) hH
          have hLH : L ≤ H := lo_le hL
          refine ⟨.slice (some ⟨Φ.φ r, (bif Nat.beq n L then off else off + L * esz), none⟩) (H - L) (n - L), ?_, .mslice r _ _ _ _ _ hr (by omega)⟩
          unfold Instr.sliceAt Instr.sureAddr
          have := bounds_run (P := P) (w := w) hw.tab ht hl hh (sl := false) (len := n) (cap := n) hH hL
          simp only [Sem.run_bind, run_underlying hu, Result.andThen_ok, this, run_sizeT hi', hs', Sem.run_pure]
          congr 2
          by_cases hcl : n = L
          · rw [if_pos hcl]; simp [hcl]
          · rw [if_neg hcl, show n.beq L = false from by cases hb : n.beq L with
              | true => exact absurd (Nat.eq_of_beq_eq_true hb) hcl
              | false => rfl]
            simp [Addr.add_lit]
      · cases hz
    · cases hz
  · cases hz

end
end AM

/- Slices that are read as a whole; append. -/
namespace AM
open Go

section
variable {P : Program} {Φ : Phi} {h : List Obj} {w : World}

theorem one_not_agg {cs : List AV} (h : cs.all AV.one = true) : cs.all (fun c => match c with | .agg _ => false | _ => true) = true := by
  rw [List.all_eq_true] at h ⊢
  intro c hc
  have := h c hc
  cases c <;> first | rfl | (simp [AV.one] at this)

theorem elems_sim (hw : WR Φ h w) {v : AV} {v' : Value} (hv : VR Φ v v') {xs : List AV} {e : Nat} (he : elems h v = some (xs, e)) :
    (xs = [] ∧ ∃ A, v' = .slice A 0 0) ∨ ∃ b off cap vs, v' = .slice (some ⟨b, off, none⟩) xs.length cap ∧ xs.length ≤ cap ∧ Lies Φ w xs e b off vs := by
  unfold elems at he
  split at he
  · cases he
    rcases slice_lies hw hv with h | ⟨b, off, cap, vs, h1, h2, h3, _⟩
    · exact .inl h
    · exact .inr ⟨b, off, cap, vs, h1, h2, h3⟩
  · rename_i r off len cap esz agg
    cases hv with
    | mslice r off len cap esz agg hr hc =>
      split at he
      · rename_i cs hcs
        split at he
        · rename_i ds hds
          split at he
          · rename_i hone
            simp only [Bool.and_eq_true, decide_eq_true_eq] at hone
            split at he
            · rename_i ys hys
              split at he
              · rename_i hp
                cases he
                obtain ⟨vs, t, h1, h2, h3, h4⟩ := hw.obj r _ hcs
                obtain ⟨hl, hR⟩ := window_R h2 hds
                have hdl : ds.length = len * e := by
                  unfold window at hds
                  split at hds
                  · cases hds; rw [List.length_take, List.length_drop]; omega
                  · cases hds
                obtain ⟨c1, c2, c3⟩ := chunks_flat e agg len ds xs hys (by omega) (one_not_agg hone.2)
                rw [List.take_of_length_le (by omega)] at c2
                right
                refine ⟨Φ.φ r, off, cap, (vs.toList.drop off).take (len * e), ?_, ?_, ⟨by rw [c2]; exact hR, ?_, c3, fun h0 => absurd h0 hone.1, hp, by rw [c2]; exact hone.2⟩⟩
                · rw [c1]
                · rw [c1]; exact hc
                · intro k v hk
                  rw [cell_cells h1]
                  rw [List.getElem?_take] at hk
                  split at hk
                  · rw [List.getElem?_drop] at hk; simpa using hk
                  · cases hk
              · cases he
            · cases he
          · cases he
        · cases he
      · cases he
  · cases he

/-- what is appended: its length, and its cells -/
structure Src (P : Program) (Φ : Phi) (w : World) (ys : List AV) (esz : Nat) (y' : Value) (us : List Value) : Prop where
  len : (Builtin.lenOf y').run P w = .ok ys.length w
  first : ∀ w1 : World, (∀ a, w1.cell? a = w.cell? a) → (Builtin.firstCells esz ys.length y').run P w1 = .ok us.toArray w1
  R : VRs Φ (cellsOf ys) us
  sz : ∀ y ∈ ys, y.cells.length = esz
  p : noref.go 0 ys = true
  o : (cellsOf ys).all AV.one = true

theorem src_elems (hw : WR Φ h w) {y : AV} {y' : Value} (hy : VR Φ y y') {ys : List AV} {e esz : Nat} (he : elems h y = some (ys, e)) (hs : e = esz ∨ e = 0) : ∃ us, Src P Φ w ys esz y' us := by
  rcases elems_sim hw hy he with ⟨rfl, A, rfl⟩ | ⟨b, off, cap, vs, rfl, hc, L⟩
  · refine ⟨[], rfl, fun w1 _ => ?_, .nil, fun y hy => by simp at hy, rfl, rfl⟩
    cases A with
    | none => rfl
    | some a => exact run_firstCells_some w1 esz 0 a 0 0 [] (by simp) (fun j v hj => by simp at hj)
  · have hsz : ∀ y ∈ ys, y.cells.length = esz := by
      rcases hs with rfl | h0
      · exact L.sz
      · have := L.z h0; subst this; exact fun y hy => by simp at hy
    refine ⟨vs, rfl, fun w1 h1 => ?_, L.R, hsz, L.p, L.o⟩
    refine run_firstCells_some w1 esz ys.length ⟨b, off, none⟩ _ cap vs ?_ (fun j v hj => by rw [Addr.add_lit, h1]; exact L.c j v hj)
    rw [← L.R.1, cellsOf_length hsz]

theorem VRs.oneCell {cs : List AV} {us : List Value} (h : VRs Φ cs us) (h1 : cs.all AV.one = true) : ∀ u ∈ us, u.oneCell' = true := by
  intro u hu
  obtain ⟨a, ha, har⟩ := h.mem hu
  have := List.all_eq_true.1 h1 a ha
  cases har <;> first | rfl | (simp [AV.one] at this)

theorem src_string {s : ByteArray} : Src P Φ w (s.data.toList.map fun b => AV.int .u8 b.toNat) 1 (.string s) (s.data.toList.map fun b => Value.int .u8 b.toNat) := by
  have hc : ∀ l : List UInt8, cellsOf (l.map fun b => AV.int .u8 b.toNat) = l.map fun b => AV.int .u8 b.toNat := by
    intro l; induction l with
    | nil => rfl
    | cons b l ih => simp only [cellsOf, List.map_cons, List.flatMap_cons] at ih ⊢; rw [ih]; rfl
  refine ⟨?_, ?_, ?_, ?_, ?_, ?_⟩
  · simp only [Builtin.lenOf, Sem.run_pure, List.length_map]; rfl
  · intro w1 _
    simp only [Builtin.firstCells, Sem.run_pure]
    congr 1
    apply Array.ext'
    have : (s.extract 0 (s.data.toList.map fun b => AV.int .u8 b.toNat).length) = s := by
      have hl : (s.data.toList.map fun b => AV.int .u8 b.toNat).length = s.size := by simp only [List.length_map]; exact Array.length_toList
      rw [hl]
      apply ByteArray.ext
      rw [ByteArray.data_extract]
      exact Array.extract_size
    rw [this]
    simp
  · rw [hc]
    induction s.data.toList with
    | nil => exact .nil
    | cons b l ih => exact .cons (.int _ _) ih
  · intro y hy
    obtain ⟨b, _, rfl⟩ := List.mem_map.1 hy
    rfl
  · refine (noref_go _ _).2 (fun y hy => ?_)
    obtain ⟨b, _, rfl⟩ := List.mem_map.1 hy
    rfl
  · rw [hc]
    refine List.all_eq_true.2 (fun y hy => ?_)
    obtain ⟨b, _, rfl⟩ := List.mem_map.1 hy
    rfl

theorem cellsOf_append (xs ys : List AV) : cellsOf (xs ++ ys) = cellsOf xs ++ cellsOf ys := by simp [cellsOf]
theorem noref_append {m : Nat} {xs ys : List AV} (h : noref.go m xs = true) (k : noref.go m ys = true) : noref.go m (xs ++ ys) = true := by
  rw [noref_go] at h k ⊢
  intro c hc
  rcases List.mem_append.1 hc with h' | h'
  · exact h c h'
  · exact k c h'

/-- append where there is room -/
theorem run_append_fit {sT xT ty el : TypeId} {ie : TypeInfo} {xd : TypeDesc} (hu : P.underlying sT = some (.slice el)) (hi : P.info? el = some ie) (hx : P.underlying xT = some xd) (hxd : ∀ k, xd ≠ .int k)
    {A : Option Addr} {n m cap : Nat} {y' : Value} {us : Array Value} (hl : (Builtin.lenOf y').run P w = .ok m w) (hf : (Builtin.firstCells ie.size m y').run P w = .ok us w) (hc : n + m ≤ cap) {w' : World}
    (hs : (match A with | some a => storeCells (a.add (n * ie.size)) us.toList | none => pure ()).run P w = .ok () w') :
    (Builtin.append_ #[sT, xT] ty #[.slice A n cap, y']).run P w = .ok (.slice A (n + m) cap) w' := by
  have hz : (match xd with | .int _ => true | _ => false) = false := by
    cases xd <;> first | rfl | exact absurd rfl (hxd _)
  unfold Builtin.append_
  cases A with
  | none =>
    cases hs
    simp [run_underlying hu, run_underlying hx, hz, run_sizeT hi, hl, hf, hc]
  | some a =>
    simp only at hs
    simp [run_underlying hu, run_underlying hx, hz, run_sizeT hi, hl, hf, hc, hs]

/-- append to a new row -/
theorem run_append_new {sT xT ty el : TypeId} {ie : TypeInfo} {z : Value} {xd : TypeDesc} (hu : P.underlying sT = some (.slice el)) (hi : P.info? el = some ie) (hz' : ie.zero = some z)
    (hx : P.underlying xT = some xd) (hxd : ∀ k, xd ≠ .int k)
    {A : Option Addr} {n m cap : Nat} {y' : Value} {us old : Array Value} (hl : (Builtin.lenOf y').run P w = .ok m w)
    (hf : ∀ w1, (∀ a, w1.cell? a = w.cell? a) → (Builtin.firstCells ie.size m y').run P w1 = .ok us w1) (ho : ∀ w1, (∀ a, w1.cell? a = w.cell? a) → (Builtin.firstCells ie.size n (.slice A n cap)).run P w1 = .ok old w1) (hc : ¬ n + m ≤ cap)
    (hn : n + m ≤ 4294967296) (hb : ie.bytes ≤ 4096) :
    (Builtin.append_ #[sT, xT] ty #[.slice A n cap, y']).run P w =
      .ok (.slice (some ⟨w.heap.size, 0, none⟩) (n + m) (grownCap w (n + m) cap el)) (w.drew.alloc (.cells (old ++ us ++ Builtin.zeroCells z.cells (grownCap w (n + m) cap el - (n + m))) el)) := by
  have hzx : (match xd with | .int _ => true | _ => false) = false := by
    cases xd <;> first | rfl | exact absurd rfl (hxd _)
  have hfits := growslice_fits (need := n + m) (old := cap) (bytes := ie.bytes) (by omega) (Nat.le_trans (Nat.mul_le_mul hn hb) (by decide))
  have hmax : ¬ ((n + m : Nat) : Int) > IntKind.i64.max := by
    simp [IntKind.max, IntKind.signed, IntKind.bits]; omega
  have hmax' : ¬ (IntKind.i64.max < (n : Int) + m) := by
    simp [IntKind.max, IntKind.signed, IntKind.bits]; omega
  have hf' := hf w.drew (fun a => rfl)
  have ho' := ho w.drew (fun a => rfl)
  have hq : (Question.appendCap (n + m) cap el).forced = false := rfl
  unfold Builtin.append_
  simp [run_underlying hu, run_underlying hx, hzx, run_sizeT hi, run_info hi, run_zero hi hz', hl, hc, hmax', show ¬ (281474976710656 < Builtin.nextslicecap (n + m) cap * ie.bytes) by omega, hf', ho', hq, newRow, grownCap]
  intro h; omega

end
end AM

/- append: the relation behind it. -/
namespace AM
open Go

section
variable {P : Program} {Φ : Phi} {h : List Obj} {w : World}

/-- where a slice that stays lies: nowhere, or in memory that stays -/
def Held (Φ : Phi) (A : Option Addr) (n cap : Nat) (vs : List Value) : Prop :=
  (A = none ∧ n = 0 ∧ cap = 0 ∧ vs = []) ∨ ∃ b off, A = some ⟨b, off, none⟩ ∧ ∀ (k : Nat) v, vs[k]? = some v → Φ.M b (off + k) = some v

theorem mk_slice {xs : List AV} {e : Nat} {t : Tok} {A : Option Addr} {n cap : Nat} {vs : List Value} (hA : Held Φ A n cap vs) (hn : n = xs.length) (hc : n ≤ cap) (he : ∀ x ∈ xs, x.cells.length = e) (hz : e = 0 → xs = [])
    (R : VRs Φ (cellsOf xs) vs) (hp : noref.go 0 xs = true) (h1 : (cellsOf xs).all AV.one = true) (ht : TokR Φ t n A cap) : VR Φ (.slice xs e t) (.slice A n cap) := by
  subst hn
  rcases hA with ⟨rfl, h0, rfl, rfl⟩ | ⟨b, off, rfl, hm⟩
  · have : xs = [] := List.eq_nil_of_length_eq_zero h0
    subst this
    exact .snil e t ht
  · exact .slice xs e t b off cap vs hc he hz R.1 hm R.2 hp h1 ht

/-- a slice's parts -/
theorem slice_parts (hw : WR Φ h w) {xs : List AV} {e : Nat} {t : Tok} {s' : Value} (hs : VR Φ (.slice xs e t) s') {esz : Nat} (hc : e = esz ∨ e = 0) (hto : t ≠ .none) :
    ∃ A cap vs, s' = .slice A xs.length cap ∧ xs.length ≤ cap ∧ Held Φ A xs.length cap vs ∧ VRs Φ (cellsOf xs) vs ∧ (∀ x ∈ xs, x.cells.length = esz) ∧ noref.go 0 xs = true ∧ (cellsOf xs).all AV.one = true ∧
      TokR Φ t xs.length A cap ∧ (∀ w1 : World, (∀ a, w1.cell? a = w.cell? a) → (Builtin.firstCells esz xs.length (.slice A xs.length cap)).run P w1 = .ok vs.toArray w1) := by
  have hsz : ∀ {xs : List AV}, (∀ x ∈ xs, x.cells.length = e) → (e = 0 → xs = []) → ∀ x ∈ xs, x.cells.length = esz := by
    intro xs h1 h2
    rcases hc with rfl | h0
    · exact h1
    · have := h2 h0; subst this; exact fun y hy => by simp at hy
  cases hs with
  | sodd e a => exact absurd rfl hto
  | snil e t ht => exact ⟨none, 0, [], rfl, Nat.le_refl _, .inl ⟨rfl, rfl, rfl, rfl⟩, .nil, fun y hy => by simp at hy, rfl, rfl, ht, fun _ _ => rfl⟩
  | slice xs e t b off cap vs hc' he hz hl hm hv hp h1 ht =>
    have R : VRs Φ (cellsOf xs) vs := VRs.of hl hv
    refine ⟨some ⟨b, off, none⟩, cap, vs, rfl, hc', .inr ⟨b, off, rfl, hm⟩, R, hsz he hz, hp, h1, ht, fun w1 hw1 => ?_⟩
    refine run_firstCells_some w1 esz xs.length ⟨b, off, none⟩ _ cap vs ?_ (fun j v hj => by rw [Addr.add_lit, hw1]; exact hw.mem _ _ _ (hm j v hj))
    rw [← R.1, cellsOf_length (hsz he hz)]

theorem fresh_addM (hw : WR Φ h w) (vs : List Value) (n : Nat) : Φ.le (Φ.addM w.heap.size n vs) := Phi.le_addM (fun o _ _ => hw.fresh.1 o) hw.fresh.2.1

/-- a new block whose first cells may be handed on -/
theorem WR.newRow (hw : WR Φ h w) {vs : List Value} {cs : Array Value} {t : TypeId} (hcs : ∀ (k : Nat) v, vs[k]? = some v → cs[k]? = some v) {w1 : World} (hw1 : w1 = w ∨ w1 = w.drew) :
    WR (Φ.addM w.heap.size 0 vs) h (w1.alloc (.cells cs t)) := by
  have hh : w1.heap = w.heap := by rcases hw1 with rfl | rfl <;> rfl
  refine hw.same (fresh_addM hw vs 0) rfl (fun _ _ => rfl) (fun b hb => ?_) (fun b o v hv => ?_) ?_
  · have := hw.held_lt hb
    rw [alloc_old (by rw [hh]; exact this), hh]
  · rcases Phi.addM_inv hv with ⟨rfl, _, h2⟩ | ⟨h1, _⟩
    · right
      have hn : (w1.alloc (.cells cs t)).heap[w.heap.size]? = some (.cells cs t (0, 0)) := by rw [← hh]; exact alloc_new
      exact ⟨by rw [cell_cells hn]; exact hcs o v (by simpa using h2), hw.fresh.2.2⟩
    · exact .inl h1
  · rcases hw1 with rfl | rfl <;> exact ⟨rfl, rfl, rfl⟩

theorem append_sim (hw : WR Φ h w) {sT xT ty : TypeId} {esz eb : Nat} {ag : Bool} {zs : List AV} (hd : TDR P sT (.slice esz ag eb zs)) {xd : TypeDesc} (hx : P.underlying xT = some xd) (hxd : ∀ k, xd ≠ .int k)
    {xs ys : List AV} {e e' : Nat} {t : Tok} {s' y' : Value} {us : List Value} (hs : VR Φ (.slice xs e t) s') (src : Src P Φ w ys esz y' us) {v : AV} {h' : List Obj}
    (hr : append Ar.std esz eb h xs e t ys e' = some (.val v h')) : Ran P Φ w (do pure (.value (← Builtin.append_ #[sT, xT] ty #[s', y']))) v h' := by
  obtain ⟨el, ie, iz, hu, hi, hsz, hby, hzz, hZ, hzl, _⟩ := hd.kind
  unfold append at hr
  split at hr
  · rename_i hc
    obtain ⟨he, he', h0, hb⟩ := hc
    split at hr
    · rename_i hroom
      have hroom : xs.length + ys.length ≤ 2147483648 := of_decide_eq_true hroom
      obtain ⟨A, cap, vs, rfl, hlc, hH, hR, hxe, hp, h1, hT, hfx⟩ := slice_parts (P := P) hw hs he (by rintro rfl; simp at hr)
      have hvl : vs.length = xs.length * esz := by rw [← hR.1, cellsOf_length hxe]
      have hul : us.length = ys.length * esz := by rw [← src.R.1, cellsOf_length src.sz]
      have hRc : VRs Φ (cellsOf (xs ++ ys)) (vs ++ us) := by rw [cellsOf_append]; exact hR.append src.R
      have hse : ∀ x ∈ xs ++ ys, x.cells.length = esz := fun x hx => by rcases List.mem_append.1 hx with h' | h'; exact hxe x h'; exact src.sz x h'
      have hpp := noref_append hp src.p
      have hoo : (cellsOf (xs ++ ys)).all AV.one = true := by rw [cellsOf_append, List.all_append, h1, src.o]; rfl
      have hzz' : esz = 0 → xs ++ ys = [] := fun h => absurd h h0
      have hxyl : xs.length + ys.length = (xs ++ ys).length := by simp
      have hbe : ie.bytes ≤ 4096 := by rw [hby]; exact hb
      subst hsz
      -- the new row
      have grow : ¬ xs.length + ys.length ≤ cap → ∃ c, xs.length + ys.length ≤ c ∧ ∃ cs : Array Value, (∀ (k : Nat) v, (vs ++ us)[k]? = some v → cs[k]? = some v) ∧ c * ie.size ≤ cs.size ∧
          (Builtin.append_ #[sT, xT] ty #[.slice A xs.length cap, y']).run P w = .ok (.slice (some ⟨w.heap.size, 0, none⟩) (xs.length + ys.length) c) (w.drew.alloc (.cells cs el)) := by
        intro hcap
        have hrun := run_append_new (P := P) (w := w) (ty := ty) hu hi hzz hx hxd (A := A) (n := xs.length) (m := ys.length) (cap := cap) (us := us.toArray) (old := vs.toArray) src.len src.first hfx hcap (by omega) hbe
        refine ⟨_, grownCap_ge w _ cap el, _, ?_, ?_, hrun⟩
        · intro k v hk
          have hkl := lt_of_get hk
          rw [Array.getElem?_append_left (by simpa using hkl)]
          simpa using hk
        · have hzs : iz.cells.size = ie.size := by have := (hZ Φ).1; simp only [Array.length_toList] at this; omega
          have := grownCap_ge w (xs.length + ys.length) cap el
          simp only [Array.size_append, List.size_toArray, size_zeroCells, hzs, hvl, hul, ← Nat.add_mul]
          refine Nat.mul_le_mul_right _ ?_
          omega
      split at hr
      · -- its capacity is its length
        cases hr
        have hcap : cap = xs.length := hT
        by_cases hfit : xs.length + ys.length ≤ cap
        · have hy0 : ys = [] := List.eq_nil_of_length_eq_zero (by omega)
          have hu0 : us = [] := List.eq_nil_of_length_eq_zero (by rw [hul, hy0]; simp)
          subst hy0; subst hu0
          have hrun := run_append_fit (P := P) (w := w) (ty := ty) hu hi hx hxd (A := A) (n := xs.length) (m := 0) (cap := cap) (us := #[]) src.len (src.first w (fun _ => rfl)) (by simpa using hfit) (w' := w) (by cases A <;> simp [storeCells])
          refine ran_new (Φ.le_newT xs.length (A, cap)) (hw.more (Φ.le_newT _ _) rfl rfl (fun r n hr => by simp only [Phi.newT]; rw [if_neg (by omega)]) ?_ ?_) hrun ?_
          · refine ⟨A, cap, by simp [Ar.std, Phi.newT], by simpa [Ar.std] using hlc, h0, fun m hm => newT_none (by simpa [Ar.std] using hm), fun hlt => ?_⟩
            simp [Ar.std] at hlt; omega
          · intro b hb
            simp [blk, Ar.std, Phi.newT, hcap] at hb
          · have := (mk_slice (Φ := Φ) (t := .none) hH rfl hlc hxe (fun h => absurd h h0) hR hp h1 trivial).mono (Φ.le_newT xs.length (A, cap))
            simp only [Ar.std, List.append_nil, Nat.add_zero]
            cases this with
            | sodd e a => exact hH.elim (fun h => by simp at h) (fun ⟨b, off, h, _⟩ => by cases h; exact .slice [] _ _ b off 0 [] (Nat.le_refl _) (fun x hx => by simp at hx) (fun _ => rfl) rfl (fun k v hk => by simp at hk) (fun k c v hc => by simp [cellsOf] at hc) rfl rfl ⟨by simp [Phi.newT, hw.len], by rw [hw.len]; exact Phi.newT_τ _ _ _⟩)
            | snil e t _ => exact .snil _ _ ⟨by simp [Phi.newT, hw.len], by rw [hw.len]; exact Phi.newT_τ _ _ _⟩
            | slice xs e t b off cap vs a1 a2 a3 a4 a5 a6 a7 a8 _ => exact .slice _ _ _ b off cap vs a1 a2 a3 a4 a5 a6 a7 a8 ⟨by simp [Phi.newT, hw.len], by rw [hw.len]; exact Phi.newT_τ _ _ _⟩
        · obtain ⟨c, hcc, cs, hcs, hcz, hrun⟩ := grow hfit
          have hw1 := hw.newRow (t := el) hcs (.inr rfl)
          let Ψ := (Φ.addM w.heap.size 0 (vs ++ us)).newT (xs.length + ys.length) (some ⟨w.heap.size, 0, none⟩, c)
          have hle : (Φ.addM w.heap.size 0 (vs ++ us)).le Ψ := Phi.le_newT _ _ _
          have hleΦ : Φ.le Ψ := (fresh_addM hw (vs ++ us) 0).trans hle
          have htau : Ψ.τ Φ.N (xs.length + ys.length) = some (some ⟨w.heap.size, 0, none⟩, c) := Phi.newT_τ (Φ.addM w.heap.size 0 (vs ++ us)) _ _
          refine ran_new hleΦ (hw1.more hle rfl rfl (fun r n hr => by simp only [Ψ, Phi.newT]; rw [if_neg (by omega)]) ?_ ?_) hrun ?_
          · refine ⟨_, c, ?_, ?_, h0, fun m hm => newT_none ?_, fun hlt => ⟨w.heap.size, rfl, ⟨cs, el, alloc_new, hcz⟩, fun o ho => ?_, hw.fresh.2.1⟩⟩
            · simp only [Ar.std, ← hxyl]; exact htau
            · simpa [Ar.std] using hcc
            · simpa [Ar.std] using hm
            · show (Φ.addM w.heap.size 0 (vs ++ us)).M w.heap.size o = none
              simp only [Phi.addM]
              rw [if_neg (by simp only [Ar.std, ← hxyl, Nat.add_mul] at ho; simp [hvl, hul]; omega)]
              exact hw.fresh.1 o
          · intro b hb r x hr
            simp only [blk, Ar.std, ← hxyl] at hb
            rw [show (Φ.addM w.heap.size 0 (vs ++ us)).N = Φ.N from rfl, htau] at hb
            simp only [Option.bind_some] at hb
            split at hb
            · cases hb; exact hw.fresh.2.2 r x hr
            · cases hb
          · refine mk_slice (Φ := Ψ) (.inr ⟨_, 0, rfl, fun k v hk => ?_⟩) (by simp [Ar.std]) hcc (by simpa [Ar.std] using hse) (by simpa [Ar.std] using hzz') (by simpa [Ar.std] using hRc.mono hleΦ) (by simpa [Ar.std] using hpp) (by simpa [Ar.std] using hoo) ⟨by simp [Ψ, Phi.newT, Phi.addM, hw.len], by rw [hw.len]; exact htau⟩
            exact Phi.addM_at hk
      · -- it has a token
        rename_i r
        split at hr
        · rename_i l e'' hl
          split at hr
          · rename_i hee; subst hee
            split at hr
            · rename_i hlen
              cases hr
              have hlen : l.length = xs.length := by simp [Ar.std] at hlen; omega
              obtain ⟨A', cap', k1, k2, k3, k4, k5⟩ := hw.obj r _ hl
              obtain ⟨hrN, hτ⟩ := hT
              rw [hlen] at k1
              rw [hτ] at k1
              cases k1
              rw [hlen] at k2 k4 k5
              by_cases hfit : xs.length + ys.length ≤ cap
              · by_cases hy0 : ys = []
                · -- nothing is appended
                  have hu0 : us = [] := List.eq_nil_of_length_eq_zero (by rw [hul, hy0]; simp)
                  subst hy0; subst hu0
                  have hrun := run_append_fit (P := P) (w := w) (ty := ty) hu hi hx hxd (A := A) (n := xs.length) (m := 0) (cap := cap) (us := #[]) src.len (src.first w (fun _ => rfl)) (by simpa using hfit) (w' := w) (by cases A <;> simp [storeCells])
                  refine ran_new (Phi.le.refl Φ) (hw.upd (Phi.le.refl Φ) rfl hl (fun _ _ _ => rfl) hw.mem (fun _ _ _ => rfl) (fun _ _ _ _ _ _ => ⟨rfl, fun _ h => h⟩) ?_ ?_ ⟨rfl, rfl, rfl⟩) hrun ?_
                  · simp only [Ar.std, List.append_nil]
                    exact ⟨A, cap, hτ, k2, k3, k4, k5⟩
                  · intro b hb s z hne hz hzb
                    refine hne (hw.inj s r z _ b hz hl hzb ?_)
                    simpa [blk, Ar.std, hlen] using hb
                  · simp only [Ar.std, List.append_nil, Nat.add_zero]
                    exact mk_slice (Φ := Φ) hH rfl hlc hxe (fun h => absurd h h0) hR hp h1 ⟨hrN, hτ⟩
                · -- in place
                  have hlt : xs.length < cap := by
                    have := List.length_pos_iff.2 hy0; omega
                  obtain ⟨b, rfl, ⟨bs, bt, g1, g2⟩, g3, g4⟩ := k5 hlt
                  have hone : ∀ u ∈ us, u.oneCell' = true := src.R.oneCell src.o
                  have hbl : xs.length * ie.size + us.length ≤ bs.size := by
                    rw [hul, ← Nat.add_mul]; exact Nat.le_trans (Nat.mul_le_mul_right _ hfit) g2
                  have hst := run_storeCells (P := P) g1 (o := xs.length * ie.size) (us := us) hbl hone
                  have hrun := run_append_fit (P := P) (w := w) (ty := ty) hu hi hx hxd (A := some ⟨b, 0, none⟩) (n := xs.length) (m := ys.length) (cap := cap) (us := us.toArray) src.len (src.first w (fun _ => rfl)) hfit (w' := _) (by simp only [Addr.add_lit, Nat.zero_add]; exact hst)
                  generalize hnew : (bs.toList.take (xs.length * ie.size) ++ us ++ bs.toList.drop (xs.length * ie.size + us.length)).toArray = bs' at hrun
                  have hlt2 : xs.length * ie.size ≤ bs.toList.length := by simp; omega
                  have hsize : bs'.size = bs.size := by
                    rw [← hnew]; simp only [List.size_toArray, List.length_append, List.length_take, List.length_drop, Array.length_toList]; simp at hlt2; omega
                  have hget : ∀ k, bs'[k]? = if k < xs.length * ie.size then bs[k]? else if k < xs.length * ie.size + us.length then us[k - xs.length * ie.size]? else bs[k]? := by
                    intro k
                    rw [← hnew]
                    simp only [List.getElem?_toArray, List.append_assoc, List.getElem?_append, List.length_take, Array.length_toList]
                    simp at hlt2
                    rw [Nat.min_eq_left hlt2]
                    split
                    · rename_i hk; rw [List.getElem?_take, if_pos hk]; simp
                    · rename_i hk
                      split
                      · rename_i hk2; rw [if_pos (by omega)]
                      · rename_i hk2; rw [if_neg (by omega), List.getElem?_drop]
                        simp; congr 1; omega
                  have hblk' : blk Φ r (.tok l ie.size) = some b := by simp [blk, hlen, hτ, hlt]
                  let Ψ := (Φ.addM b (xs.length * ie.size) us).setT r (xs.length + ys.length) (some ⟨b, 0, none⟩, cap)
                  have hle1 : Φ.le (Φ.addM b (xs.length * ie.size) us) := Phi.le_addM (fun o ho _ => g3 o ho) g4
                  have hle2 : (Φ.addM b (xs.length * ie.size) us).le Ψ := Phi.le_setT (fun y hy => by
                    have := k4 (xs.length + ys.length) (by have := List.length_pos_iff.2 hy0; omega)
                    rw [show (Φ.addM b (xs.length * ie.size) us).τ = Φ.τ from rfl, this] at hy; cases hy)
                  have hle : Φ.le Ψ := hle1.trans hle2
                  have htau : Ψ.τ r (xs.length + ys.length) = some (some ⟨b, 0, none⟩, cap) := Phi.setT_at
                  have hb' : (w.setRow b bs').heap[b]? = some (.cells bs' bt (0, 0)) := setRow_heap w b bs bs' bt (0, 0) g1
                  refine ran_new hle (hw.upd (w' := w.setRow b bs') hle rfl hl (fun s n hs => by simp [Ψ, Phi.setT, Phi.addM, hs]) ?_ ?_ ?_ ?_ ?_ ⟨rfl, rfl, rfl⟩) hrun ?_
                  · intro b1 o v hv
                    rcases Phi.addM_inv (show (Φ.addM b (xs.length * ie.size) us).M b1 o = some v from hv) with ⟨rfl, h2, h3⟩ | ⟨h2, h3⟩
                    · have := lt_of_get h3
                      rw [cell_cells hb', hget, if_neg (by omega), if_pos (by omega)]; exact h3
                    · by_cases hbb : b1 = b
                      · subst hbb
                        have hw0 := hw.mem _ _ _ h2
                        rw [cell_cells g1] at hw0
                        rw [cell_cells hb', hget]
                        split
                        · exact hw0
                        · rename_i hk
                          have := g3 o (by omega)
                          rw [h2] at this; cases this
                      · rw [cell_of (setRow_other w b b1 bs' hbb)]; exact hw.mem _ _ _ h2
                  · intro b1 ob hf
                    exact setRow_other w b b1 bs' (by rintro rfl; rw [g4] at hf; cases hf)
                  · intro s z b1 hne hz hzb
                    have hbb : b1 ≠ b := by rintro rfl; exact hne (hw.inj s r z _ _ hz hl hzb hblk')
                    refine ⟨setRow_other w b b1 bs' hbb, fun o ho => ?_⟩
                    show (Φ.addM b (xs.length * ie.size) us).M b1 o = none
                    simp only [Phi.addM]
                    rw [if_neg (fun hc => hbb hc.1)]; exact ho
                  · refine ⟨some ⟨b, 0, none⟩, cap, ?_, ?_, h0, fun m hm => ?_, fun _ => ⟨b, rfl, ⟨bs', bt, hb', by rw [hsize]; exact g2⟩, fun o ho => ?_, g4⟩⟩
                    · simp only [Ar.std, ← hxyl]; exact htau
                    · simpa [Ar.std] using hfit
                    · simp only [Ar.std, ← hxyl] at hm
                      have hne : m ≠ xs.length + ys.length := by omega
                      simp only [Ψ, Phi.setT, Phi.addM, hne, and_false, if_false]
                      exact k4 m (by omega)
                    · show (Φ.addM b (xs.length * ie.size) us).M b o = none
                      simp only [Ar.std, ← hxyl, Nat.add_mul] at ho
                      simp only [Phi.addM]
                      rw [if_neg (by rw [hul]; omega)]
                      exact g3 o (by omega)
                  · intro b1 hb1 s z hne hz hzb
                    simp only [blk, Ar.std, ← hxyl] at hb1
                    rw [htau] at hb1
                    simp only [Option.bind_some] at hb1
                    split at hb1
                    · cases hb1; exact hne (hw.inj s r z _ _ hz hl hzb hblk')
                    · cases hb1
                  · refine mk_slice (Φ := Ψ) (vs := vs ++ us) (.inr ⟨b, 0, rfl, fun k v hk => ?_⟩) (by simp [Ar.std]) hfit (by simpa [Ar.std] using hse) (by simpa [Ar.std] using hzz') (by simpa [Ar.std] using hRc.mono hle) (by simpa [Ar.std] using hpp) (by simpa [Ar.std] using hoo) ⟨hrN, htau⟩
                    show (Φ.addM b (xs.length * ie.size) us).M b (0 + k) = some v
                    rw [List.getElem?_append] at hk
                    split at hk
                    · rcases hH with ⟨hn, _⟩ | ⟨b2, off2, hA, hm2⟩
                      · cases hn
                      · cases hA
                        exact hle1.M _ _ _ (hm2 k v hk)
                    · rename_i hk2
                      have := Phi.addM_at (Φ := Φ) (b := b) (off := xs.length * ie.size) hk
                      rw [show xs.length * ie.size + (k - vs.length) = 0 + k by omega] at this
                      exact this
              · -- to a new row
                obtain ⟨c, hcc, cs, hcs, hcz, hrun⟩ := grow hfit
                have hw1 := hw.newRow (t := el) hcs (.inr rfl)
                have hy0 : 0 < ys.length := by omega
                let Ψ := (Φ.addM w.heap.size 0 (vs ++ us)).setT r (xs.length + ys.length) (some ⟨w.heap.size, 0, none⟩, c)
                have hle2 : (Φ.addM w.heap.size 0 (vs ++ us)).le Ψ := Phi.le_setT (fun y hy => by
                  have := k4 (xs.length + ys.length) (by omega)
                  rw [show (Φ.addM w.heap.size 0 (vs ++ us)).τ = Φ.τ from rfl, this] at hy; cases hy)
                have hle : Φ.le Ψ := (fresh_addM hw (vs ++ us) 0).trans hle2
                have htau : Ψ.τ r (xs.length + ys.length) = some (some ⟨w.heap.size, 0, none⟩, c) := Phi.setT_at
                refine ran_new hle (hw1.upd hle2 rfl hl (fun s n hs => by simp [Ψ, Phi.setT, Phi.addM, hs]) hw1.mem (fun _ _ _ => rfl) (fun _ _ _ _ _ _ => ⟨rfl, fun _ h => h⟩) ?_ ?_ ⟨rfl, rfl, rfl⟩) hrun ?_
                · refine ⟨_, c, ?_, ?_, h0, fun m hm => ?_, fun hlt => ⟨w.heap.size, rfl, ⟨cs, el, alloc_new, hcz⟩, fun o ho => ?_, hw.fresh.2.1⟩⟩
                  · simp only [Ar.std, ← hxyl]; exact htau
                  · simpa [Ar.std] using hcc
                  · simp only [Ar.std, ← hxyl] at hm
                    have hne : m ≠ xs.length + ys.length := by omega
                    simp only [Ψ, Phi.setT, Phi.addM, hne, and_false, if_false]
                    exact k4 m (by omega)
                  · show (Φ.addM w.heap.size 0 (vs ++ us)).M w.heap.size o = none
                    simp only [Phi.addM]
                    rw [if_neg (by simp only [Ar.std, ← hxyl, Nat.add_mul] at ho; simp [hvl, hul]; omega)]
                    exact hw.fresh.1 o
                · intro b hb s z hne hz
                  simp only [blk, Ar.std, ← hxyl] at hb
                  rw [htau] at hb
                  simp only [Option.bind_some] at hb
                  split at hb
                  · cases hb; exact hw.fresh.2.2 s z hz
                  · cases hb
                · refine mk_slice (Φ := Ψ) (.inr ⟨_, 0, rfl, fun k v hk => ?_⟩) (by simp [Ar.std]) hcc (by simpa [Ar.std] using hse) (by simpa [Ar.std] using hzz') (by simpa [Ar.std] using hRc.mono hle) (by simpa [Ar.std] using hpp) (by simpa [Ar.std] using hoo) ⟨hrN, htau⟩
                  exact Phi.addM_at hk
            · cases hr
          · cases hr
        · cases hr
      · cases hr
    · cases hr
  · cases hr

end
end AM

/- Values that are built; slices that are made; conversions; copy. -/
namespace AM
open Go

section
variable {P : Program} {Φ : Phi} {h : List Obj} {w : World}

theorem foldl_put (vs : List Value) : ∀ (cells : Array Value) (off j : Nat), off + j + vs.length ≤ cells.size →
    ((vs.zipIdx j).foldl (fun cs (p : Value × Nat) => cs.setIfInBounds (off + p.2) p.1) cells).toList = cells.toList.take (off + j) ++ vs ++ cells.toList.drop (off + j + vs.length) := by
  induction vs with
  | nil => intro cells off j _; simp
  | cons v vs ih =>
    intro cells off j hl
    simp only [List.zipIdx_cons, List.foldl_cons]
    simp only [List.length_cons] at hl
    rw [ih _ off (j + 1) (by simp; omega)]
    simp only [Array.toList_setIfInBounds, List.length_cons]
    have := list_seg_step cells.toList (off + j) v vs (by simp; omega)
    rw [show off + (j + 1) = off + j + 1 by omega]
    simpa using this

theorem fill_sim {pl : Nat → Option (Nat × Nat)} (step : List AV → List (Nat × AV) → Option (List AV))
    (hnil : ∀ cs, step cs [] = some cs)
    (hcons : ∀ cs i v rest r, step cs ((i, v) :: rest) = some r → ∃ off size cs', pl i = some (off, size) ∧ v.cells.length = size ∧ put cs off v.cells = some cs' ∧ step cs' rest = some r ∧ v.cells.all AV.one = true) :
    ∀ (parts : List (Nat × AV)) (parts' : List (Nat × Value)) (cs r : List AV) (cells : Array Value), parts.length = parts'.length →
      (∀ (k : Nat) (p : Nat × AV) (q : Nat × Value), parts[k]? = some p → parts'[k]? = some q → p.1 = q.1 ∧ VR Φ p.2 q.2) → VRs Φ cs cells.toList → step cs parts = some r →
      ∃ cells', Instr.fill pl cells parts' = some cells' ∧ VRs Φ r cells'.toList := by
  intro parts
  induction parts with
  | nil =>
    intro parts' cs r cells hl _ hR hs
    cases parts' with
    | nil => rw [hnil] at hs; cases hs; exact ⟨cells, rfl, hR⟩
    | cons p ps => simp at hl
  | cons p parts ih =>
    intro parts' cs r cells hl hp hR hs
    cases parts' with
    | nil => simp at hl
    | cons q parts' =>
      obtain ⟨i, v⟩ := p
      obtain ⟨i', v'⟩ := q
      obtain ⟨hi, hv⟩ := hp 0 (i, v) (i', v') rfl rfl
      simp only at hi hv
      subst hi
      obtain ⟨off, size, cs', h1, h2, h3, h4, h5⟩ := hcons cs i v parts r hs
      obtain ⟨hvR, _⟩ := cells_R hv h5
      obtain ⟨hle, hR'⟩ := put_R hR hvR h3
      have hsz : v'.cells.size = size := by rw [← h2, hvR.1]; simp
      have hfold := foldl_put v'.cells.toList cells off 0 (by simpa using hle)
      let cells1 := v'.cells.zipIdx.foldl (fun cs (p : Value × Nat) => cs.setIfInBounds (off + p.2) p.1) cells
      have hcells1 : cells1.toList = cells.toList.take off ++ v'.cells.toList ++ cells.toList.drop (off + v'.cells.toList.length) := by
        simp only [cells1]
        rw [← Array.foldl_toList, Array.toList_zipIdx]
        simpa using hfold
      obtain ⟨cells', k1, k2⟩ := ih parts' cs' r cells1 (by simpa using hl) (fun k p q h1 h2 => hp (k + 1) p q (by simpa using h1) (by simpa using h2)) (by rw [hcells1]; exact hR') h4
      refine ⟨cells', ?_, k2⟩
      rw [Instr.fill, h1]
      have : ¬ (v'.cells.size ≠ size || off + v'.cells.size > cells.size) = true := by
        simp only [Bool.or_eq_true, decide_eq_true_eq, not_or]
        simp only [Array.length_toList] at hle
        exact ⟨fun h => h hsz, by omega⟩
      simp only [this, if_false]
      exact k1

theorem parts_R (hT : TabR Φ) {tm : List AV} {a : Act} (ht : VRs Φ tm a.tmps.toList) (parts : List (Nat × Operand)) :
    ∀ (k : Nat) (p : Nat × AV) (q : Nat × Value), (parts.map fun p => (p.1, opnd tm p.2))[k]? = some p → (parts.map fun p => (p.1, a.eval p.2))[k]? = some q → p.1 = q.1 ∧ VR Φ p.2 q.2 := by
  intro k p q hp hq
  rw [List.getElem?_map] at hp hq
  cases hk : parts[k]? with
  | none => rw [hk] at hp; cases hp
  | some x => rw [hk] at hp hq; cases hp; cases hq; exact ⟨rfl, opnd_R hT ht x.2⟩

theorem run_mapM_info {fields : List Field} (hall : ∀ f ∈ fields, (P.info? f.type).isSome) :
    (fields.mapM (fun f => do pure (f.offset, ← Go.sizeOf f.type) : Field → Sem (Nat × Nat))).run P w = .ok (fields.map fun f => (f.offset, P.cellsOf f.type)) w := by
  induction fields with
  | nil => rfl
  | cons f fields ih =>
    obtain ⟨i, hi⟩ := Option.isSome_iff_exists.1 (hall f (by simp))
    rw [List.mapM_cons]
    simp only [Sem.run_bind, run_sizeT hi, Result.andThen_ok, Sem.run_pure, ih (fun f hf => hall f (by simp [hf])), List.map_cons]
    simp [Program.cellsOf, hi]

theorem build_sim (hT : TabR Φ) {t : TypeId} {d : TD} (hd : TDR P t d) {tm : List AV} {a : Act} (ht : VRs Φ tm a.tmps.toList) (parts : Array (Nat × Operand)) {r : List AV}
    (hr : match d with
      | .struct _ _ fs z => place fs z (parts.toList.map fun p => (p.1, opnd tm p.2)) = some r
      | .array _ esz _ z => placeAt esz z (parts.toList.map fun p => (p.1, opnd tm p.2)) = some r
      | _ => False) : ∃ v', (Instr.build t (parts.map fun p => (p.1, a.eval p.2))).run P w = .ok v' w ∧ VR Φ (.agg r) v' := by
  obtain ⟨i, z, hi, hs, hz, hZ, hl⟩ := hd.info
  cases d with
  | struct cmp n fs zs =>
    obtain ⟨fields, hu, hfs, hall, _⟩ := hd.kind
    dsimp only at hr
    let fs' := fields.toList.map fun f => (f.offset, P.cellsOf f.type)
    obtain ⟨cells', k1, k2⟩ := fill_sim (Φ := Φ) (pl := (fs'.toArray[·]?)) (place fs) (fun _ => rfl) (fun cs i v rest r hr => by
      simp only [place] at hr
      split at hr
      · rename_i off size ag hk
        split at hr
        · rename_i hc
          split at hr
          · rename_i cs' hp
            refine ⟨off, size, cs', ?_, hc.1, hp, hr, hc.2⟩
            rw [hfs, List.getElem?_map] at hk
            simp only [fs', List.getElem?_toArray, List.getElem?_map]
            cases hf : fields.toList[i]? with
            | none => rw [hf] at hk; cases hk
            | some f => rw [hf] at hk; cases hk; rfl
          · cases hr
        · cases hr
      · cases hr) _ (parts.map fun p => (p.1, a.eval p.2)).toList zs r z.cells (by simp) (by simpa using parts_R hT ht parts.toList) (hZ Φ) hr
    refine ⟨.agg cells', ?_, .agg _ _ k2.1 k2.2⟩
    unfold Instr.build
    have hm := run_mapM_info (P := P) (w := w) (fields := fields.toList) (fun f hf => (hall f (by simpa using hf)).1)
    have hm' : (fields.mapM (fun f => do pure (f.offset, ← Go.sizeOf f.type) : Field → Sem (Nat × Nat))).run P w = .ok fs'.toArray w := by
      rw [Array.mapM_eq_mapM_toList]
      simp only [Sem.run_map, hm, Result.andThen_ok, fs']
    simp only [Sem.run_bind, run_zero hi hz, Result.andThen_ok, run_underlying hu, hm', k1, Sem.run_pure]
  | array n esz ag zs =>
    obtain ⟨el, ie, hu, hie, hsz, _⟩ := hd.kind
    dsimp only at hr
    obtain ⟨cells', k1, k2⟩ := fill_sim (Φ := Φ) (pl := fun i => some (i * esz, esz)) (placeAt esz) (fun _ => rfl) (fun cs i v rest r hr => by
      simp only [placeAt] at hr
      split at hr
      · rename_i hc
        split at hr
        · rename_i cs' hp
          exact ⟨i * esz, esz, cs', rfl, hc.1, hp, hr, hc.2⟩
        · cases hr
      · cases hr) _ (parts.map fun p => (p.1, a.eval p.2)).toList zs r z.cells (by simp) (by simpa using parts_R hT ht parts.toList) (hZ Φ) hr
    refine ⟨.agg cells', ?_, .agg _ _ k2.1 k2.2⟩
    unfold Instr.build
    simp only [Sem.run_bind, run_zero hi hz, Result.andThen_ok, run_underlying hu, run_sizeT hie, hsz, k1, Sem.run_pure]
  | _ => exact hr.elim

end
end AM

/- Slices that are written out, and made; conversions. -/
namespace AM
open Go

section
variable {P : Program} {Φ : Phi} {h : List Obj} {w : World}

/-- parts in order, each of one size: they follow one another -/
theorem fill_seq (size : Nat) : ∀ (parts : List (Nat × Value)) (j : Nat) (cells : Array Value), (∀ (k : Nat) p, parts[k]? = some p → p.1 = j + k ∧ p.2.cells.size = size) → (j + parts.length) * size ≤ cells.size →
    ∃ cells', Instr.fill (fun i => some (i * size, size)) cells parts = some cells' ∧
      cells'.toList = cells.toList.take (j * size) ++ (parts.flatMap fun p => p.2.cells.toList) ++ cells.toList.drop ((j + parts.length) * size) := by
  intro parts
  induction parts with
  | nil => intro j cells _ _; exact ⟨cells, rfl, by simp⟩
  | cons p parts ih =>
    intro j cells hp hl
    obtain ⟨i, v⟩ := p
    obtain ⟨h1, h2⟩ := hp 0 (i, v) rfl
    simp only [Nat.add_zero] at h1 h2
    subst h1
    have hl1 : (i + 1 + parts.length) * size ≤ cells.size := by simp only [List.length_cons] at hl; rw [show i + 1 + parts.length = i + (parts.length + 1) by omega]; exact hl
    have hi1 : (i + 1) * size ≤ cells.size := Nat.le_trans (Nat.mul_le_mul_right _ (by omega)) hl1
    have hi2 : i * size + size ≤ cells.size := by rw [Nat.succ_mul] at hi1; exact hi1
    let cells1 := v.cells.zipIdx.foldl (fun cs (p : Value × Nat) => cs.setIfInBounds (i * size + p.2) p.1) cells
    have hfold := foldl_put v.cells.toList cells (i * size) 0 (by simp [h2]; omega)
    have hcells1 : cells1.toList = cells.toList.take (i * size) ++ v.cells.toList ++ cells.toList.drop (i * size + size) := by
      simp only [cells1]
      rw [← Array.foldl_toList, Array.toList_zipIdx]
      simpa [h2] using hfold
    have hsz1 : cells1.size = cells.size := by
      rw [← Array.length_toList, hcells1]
      simp only [List.length_append, List.length_take, List.length_drop, Array.length_toList, h2]
      omega
    obtain ⟨cells', k1, k2⟩ := ih (i + 1) cells1 (fun k p hk => by
      obtain ⟨a, b⟩ := hp (k + 1) p (by simpa using hk)
      exact ⟨by omega, b⟩) (by rw [hsz1]; exact hl1)
    refine ⟨cells', ?_, ?_⟩
    · rw [Instr.fill]
      have : ¬ (v.cells.size ≠ size || i * size + v.cells.size > cells.size) = true := by
        simp only [Bool.or_eq_true, decide_eq_true_eq, not_or]
        exact ⟨fun h => h h2, by omega⟩
      simp only [this, if_false]
      exact k1
    · rw [k2, hcells1]
      have e1 : (i + 1) * size = i * size + size := Nat.succ_mul _ _
      have l1 : (cells.toList.take (i * size)).length = i * size := by rw [List.length_take, Array.length_toList]; omega
      have l2 : v.cells.toList.length = size := by simp [h2]
      have t1 : (cells.toList.take (i * size) ++ v.cells.toList ++ cells.toList.drop (i * size + size)).take ((i + 1) * size) = cells.toList.take (i * size) ++ v.cells.toList := by
        rw [List.take_append_of_le_length (by simp only [List.length_append, l1, l2]; omega), List.take_of_length_le (by simp only [List.length_append, l1, l2]; omega)]
      have t2 : (cells.toList.take (i * size) ++ v.cells.toList ++ cells.toList.drop (i * size + size)).drop ((i + 1 + parts.length) * size) = cells.toList.drop ((i + 1 + parts.length) * size) := by
        have : i * size + size ≤ (i + 1 + parts.length) * size := by rw [← e1]; exact Nat.mul_le_mul_right _ (by omega)
        rw [List.drop_append, List.drop_of_length_le (by simp only [List.length_append, l1, l2]; exact this), List.nil_append, List.drop_drop]
        congr 1
        simp only [List.length_append, l1, l2]; omega
      rw [t1, t2]
      simp only [List.flatMap_cons, List.append_assoc, List.length_cons]
      rw [show i + 1 + parts.length = i + (parts.length + 1) by omega]

theorem inOrder_get : ∀ (parts : List (Nat × Operand)) (j : Nat), inOrder j parts = true → ∀ (k : Nat) p, parts[k]? = some p → p.1 = j + k := by
  intro parts
  induction parts with
  | nil => intro j _ k p hk; simp at hk
  | cons q parts ih =>
    intro j hj k p hk
    obtain ⟨i, x⟩ := q
    simp only [inOrder, Bool.and_eq_true, beq_iff_eq] at hj
    cases k with
    | zero => simp at hk; subst hk; simpa using hj.1
    | succ k => have := ih (j + 1) hj.2 k p (by simpa using hk); omega

theorem buildSlice_sim (hw : WR Φ h w) {t : TypeId} {esz eb : Nat} {ag : Bool} {zs : List AV} (hd : TDR P t (.slice esz ag eb zs)) {tm : List AV} {a : Act} (ht : VRs Φ tm a.tmps.toList) (n : Nat) (parts : Array (Nat × Operand))
    (hc : (inOrder 0 parts.toList && parts.size == n && esz ≠ 0 && n * esz ≤ 16777216 && noref.go 0 (parts.toList.map fun p => opnd tm p.2) && ((parts.toList.map fun p => opnd tm p.2).all fun v => v.cells.length == esz && v.cells.all AV.one)) = true) :
    Ran P Φ w (do pure (.value (← Instr.buildSlice t n (parts.map fun p => (p.1, a.eval p.2))))) (.slice (parts.toList.map fun p => opnd tm p.2) esz .exact) h := by
  obtain ⟨el, ie, iz, hu, hi, hsz, hby, hzz, hZ, hzl, _⟩ := hd.kind
  simp only [Bool.and_eq_true, beq_iff_eq, decide_eq_true_eq] at hc
  obtain ⟨⟨⟨⟨⟨c1, c2⟩, c3⟩, c4⟩, c5⟩, c6⟩ := hc
  have c6' : ∀ x ∈ parts.toList.map (fun p => opnd tm p.2), x.cells.length = esz ∧ x.cells.all AV.one = true := by
    intro x hx
    have := List.all_eq_true.1 c6 x hx
    simpa using this
  have hR : ∀ (l : List (Nat × Operand)), (∀ x ∈ l.map (fun p => opnd tm p.2), x.cells.length = esz ∧ x.cells.all AV.one = true) →
      VRs Φ (cellsOf (l.map fun p => opnd tm p.2)) ((l.map fun p => (p.1, a.eval p.2)).flatMap fun p => p.2.cells.toList) ∧ (∀ p ∈ l, (a.eval p.2).cells.size = esz) := by
    intro l
    induction l with
    | nil => intro _; exact ⟨.nil, fun p hp => by simp at hp⟩
    | cons p l ih =>
      intro hx
      obtain ⟨i1, i2⟩ := ih (fun x h => hx x (by simp at h ⊢; exact .inr h))
      obtain ⟨x1, x2⟩ := hx (opnd tm p.2) (by simp)
      obtain ⟨r1, r2⟩ := cells_R (opnd_R hw.tab ht p.2) x2
      refine ⟨r1.append i1, fun q hq => ?_⟩
      cases hq with
      | head => have := r1.1; rw [x1] at this; simpa using this.symm
      | tail _ hq => exact i2 q hq
  obtain ⟨hRc, hsizes⟩ := hR parts.toList c6'
  have hzs : iz.cells.size = esz := by have := (hZ Φ).1; simp only [Array.length_toList] at this; omega
  let zero : Array Value := if n * esz = 0 then #[] else iz.cells
  let cells0 := (Array.range (n * esz)).map (zero[· % zero.size]!)
  obtain ⟨cells', f1, f2⟩ := fill_seq esz (parts.map fun p => (p.1, a.eval p.2)).toList 0 cells0 (fun k p hk => by
    simp only [Array.toList_map, List.getElem?_map] at hk
    cases hp : parts.toList[k]? with
    | none => rw [hp] at hk; cases hk
    | some q =>
      rw [hp] at hk; cases hk
      exact ⟨inOrder_get _ 0 c1 k q hp, hsizes q (List.mem_of_getElem? hp)⟩) (by simp [cells0, c2])
  have hlen : (parts.map fun p => (p.1, a.eval p.2)).toList.length = n := by simp [c2]
  have f2' : cells'.toList = ((parts.toList.map fun p => (p.1, a.eval p.2)).flatMap fun p => p.2.cells.toList) := by
    rw [f2, hlen]
    simp only [Nat.zero_mul, List.take_zero, List.nil_append, Nat.zero_add, Array.toList_map]
    rw [List.drop_of_length_le (by simp [cells0])]
    simp
  rw [← f2'] at hRc
  have hw1 := hw.newRow (vs := cells'.toList) (cs := cells') (t := el) (fun k v hk => by simpa using hk) (.inl rfl)
  refine ran_new (fresh_addM hw _ 0) hw1 (v' := .slice (some ⟨w.heap.size, 0, none⟩) n n) ?_ ?_
  · unfold Instr.buildSlice
    have hnot : ¬ n * esz > 2 ^ 24 := by omega
    have f1' : Instr.fill (fun i => some (i * esz, esz)) cells0 (parts.toList.map fun p => (p.1, a.eval p.2)) = some cells' := by simpa using f1
    simp only [Sem.run_bind, run_underlying hu, Result.andThen_ok, run_sizeT hi, hsz]
    simp only [hnot, if_false, Sem.run_bind, Sem.run_pure, Result.andThen_ok, Array.toList_map]
    by_cases h0 : n * esz = 0
    · have e0 : ∀ f : Nat → Value, Array.map f (Array.range 0) = #[] := fun f => by simp
      simp only [cells0, zero, h0, if_true, e0] at f1'
      simp only [h0, if_true, Sem.run_bind, Sem.run_pure, Result.andThen_ok, e0, f1']
      simp [newRow]
    · simp only [cells0, zero, h0, if_false] at f1'
      simp only [h0, if_false, Sem.run_bind, run_zero hi hzz, Result.andThen_ok, Sem.run_pure, f1']
      simp [newRow]
  · have hn : n = (parts.toList.map fun p => opnd tm p.2).length := by simp [c2]
    rw [hn]
    refine mk_slice (vs := cells'.toList) (.inr ⟨_, 0, rfl, fun k v hk => Phi.addM_at hk⟩) rfl (Nat.le_refl _) (fun x hx => (c6' x hx).1) (fun h0 => absurd h0 c3) (hRc.mono (fresh_addM hw _ 0)) c5 ?_ rfl
    refine List.all_eq_true.2 (fun c hc => ?_)
    obtain ⟨x, hx, hcx⟩ := List.mem_flatMap.1 hc
    exact List.all_eq_true.1 (c6' x hx).2 c hcx

theorem makeCells_R {zs : List AV} {z : Array Value} {esz : Nat} (hz : VRs Φ zs z.toList) (hl : zs.length = esz) (h0 : esz ≠ 0) : ∀ n, VRs Φ (makeCells zs n) ((Array.range (n * esz)).map (z[· % z.size]!)).toList := by
  have hzs : z.size = esz := by have := hz.1; simp at this; omega
  intro n
  induction n with
  | zero => simpa [makeCells] using (VRs.nil : VRs Φ [] [])
  | succ n ih =>
    rw [makeCells, Nat.succ_mul, Nat.add_comm]
    have : ((Array.range (esz + n * esz)).map (z[· % z.size]!)).toList = z.toList ++ ((Array.range (n * esz)).map (z[· % z.size]!)).toList := by
      apply List.ext_getElem?
      intro k
      simp only [Array.toList_map, Array.toList_range, List.getElem?_map, List.getElem?_append, Array.length_toList, hzs]
      split
      · rename_i hk
        rw [List.getElem?_range (by omega), Array.getElem?_toList]
        simp only [Option.map_some, Nat.mod_eq_of_lt hk]
        rw [Array.getElem?_eq_getElem (by omega), getElem!_pos z k (by omega)]
      · rename_i hk
        by_cases hk2 : k < esz + n * esz
        · rw [List.getElem?_range hk2, List.getElem?_range (by omega)]
          simp only [Option.map_some]
          have : k % esz = (k - esz) % esz := by
            rw [Nat.mod_eq_sub_mod (by omega)]
          rw [this]
        · rw [List.getElem?_eq_none (by simpa using hk2), List.getElem?_eq_none (by simp; omega)]
    rw [this]
    exact hz.append ih

theorem makeSlice_sim (hw : WR Φ h w) {E : Env} (hA : E.ar = Ar.std) (hE : ∀ t d, E.td t = some d → TDR P t d) {own : Bool} {tm : List AV} {a : Act} (ht : VRs Φ tm a.tmps.toList) {ty ty' : TypeId} {L C : Operand} {v : AV} {h' : List Obj}
    (hop : op E own tm h ty' (.makeSlice ty L C) = some (.val v h')) : Ran P Φ w (do pure (.value (← Instr.makeSlice ty (a.eval L) (a.eval C)))) v h' := by
  simp only [op] at hop
  have hL := opnd_R hw.tab ht L
  have hC := opnd_R hw.tab ht C
  have hlit : lit0 L = true → a.eval L = .int .i64 0 ∨ ∃ k, a.eval L = .int k 0 := by
    intro hl
    unfold lit0 at hl
    split at hl
    · right; simp at hl; subst hl; exact ⟨_, rfl⟩
    · cases hl
  generalize hl' : a.eval L = L' at hL ⊢
  generalize a.eval C = C' at hC ⊢
  rw [hA] at hop
  split at hop
  · rename_i esz ag eb zs k n k' m h1 h2 h3
    rw [h2] at hL; rw [h3] at hC
    obtain ⟨el, ie, iz, hu, hi, hsz, hby, hzz, hZ, hzl, _⟩ := (hE _ _ h1).kind
    split at hop
    · rename_i hc
      split at hop
      · rename_i M hM
        obtain ⟨m0, m1, rfl⟩ := bnd_std hM
        split at hop
        · rename_i N hN
          obtain ⟨n0, n1, rfl⟩ := bnd_std hN
          cases hL; cases hC
          have hwn : IntKind.i64.wrap n = n := by simp [IntKind.wrap, IntKind.bits, IntKind.signed]; omega
          have hwm : IntKind.i64.wrap m = m := by simp [IntKind.wrap, IntKind.bits, IntKind.signed]; omega
          have hb : ¬ (ie.bytes : Int) * m > 2 ^ 48 := by
            have hb1 : (ie.bytes : Int) ≤ 4096 := by rw [hby]; omega
            have hb2 : (ie.bytes : Int) * m ≤ 4096 * 2147483648 := Int.le_trans (Int.mul_le_mul_of_nonneg_right hb1 m0) (Int.mul_le_mul_of_nonneg_left m1 (by decide))
            omega
          have hmz : m.toNat * esz = 0 ∨ m.toNat * esz ≠ 0 := by omega
          let zero : Array Value := if m.toNat * esz = 0 then #[] else iz.cells
          let cells0 := (Array.range (m.toNat * esz)).map (zero[· % zero.size]!)
          have hrun : (Instr.makeSlice ty (.int k n) (.int k' m)).run P w = .ok (.slice (some ⟨w.heap.size, 0, none⟩) n.toNat m.toNat) (w.alloc (.cells cells0 el)) := by
            unfold Instr.makeSlice
            simp only [Sem.run_bind, run_underlying hu, Result.andThen_ok, asInt, asIntOf, Sem.run_pure, run_info hi, hwn, hwm]
            have c1 : ((decide (m < 0) || decide ((ie.bytes : Int) * m > 2 ^ 48)) || decide (n < 0) || decide (n > m)) = false := by
              simp only [Bool.or_eq_false_iff, decide_eq_false_iff_not]
              exact ⟨⟨⟨by omega, hb⟩, by omega⟩, by omega⟩
            simp only [c1, Bool.false_eq_true, if_false, Sem.run_bind, Sem.run_pure, Result.andThen_ok, run_askRoom, run_sizeT hi, hsz]
            have e0 : ∀ f : Nat → Value, Array.map f (Array.range 0) = #[] := fun f => by simp
            by_cases h0 : m.toNat * esz = 0
            · simp only [cells0, zero, h0, if_true, Sem.run_bind, Sem.run_pure, Result.andThen_ok, newRow, run_newObj, e0]; rfl
            · simp only [cells0, zero, h0, if_false, Sem.run_bind, run_zero hi hzz, Sem.run_pure, Result.andThen_ok, newRow, run_newObj]; rfl
          have hcR : VRs Φ (makeCells zs m.toNat) cells0.toList := by
            by_cases h0 : m.toNat * esz = 0
            · have hm0 : m.toNat = 0 := by
                rcases Nat.mul_eq_zero.1 h0 with h | h
                · exact h
                · exact absurd h hc.2
              simp only [cells0, hm0, makeCells, Nat.zero_mul]
              simpa using (VRs.nil : VRs Φ [] [])
            · simp only [cells0, zero, h0, if_false]
              exact makeCells_R (by have := hZ Φ; exact this) hzl hc.2 m.toNat
          split at hop
          · rename_i hlit0
            cases hop
            have hn0 : n = 0 := by
              rcases hlit hlit0 with h | ⟨k2, h⟩ <;> rw [hl'] at h <;> cases h <;> rfl
            subst hn0
            let Ψ := Φ.newT 0 (some ⟨w.heap.size, 0, none⟩, m.toNat)
            have hle : Φ.le Ψ := Phi.le_newT _ _ _
            refine ran_new hle ((hw.alloc _).more hle rfl rfl (fun r n hr => by simp only [Ψ, Phi.newT]; rw [if_neg (by omega)]) ?_ ?_) hrun ?_
            · exact ⟨_, m.toNat, Phi.newT_τ _ _ _, Nat.zero_le _, hc.2, fun m' hm => newT_none hm, fun _ => ⟨_, rfl, ⟨cells0, el, alloc_new, by simp [cells0]⟩, fun o _ => hw.fresh.1 o, hw.fresh.2.1⟩⟩
            · intro b hb r x hr
              simp only [blk] at hb
              rw [show Ψ.τ Φ.N ([] : List AV).length = some (some ⟨w.heap.size, 0, none⟩, m.toNat) from Phi.newT_τ _ _ _] at hb
              simp only [Option.bind_some] at hb
              split at hb
              · cases hb; exact hw.fresh.2.2 r x hr
              · cases hb
            · exact mk_slice (vs := []) (.inr ⟨_, 0, rfl, fun k v hk => by simp at hk⟩) rfl (Nat.zero_le _) (fun x hx => by simp at hx) (fun _ => rfl) .nil rfl rfl ⟨by simp [Ψ, Phi.newT, hw.len], by rw [hw.len]; exact Phi.newT_τ _ _ _⟩
          · cases hop
            refine ran_new (Φ.le_new _) (hw.newCells hcR el) hrun ?_
            have := VR.mslice (Φ := Φ.new w.heap.size) h.length 0 n.toNat m.toNat esz ag (by simp [Phi.new, hw.len]) (by omega)
            rw [show (Φ.new w.heap.size).φ h.length = w.heap.size from by rw [hw.len]; exact Phi.new_φ _ _] at this
            exact this
        · cases hop
      · cases hop
    · cases hop
  · cases hop

theorem bytes_run (f : Value → ByteArray → Sem (ForInStep ByteArray)) (hf : ∀ n s, f (.int .u8 n) s = pure (ForInStep.yield (s.push (UInt8.ofNat n.toNat)))) {us : List Value} : ∀ (xs : List AV) (bs : List UInt8) (acc : ByteArray), VRs Φ xs us → toBytes xs = some bs →
    ∃ s : ByteArray, s.data.toList = acc.data.toList ++ bs ∧ (forIn us acc f : Sem ByteArray).run P w = .ok s w := by
  induction us with
  | nil =>
    intro xs bs acc hR hb
    have : xs = [] := List.eq_nil_of_length_eq_zero (by simpa using hR.1)
    subst this
    cases hb
    exact ⟨acc, by simp, rfl⟩
  | cons u us ih =>
    intro xs bs acc hR hb
    cases xs with
    | nil => have := hR.1; simp at this
    | cons x xs =>
      obtain ⟨v, vs, he, h1, h2⟩ := hR.inv_cons
      cases he
      unfold toBytes at hb
      split at hb
      · rename_i heq; cases heq
      · rename_i n xs' heq
        cases heq
        split at hb
        · rename_i bs' hbs
          cases hb
          cases h1
          obtain ⟨s, s1, s2⟩ := ih xs bs' (acc.push (UInt8.ofNat n.toNat)) h2 hbs
          refine ⟨s, by rw [s1]; simp [ByteArray.data_push], ?_⟩
          rw [List.forIn_cons]
          simp only [hf, Sem.run_bind, Sem.run_pure, Result.andThen_ok]
          exact s2
        · cases hb
      · cases hb

theorem convB_inv {s d : TD} {x : AV} {b : List UInt8} (h : convB s d x = some b) : s = .str ∧ d = .slice 1 false 1 [.int .u8 0] ∧ x = .str b := by
  unfold convB at h
  split at h
  · rename_i b'
    cases hb : Nat.ble b'.length 1000000 with
    | true => rw [hb] at h; cases h; exact ⟨rfl, rfl, rfl⟩
    | false => rw [hb] at h; cases h
  · cases h

theorem bytes_sim (hw : WR Φ h w) {s t : TypeId} (hs : TDR P s .str) (ht : TDR P t (.slice 1 false 1 [.int .u8 0])) {b : List UInt8} {x' : Value} (hx : VR Φ (.str b) x') :
    Ran P Φ w (do pure (.value (← Go.convert s t x'))) (.slice (b.map fun c => .int .u8 c.toNat) 1 .none) h := by
  cases hx with
  | str b =>
    obtain ⟨el, ie, iz, hu, hi, hsz, hby, hzz, hZ, hzl, _, _, hel⟩ := ht.kind
    have hel := hel rfl
    have hrun := Lib.run_convert_string_bytes w s t el b (show P.underlying s = some .string from hs.kind) hu hel
    let vs : List Value := b.data.toList.map fun c => .int .u8 c.toNat
    have hw1 : WR (Φ.addM w.heap.size 0 vs) h (Lib.bytesWorld w el b) := by
      refine hw.same (fresh_addM hw vs 0) rfl (fun _ _ => rfl) (fun k hk => Lib.bytesWorld_at_old w el b k (hw.held_lt hk)) (fun k o v hv => ?_) ⟨rfl, rfl, rfl⟩
      rcases Phi.addM_inv hv with ⟨rfl, _, h2⟩ | ⟨h1, _⟩
      · right
        refine ⟨?_, hw.fresh.2.2⟩
        simp only [Nat.sub_zero, vs, List.getElem?_map] at h2
        cases hc : b.data.toList[o]? with
        | none => rw [hc] at h2; cases h2
        | some c =>
          rw [hc] at h2; cases h2
          have hlt : o < b.size := by have := (List.getElem?_eq_some_iff.1 hc).1; simpa using this
          rw [Lib.bytesWorld_cell w el b o hlt, List.getD_eq_getElem?_getD, hc]; rfl
      · exact .inl h1
    refine ran_new (fresh_addM hw _ 0) hw1 hrun ?_
    have hflat : ∀ l : List UInt8, cellsOf (l.map fun c => AV.int .u8 c.toNat) = l.map fun c => AV.int .u8 c.toNat := by
      intro l
      induction l with
      | nil => rfl
      | cons c l ih =>
        simp only [cellsOf, List.map_cons, List.flatMap_cons, AV.cells, List.singleton_append] at ih ⊢
        rw [ih]
    refine mk_slice (vs := vs) (.inr ⟨_, 0, rfl, fun k v hk => Phi.addM_at hk⟩) (by simp) (grownCap_ge w _ _ _) (fun x hx => ?_) (fun h0 => by cases h0) ?_ ?_ ?_ trivial
    · obtain ⟨c, _, rfl⟩ := List.mem_map.1 hx; rfl
    · rw [hflat]
      refine VRs.of (by simp [vs]) (fun k a v ha hv => ?_)
      simp only [vs, List.getElem?_map] at ha hv
      cases hc : b.data.toList[k]? with
      | none => rw [hc] at ha; cases ha
      | some c => rw [hc] at ha hv; cases ha; cases hv; exact .int _ _
    · have : ∀ l : List UInt8, noref.go 0 (l.map fun c => AV.int .u8 c.toNat) = true := by
        intro l
        induction l with
        | nil => rfl
        | cons c l ih => simp [noref.go, noref, ih]
      exact this _
    · rw [hflat]
      refine List.all_eq_true.2 (fun x hx => ?_)
      obtain ⟨c, _, rfl⟩ := List.mem_map.1 hx; rfl

theorem convert_sim (hw : WR Φ h w) {s t : TypeId} {ds dt : TD} (hs : TDR P s ds) (ht : TDR P t dt) {x z : AV} {x' : Value} (hx : VR Φ x x') (hz : convert Ar.std ds dt x h = some z) :
    ∃ v', (Go.convert s t x').run P w = .ok v' w ∧ VR Φ z v' := by
  obtain ⟨us, hus⟩ := und_of hs
  unfold convert at hz
  split at hz
  · cases hx; cases hz
    refine ⟨_, ?_, .int _ _⟩
    unfold Go.convert
    simp only [Sem.run_bind, run_underlying hus, run_underlying (show P.underlying t = some (.int _) from ht.kind), Result.andThen_ok]
    rfl
  · cases hx; cases hz
    refine ⟨_, ?_, .str _⟩
    unfold Go.convert
    simp only [Sem.run_bind, run_underlying (show P.underlying s = some .string from hs.kind), run_underlying (show P.underlying t = some .string from ht.kind), Result.andThen_ok]
    rfl
  · cases hx; cases hz
    refine ⟨_, ?_, .str _⟩
    unfold Go.convert
    simp only [Sem.run_bind, run_underlying (show P.underlying s = some (.int _) from hs.kind), run_underlying (show P.underlying t = some .string from ht.kind), Result.andThen_ok]
    rfl
  · split at hz
    · rename_i xs e he
      split at hz
      · rename_i hc
        cases hb : Ar.std.ofBytes xs with
        | none => rw [hb] at hz; cases hz
        | some bs =>
          rw [hb] at hz; cases hz
          obtain ⟨el, ie, iz, hu, hi, hsz, hby, hzz, hZ, hzl, _, _, hel⟩ := hs.kind
          have hel := hel rfl
          have hred : (Go.convert s t x').run P w = (Conv.bytesToString x').run P w ∨ True := .inr trivial
          rcases elems_sim hw hx he with ⟨rfl, A, rfl⟩ | ⟨b, off, cap, vs, rfl, hcap, L⟩
          · have : bs = [] := by simp [Ar.std, toBytes] at hb; exact hb
            subst this
            refine ⟨.string .empty, ?_, .str .empty⟩
            unfold Go.convert
            simp only [Sem.run_bind, run_underlying hu, run_underlying (show P.underlying t = some .string from ht.kind), Result.andThen_ok, run_underlying hel]
            cases A with
            | none => rfl
            | some a => rfl
          · have hsz1 : ∀ x ∈ xs, x.cells.length = 1 := by
              rcases hc with rfl | h0
              · exact L.sz
              · have := L.z h0; subst this; exact fun x hx => by simp at hx
            have hcx : cellsOf xs = xs := by
              have : ∀ l : List AV, toBytes l ≠ none → cellsOf l = l := by
                intro l
                induction l with
                | nil => intro _; rfl
                | cons x l ih =>
                  intro hn
                  unfold toBytes at hn
                  split at hn
                  · rename_i heq; cases heq
                  · rename_i n l' heq
                    cases heq
                    split at hn
                    · rename_i bs' hbs
                      have := ih (by rw [hbs]; simp)
                      simp only [cellsOf, List.flatMap_cons] at this ⊢
                      rw [this]; rfl
                    · exact absurd rfl hn
                  · exact absurd rfl hn
              exact this xs (by simp only [Ar.std] at hb; rw [hb]; simp)
            have hR := L.R
            rw [hcx] at hR
            have hfin : ∀ (f : Value → ByteArray → Sem (ForInStep ByteArray)) (hf : ∀ n s, f (.int .u8 n) s = pure (ForInStep.yield (s.push (UInt8.ofNat n.toNat)))),
                ∃ v', ((forIn vs ByteArray.empty f).run P w).andThen (fun a w' => (pure (.string a) : Sem Value).run P w') = .ok v' w ∧ VR Φ (.str bs) v' := by
              intro f hf
              obtain ⟨str, s1, s2⟩ := bytes_run (P := P) (w := w) f hf xs bs .empty hR hb
              exact ⟨.string str, by rw [s2]; rfl, by rw [show bs = str.data.toList from by simpa using s1.symm]; exact VR.str str⟩
            unfold Go.convert
            simp only [Sem.run_bind, run_underlying hu, run_underlying (show P.underlying t = some .string from ht.kind), Result.andThen_ok, run_underlying hel]
            unfold Conv.bytesToString
            have hload : (loadCells ⟨b, off, none⟩ xs.length).run P w = .ok vs.toArray w := by
              have := run_loadCells_list (P := P) w ⟨b, off, none⟩ vs (fun j v hj => by rw [Addr.add_lit]; exact L.c j v hj)
              rw [← hR.1] at this; exact this
            simp only [Sem.run_bind, hload, Result.andThen_ok]
            simp only [List.forIn_toArray]
            exact hfin _ (fun _ _ => rfl)
      · cases hz
    · cases hz
  · cases hz

end
end AM

/- Maps. -/
namespace AM
open Go

section
variable {P : Program} {Φ : Phi} {h : List Obj} {w : World}

theorem same1_true {p : PK} {a b : AV} {a' b' : Value} (ha : VR Φ a a') (hb : VR Φ b b') (hs : same1 p a b = some true) : a' = b' := by
  unfold same1 at hs
  split at hs
  · cases ha; cases hb; simp at hs; rw [hs]
  · cases ha; cases hb
    split at hs
    · rename_i hk; simp at hs; rw [hk, hs]
    · cases hs
  · cases ha; cases hb
    rename_i s t
    simp at hs
    rw [ByteArray.ext hs]
  · cases hs

theorem sames_true : ∀ (ps : List PK) (as bs : List AV) (xs ys : List Value), VRs Φ as xs → VRs Φ bs ys → sames ps as bs = some true → xs = ys := by
  intro ps
  induction ps with
  | nil =>
    intro as bs xs ys ha hb hs
    cases as with
    | nil => cases bs with
      | nil => rw [ha.inv_nil, hb.inv_nil]
      | cons b bs => simp [sames] at hs
    | cons a as => simp [sames] at hs
  | cons p ps ih =>
    intro as bs xs ys ha hb hs
    cases as with
    | nil => simp [sames] at hs
    | cons a as => cases bs with
      | nil => simp [sames] at hs
      | cons b bs =>
        obtain ⟨x, xs, rfl, h1, h2⟩ := ha.inv_cons
        obtain ⟨y, ys, rfl, k1, k2⟩ := hb.inv_cons
        rw [sames] at hs
        cases hr : same1 p a b with
        | none => rw [hr] at hs; cases hs
        | some r =>
          cases hs' : sames ps as bs with
          | none => rw [hr, hs'] at hs; cases hs
          | some s =>
            rw [hr, hs'] at hs
            simp only [Option.some.injEq, Bool.and_eq_true] at hs
            obtain ⟨rfl, rfl⟩ := hs
            rw [same1_true h1 k1 hr, ih _ _ _ _ h2 k2 hs']

theorem keySame_true {ks : Keys} {a b : AV} {a' b' : Value} (ha : VR Φ a a') (hb : VR Φ b b') (hs : keySame ks a b = some true) : a' = b' := by
  unfold keySame at hs
  split at hs
  · exact same1_true ha hb hs
  · split at hs
    · cases ha with | agg _ xs hl hv => cases hb with | agg _ ys kl kv =>
      have := sames_true _ _ _ xs.toList ys.toList ⟨hl, hv⟩ ⟨kl, kv⟩ hs
      rw [Array.toList_inj.1 this]
    · cases hs

theorem kindOk_bits {p : PK} {a : AV} {a' : Value} (ha : VR Φ a a') (hk : kindOk p a = true) (n : Nat) : Instr.sameBits n a' a' = true := by
  unfold kindOk at hk
  split at hk
  · cases ha; simp [Instr.sameBits]
  · cases ha; simp [Instr.sameBits]
  · cases ha; simp only [Instr.sameBits]; exact (ba_eq _ _).2 rfl
  · cases hk

theorem kindsOk_bits (n : Nat) : ∀ (ps : List PK) (as : List AV) (xs : List Value), VRs Φ as xs → kindsOk ps as = true → ((xs.zip xs).all fun (x, y) => Instr.sameBits n x y) = true := by
  intro ps
  induction ps with
  | nil =>
    intro as xs ha hk
    cases as with
    | nil => rw [ha.inv_nil]; rfl
    | cons a as => simp [kindsOk] at hk
  | cons p ps ih =>
    intro as xs ha hk
    cases as with
    | nil => simp [kindsOk] at hk
    | cons a as =>
      obtain ⟨x, xs, rfl, h1, h2⟩ := ha.inv_cons
      simp only [kindsOk, Bool.and_eq_true] at hk
      simp only [List.zip_cons_cons, List.all_cons, Bool.and_eq_true]
      exact ⟨kindOk_bits h1 hk.1 n, ih _ _ h2 hk.2⟩

theorem keyOk_bits {ks : Keys} {a : AV} {a' : Value} (ha : VR Φ a a') (hk : keyOk ks a = true) : Instr.sameBits 10000 a' a' = true := by
  unfold keyOk at hk
  split at hk
  · exact kindOk_bits ha hk _
  · cases ha with | agg _ xs hl hv =>
    rw [show (10000 : Nat) = 9999 + 1 from rfl, Instr.sameBits]
    simp only [Bool.and_eq_true, beq_self_eq_true, true_and]
    exact kindsOk_bits _ _ _ xs.toList ⟨hl, hv⟩ hk
  · cases hk

def Found (Φ : Phi) (es' : List MapEntry) (i : Nat) (k' : Value) : Option (Nat × AV) → Option (Nat × Value) → Prop
  | none, none => True
  | some (j, v), some (j', v') => j = j' ∧ ∃ m e, j = i + m ∧ es'[m]? = some e ∧ e.key = k' ∧ e.val = v' ∧ VR Φ v v'
  | _, _ => False

theorem Found.next {e : MapEntry} {es' : List MapEntry} {i : Nat} {k' : Value} {r : Option (Nat × AV)} {r' : Option (Nat × Value)} (h : Found Φ es' (i + 1) k' r r') : Found Φ (e :: es') i k' r r' := by
  cases r with
  | none => cases r' with
    | none => trivial
    | some x => exact h.elim
  | some x => cases r' with
    | none => exact h.elim
    | some y =>
      obtain ⟨j, v⟩ := x
      obtain ⟨j', v'⟩ := y
      obtain ⟨h1, m, e', h2, h3, h4⟩ := h
      exact ⟨h1, m + 1, e', by omega, by simpa using h3, h4⟩

/-- one comparison of keys, and what the search makes of it -/
theorem find_step (f : List MapEntry → Nat → Option (Option (Nat × Value))) (ks : Keys) {k : AV} {k' : Value} (hk : VR Φ k k') (same : Value → Option Bool)
    (h0 : ∀ i, f [] i = some none) (h1 : ∀ e es i, f (e :: es) i = (match same e.key with | some true => some (some (i, e.val)) | some false => f es (i + 1) | none => none))
    (hsame : ∀ x x', VR Φ x x' → ∀ b, keySame ks k x = some b → same x' = some b) :
    ∀ (es : List (AV × AV)) (es' : List MapEntry) (i : Nat) r, VRs Φ (es.map (·.1)) (es'.map (·.key)) → VRs Φ (es.map (·.2)) (es'.map (·.val)) → findFrom ks k es i = some r →
      ∃ r', f es' i = some r' ∧ Found Φ es' i k' r r' := by
  intro es
  induction es with
  | nil =>
    intro es' i r hK hV hf
    have : es' = [] := by have := hK.inv_nil; simpa using this
    subst this
    cases hf
    exact ⟨none, h0 i, trivial⟩
  | cons e es ih =>
    intro es' i r hK hV hf
    cases es' with
    | nil => have := hK.1; simp at this
    | cons e' es' =>
      simp only [List.map_cons] at hK hV
      obtain ⟨_, _, heq, hk1, hK'⟩ := hK.inv_cons
      cases heq
      obtain ⟨_, _, heq, hv1, hV'⟩ := hV.inv_cons
      cases heq
      unfold findFrom at hf
      split at hf
      · rename_i hs
        cases hf
        refine ⟨some (i, e'.val), by rw [h1, hsame _ _ hk1 _ hs], rfl, 0, e', rfl, rfl, (keySame_true hk hk1 hs).symm, rfl, hv1⟩
      · rename_i hs
        obtain ⟨r', f1, f2⟩ := ih es' (i + 1) r hK' hV' hf
        exact ⟨r', by rw [h1, hsame _ _ hk1 _ hs]; exact f1, f2.next⟩
      · cases hf

theorem asking_step (ks : Keys) {kt : TypeId} {k : AV} {k' : Value} (hk : VR Φ k k')
    (hsame : ∀ x x', VR Φ x x' → ∀ b, keySame ks k x = some b → (Op.equal kt k' x').run P w = .ok b w) :
    ∀ (es : List (AV × AV)) (es' : List MapEntry) (i : Nat) r, VRs Φ (es.map (·.1)) (es'.map (·.key)) → VRs Φ (es.map (·.2)) (es'.map (·.val)) → findFrom ks k es i = some r →
      ∃ r', (Instr.findAsking kt k' es' i).run P w = .ok r' w ∧ Found Φ es' i k' r r' := by
  intro es
  induction es with
  | nil =>
    intro es' i r hK hV hf
    have : es' = [] := by have := hK.inv_nil; simpa using this
    subst this
    cases hf
    exact ⟨none, rfl, trivial⟩
  | cons e es ih =>
    intro es' i r hK hV hf
    cases es' with
    | nil => have := hK.1; simp at this
    | cons e' es' =>
      simp only [List.map_cons] at hK hV
      obtain ⟨_, _, heq, hk1, hK'⟩ := hK.inv_cons
      cases heq
      obtain ⟨_, _, heq, hv1, hV'⟩ := hV.inv_cons
      cases heq
      unfold findFrom at hf
      split at hf
      · rename_i hs
        cases hf
        refine ⟨some (i, e'.val), ?_, rfl, 0, e', rfl, rfl, (keySame_true hk hk1 hs).symm, rfl, hv1⟩
        rw [Instr.findAsking]
        simp [hsame _ _ hk1 _ hs]
      · rename_i hs
        obtain ⟨r', f1, f2⟩ := ih es' (i + 1) r hK' hV' hf
        refine ⟨r', ?_, f2.next⟩
        rw [Instr.findAsking]
        simp [hsame _ _ hk1 _ hs, f1]
      · cases hf

theorem find_sim {ks : Keys} {kt : TypeId} (hkt : KeyR P kt ks) {k : AV} {k' : Value} (hk : VR Φ k k') {es : List (AV × AV)} {es' : Array MapEntry}
    (hK : VRs Φ (es.map (·.1)) (es'.toList.map (·.key))) (hV : VRs Φ (es.map (·.2)) (es'.toList.map (·.val))) {r : Option (Nat × AV)} (hf : findFrom ks k es 0 = some r) :
    ∃ r', (Instr.findKey kt k' es'.toList).run P w = .ok r' w ∧ Found Φ es'.toList 0 k' r r' := by
  cases ks with
  | one p =>
    obtain ⟨d, hd⟩ := kindT_und hkt
    obtain ⟨r', h1, h2⟩ := find_step (Φ := Φ) (fun es i => Instr.findNow d k' es i) (.one p) hk (Instr.sameNow d k') (fun i => rfl) (fun e es i => rfl) (fun x x' hx b hs => by
      simp only [keySame, same1] at hs
      cases p with
      | bool =>
        rw [show P.underlying kt = some .bool from hkt] at hd; cases hd
        cases hk <;> try (simp at hs; done)
        cases hx <;> try (simp at hs; done)
        simpa [Instr.sameNow] using hs
      | int =>
        obtain ⟨kk, hkk⟩ := hkt
        rw [hkk] at hd; cases hd
        cases hk <;> try (simp at hs; done)
        cases hx <;> try (simp at hs; done)
        simpa [Instr.sameNow] using hs
      | str =>
        rw [show P.underlying kt = some .string from hkt] at hd; cases hd
        cases hk <;> try (simp at hs; done)
        cases hx <;> try (simp at hs; done)
        rename_i s t
        simp only [Option.some.injEq] at hs
        simp only [Instr.sameNow, Option.some.injEq]
        rw [← hs]
        rw [Bool.eq_iff_iff, ba_eq]
        simp only [beq_iff_eq]
        exact ⟨fun h => by rw [h], fun h => ByteArray.ext (by simpa using h)⟩) es es'.toList 0 r hK hV hf
    exact ⟨r', MapKept.run_findKey hd h1, h2⟩
  | fields ps =>
    obtain ⟨fields, hu, hp⟩ := hkt
    obtain ⟨r', h1, h2⟩ := asking_step (P := P) (w := w) (Φ := Φ) (.fields ps) (kt := kt) hk (fun x x' hx b hs => by
      simp only [keySame] at hs
      split at hs
      · cases hk with | agg _ xs hl hv => cases hx with | agg _ ys kl kv =>
        exact struct_eq hu hp ⟨hl, hv⟩ ⟨kl, kv⟩ hs 9998
      · cases hs) es es'.toList 0 r hK hV hf
    refine ⟨r', ?_, h2⟩
    unfold Instr.findKey
    simp only [Sem.run_bind, run_underlying hu, Result.andThen_ok]
    cases hes : es'.toList with
    | nil =>
      rw [hes] at h1
      simpa [Instr.findNow, Instr.findAsking] using h1
    | cons e l =>
      rw [hes] at h1
      have : Instr.findNow (.struct fields) k' (e :: l) 0 = none := by
        rw [Instr.findNow]
        have : Instr.sameNow (.struct fields) k' e.key = none := by unfold Instr.sameNow; split <;> first | rfl | contradiction
        rw [this]
      simp only [this]
      exact h1

theorem run_forIn_unit {α : Type} (f : α → PUnit → Sem (ForInStep PUnit)) : ∀ (l : List α), (∀ x ∈ l, (f x ⟨⟩).run P w = .ok (.yield ⟨⟩) w) → (forIn l ⟨⟩ f : Sem PUnit).run P w = .ok ⟨⟩ w := by
  intro l
  induction l with
  | nil => intro _; rfl
  | cons x l ih =>
    intro h
    rw [List.forIn_cons]
    simp only [Sem.run_bind, h x (.head _), Result.andThen_ok]
    exact ih (fun y hy => h y (.tail _ hy))

theorem checkKey_word {p : PK} {t : TypeId} (ht : kindT P t p) {k : AV} {k' : Value} (hk : VR Φ k k') (ho : kindOk p k = true) (e : Bool) (n : Nat) : (Instr.checkKey e (n + 1) t k').run P w = .ok () w := by
  obtain ⟨d, hd⟩ := kindT_und ht
  rw [Instr.checkKey]
  simp only [Sem.run_bind, run_underlying hd, Result.andThen_ok]
  cases p with
  | bool =>
    rw [show P.underlying t = some .bool from ht] at hd; cases hd; rfl
  | int =>
    obtain ⟨kk, hkk⟩ := ht
    rw [hkk] at hd; cases hd; rfl
  | str =>
    rw [show P.underlying t = some .string from ht] at hd; cases hd; rfl

theorem checkKey_sim {ks : Keys} {kt : TypeId} (hkt : KeyR P kt ks) {k : AV} {k' : Value} (hk : VR Φ k k') (ho : keyOk ks k = true) (e : Bool) : (Instr.checkKey e 10000 kt k').run P w = .ok () w := by
  rw [show (10000 : Nat) = 9998 + 1 + 1 from rfl]
  unfold keyOk at ho
  split at ho
  · exact checkKey_word hkt hk ho e _
  · rename_i ps cs
    cases hk with | agg _ xs hl hv =>
    obtain ⟨fields, hu, h1, h2, h3, h4⟩ := hkt
    rw [Instr.checkKey]
    simp only [Sem.run_bind, run_underlying hu, Result.andThen_ok]
    have hkinds : ∀ (ps : List PK) (cs : List AV), kindsOk ps cs = true → ps.length = cs.length ∧ ∀ (j : Nat) p c, ps[j]? = some p → cs[j]? = some c → kindOk p c = true := by
      intro ps
      induction ps with
      | nil =>
        intro cs h
        cases cs with
        | nil => exact ⟨rfl, fun j p c h => by simp at h⟩
        | cons c cs => simp [kindsOk] at h
      | cons p ps ih =>
        intro cs h
        cases cs with
        | nil => simp [kindsOk] at h
        | cons c cs =>
          simp only [kindsOk, Bool.and_eq_true] at h
          obtain ⟨i1, i2⟩ := ih cs h.2
          refine ⟨by simp [i1], fun j p' c' hp hc => ?_⟩
          cases j with
          | zero => simp at hp hc; subst hp; subst hc; exact h.1
          | succ j => exact i2 j p' c' (by simpa using hp) (by simpa using hc)
    obtain ⟨k1, k2⟩ := hkinds ps cs ho
    rw [← Array.forIn_toList]
    rw [run_forIn_unit]
    · rfl
    intro f hf
    obtain ⟨j, hj⟩ := List.getElem?_of_mem hf
    have hjl : j < ps.length := by rw [← h3]; have := lt_of_get hj; simpa using this
    have hp : ps[j]? = some ps[j] := List.getElem?_eq_getElem hjl
    have hc : cs[j]? = some (cs[j]'(k1 ▸ hjl)) := List.getElem?_eq_getElem (k1 ▸ hjl)
    obtain ⟨a1, a2, a3⟩ := h4 j f _ (by simpa using hj) hp
    obtain ⟨v, hv1, hv2⟩ := VRs.get ⟨hl, hv⟩ hc
    obtain ⟨u, huf⟩ := kindT_und a3
    have hpart : (part f.type xs f.offset).run P w = .ok v w := by
      unfold part
      have hv1' : xs[j]? = some v := by simpa using hv1
      simp [run_isAgg huf, kindT_agg a3, a1, hv1']
    simp only [a2, ne_eq, not_false_eq_true, if_true, Sem.run_bind, hpart, Result.andThen_ok, checkKey_word a3 hv2 (k2 j _ _ hp hc)]
    rfl
  · cases ho

theorem lookup_sim (hw : WR Φ h w) {t : TypeId} {ks : Keys} {vagg : Bool} {z : List AV} (hd : TDR P t (.map ks vagg z)) {m k : AV} {m' k' : Value} (hm : VR Φ m m') (hk : VR Φ k k') {es : List (AV × AV)}
    (hes : (m = .nilmap ∧ es = []) ∨ ∃ r, m = .map r ∧ h[r]? = some (.map es)) (hko : keyOk ks k = true) {r : Option (Nat × AV)} (hf : findFrom ks k es 0 = some r) {v : AV} (ok : Bool)
    (hv : (∃ j x, r = some (j, x) ∧ v = if ok then .tuple [x, .bool true] else x) ∨ (r = none ∧ ∃ x, ofCells vagg z = some x ∧ v = if ok then .tuple [x, .bool false] else x)) :
    ∃ v', (Instr.lookup t m' k' ok).run P w = .ok v' w ∧ VR Φ v v' := by
  obtain ⟨kt, et, ie, iz, hu, hi, hz, hZ, hkt⟩ := hd.kind
  have pair : ∀ {x : AV} {x' : Value} (b : Bool), VR Φ x x' → VR Φ (if ok then .tuple [x, .bool b] else x) (if ok then .tuple #[x', .bool b] else x') := by
    intro x x' b hx
    cases ok with
    | true =>
      have : VRs Φ [x, .bool b] [x', .bool b] := .cons hx (.cons (.bool b) .nil)
      exact .tuple _ _ this.1 this.2
    | false => exact hx
  have main : ∀ es' : Array MapEntry, VRs Φ (es.map (·.1)) (es'.toList.map (·.key)) → VRs Φ (es.map (·.2)) (es'.toList.map (·.val)) →
      ∃ v', (do
        Instr.checkKey es'.isEmpty 10000 kt k'
        let (v, ok') ← match ← Instr.findKey kt k' es'.toList with
          | some (_, v) => pure (v, true)
          | none => pure (← zeroValue et, false)
        pure (if ok then .tuple #[v, .bool ok'] else v) : Sem Value).run P w = .ok v' w ∧ VR Φ v v' := by
    intro es' hK hV
    obtain ⟨r', f1, f2⟩ := find_sim (P := P) (w := w) hkt hk hK hV hf
    simp only [Sem.run_bind, checkKey_sim hkt hk hko, f1, Result.andThen_ok]
    rcases hv with ⟨j, x, rfl, rfl⟩ | ⟨rfl, x, hx, rfl⟩
    · cases r' with
      | none => exact f2.elim
      | some y =>
        obtain ⟨j', x'⟩ := y
        obtain ⟨_, m, e, _, _, _, _, hxx⟩ := f2
        exact ⟨_, rfl, pair true hxx⟩
    · cases r' with
      | some y => exact f2.elim
      | none =>
        simp only [Sem.run_bind, run_zero hi hz, Result.andThen_ok, Sem.run_pure]
        exact ⟨_, rfl, pair false (hZ Φ x hx)⟩
  rcases hes with ⟨rfl, rfl⟩ | ⟨r0, rfl, hr0⟩
  · cases hm
    obtain ⟨v', h1, h2⟩ := main #[] .nil .nil
    refine ⟨v', ?_, h2⟩
    rw [← h1]
    unfold Instr.lookup
    simp only [Sem.run_bind, run_underlying hu, Result.andThen_ok, Sem.run_pure]
    rfl
  · cases hm
    obtain ⟨es', clock, k1, k2, k3, _⟩ := hw.obj r0 _ hr0
    obtain ⟨v', h1, h2⟩ := main es' k2 k3
    refine ⟨v', ?_, h2⟩
    rw [← h1]
    unfold Instr.lookup
    simp only [Sem.run_bind, run_underlying hu, Result.andThen_ok, MapKept.run_getObj_map k1, Sem.run_pure]
    rfl

theorem modify_map (es : Array MapEntry) (j : Nat) (f : MapEntry → MapEntry) (g : MapEntry → Value) (v : Value) (hf : ∀ e, g (f e) = v) : ((es.modify j f).toList.map g) = (es.toList.map g).set j v := by
  apply List.ext_getElem?
  intro i
  simp only [List.getElem?_map, Array.getElem?_toList, Array.getElem?_modify, List.getElem?_set, List.length_map, Array.length_toList]
  by_cases hij : j = i
  · subst hij
    simp only [if_true]
    by_cases hl : j < es.size
    · rw [Array.getElem?_eq_getElem hl, if_pos hl]
      simp [hf]
    · rw [if_neg hl, Array.getElem?_eq_none (by omega)]
      rfl
  · simp [hij]

theorem mapUpdate_sim (hw : WR Φ h w) {t : TypeId} {ks : Keys} {vagg : Bool} {z : List AV} (hd : TDR P t (.map ks vagg z)) {k x : AV} {m' k' x' : Value} {r : Nat} (hm : VR Φ (.map r) m') (hk : VR Φ k k') (hx : VR Φ x x') {es : List (AV × AV)}
    (hr : h[r]? = some (.map es)) (hko : keyOk ks k = true) {f : Option (Nat × AV)} (hf : findFrom ks k es 0 = some f) {es1 : List (AV × AV)}
    (hv : (∃ j y, f = some (j, y) ∧ es1 = es.set j (k, x)) ∨ (f = none ∧ es1 = es ++ [(k, x)])) :
    ∃ w', (Instr.mapUpdate t m' k' x').run P w = .ok () w' ∧ WR Φ (h.set r (.map es1)) w' := by
  obtain ⟨kt, et, ie, iz, hu, hi, hz, hZ, hkt⟩ := hd.kind
  cases hm
  obtain ⟨es', clock, k1, k2, k3, k4, k5⟩ := hw.obj r _ hr
  obtain ⟨f', f1, f2⟩ := find_sim (P := P) (w := w) hkt hk k2 k3 hf
  have fin : ∀ (es2 : Array MapEntry) (clock' : Nat), VRs Φ (es1.map (·.1)) (es2.toList.map (·.key)) → VRs Φ (es1.map (·.2)) (es2.toList.map (·.val)) →
      (Instr.mapUpdate t (.map (some (Φ.φ r))) k' x').run P w = .ok () { w with heap := w.heap.setIfInBounds (Φ.φ r) (.map es2 clock') } →
      ∃ w', (Instr.mapUpdate t (.map (some (Φ.φ r))) k' x').run P w = .ok () w' ∧ WR Φ (h.set r (.map es1)) w' := by
    intro es2 clock' a b c
    obtain ⟨s1, s2⟩ := MapKept.heap_set (w := w) (o' := .map es2 clock') k1
    exact ⟨_, c, hw.write hr rfl rfl (fun b hb => s2 b hb) ⟨es2, clock', s1, a, b, k4, k5⟩ k4 ⟨rfl, rfl, rfl⟩⟩
  rcases hv with ⟨j, y, rfl, rfl⟩ | ⟨rfl, rfl⟩
  · cases f' with
    | none => exact f2.elim
    | some y' =>
      obtain ⟨j', v'⟩ := y'
      obtain ⟨rfl, m, e, hm, he, hek, hev, hy⟩ := f2
      simp only [Nat.zero_add] at hm
      subst hm
      have he' : es'[j]? = some e := by simpa using he
      refine fin (es'.modify j fun e => { e with key := k', val := x' }) clock ?_ ?_ ?_
      · rw [modify_map es' j _ (·.key) k' (fun _ => rfl), List.map_set]
        exact k2.set j hk
      · rw [modify_map es' j _ (·.val) x' (fun _ => rfl), List.map_set]
        exact k3.set j hx
      · unfold Instr.mapUpdate
        simp only [Sem.run_bind, run_underlying hu, Result.andThen_ok, MapKept.run_getObj_map k1, checkKey_sim hkt hk hko, f1, he', Option.map_some, Option.getD_some, hek]
        simp only [Instr.keyThatStays, keyOk_bits hk hko, if_true, Sem.run_pure, Result.andThen_ok, MapKept.run_setObj_map _ k1]
  · cases f' with
    | some y => exact f2.elim
    | none =>
      refine fin (es'.push { key := k', val := x', born := clock }) (clock + 1) ?_ ?_ ?_
      · simp only [Array.toList_push, List.map_append, List.map_cons, List.map_nil]
        exact k2.append (.cons hk .nil)
      · simp only [Array.toList_push, List.map_append, List.map_cons, List.map_nil]
        exact k3.append (.cons hx .nil)
      · unfold Instr.mapUpdate
        simp only [Sem.run_bind, run_underlying hu, Result.andThen_ok, MapKept.run_getObj_map k1, checkKey_sim hkt hk hko, f1, MapKept.run_setObj_map _ k1]

end
end AM

/- EVERY OPERATION: what the abstract machine computes, the model computes. -/
namespace AM
open Go

/-- what is asked of the tables -/
structure EnvR (P : Program) (E : Env) : Prop where
  ar : E.ar = Ar.std
  td : ∀ t d, E.td t = some d → TDR P t d

section
variable {P : Program} {Φ : Phi} {h : List Obj} {w : World} {E : Env}

theorem val_inv {h h' : List Obj} {o : Option AV} {v : AV} (hv : val h o = some (.val v h')) : o = some v ∧ h' = h := by
  cases o with
  | none => cases hv
  | some x => cases hv; exact ⟨rfl, rfl⟩

theorem builtin_sim (hw : WR Φ h w) (hE : EnvR P E) {b : Builtin} {ts : Array TypeId} {ty : TypeId} {cs : Array Bool} {args : List AV} {args' : Array Value} (ha : VRs Φ args args'.toList) {v : AV} {h' : List Obj}
    (hop : AM.builtin E h b ts args = some (.val v h')) : Ran P Φ w (Go.builtin b ts ty cs args') v h' := by
  have hA := hE.ar
  have one : ∀ {x : AV}, args = [x] → ∃ x', args' = #[x'] ∧ VR Φ x x' := by
    intro x e; subst e
    obtain ⟨x', us, h1, h2, h3⟩ := ha.inv_cons
    rw [h3.inv_nil] at h1
    exact ⟨x', Array.toList_inj.1 h1, h2⟩
  have two : ∀ {x y : AV}, args = [x, y] → ∃ x' y', args' = #[x', y'] ∧ VR Φ x x' ∧ VR Φ y y' := by
    intro x y e; subst e
    obtain ⟨x', us, h1, h2, h3⟩ := ha.inv_cons
    obtain ⟨y', us', k1, k2, k3⟩ := h3.inv_cons
    rw [k3.inv_nil] at k1
    rw [k1] at h1
    exact ⟨x', y', Array.toList_inj.1 h1, h2, k2⟩
  unfold AM.builtin at hop
  split at hop
  · -- len
    rename_i x
    obtain ⟨x', rfl, hx⟩ := one rfl
    have fin : ∀ {n : Int} , v = .int .i64 n → h' = h → (Builtin.len_ ts ty #[x']).run P w = .ok (.int .i64 n) w → Ran P Φ w (Go.builtin .len ts ty cs #[x']) v h' := by
      intro n h1 h2 h3; subst h1; subst h2
      exact ran_val hw h3 (.int _ _)
    have ty0 : ∀ {d : TD}, (ts[0]?).bind E.td = some d → ∃ t, ts[0]? = some t ∧ TDR P t d := by
      intro d hd
      cases h0 : ts[0]? with
      | none => rw [h0] at hd; cases hd
      | some t => rw [h0] at hd; exact ⟨t, rfl, hE.td _ _ hd⟩
    split at hop
    · rename_i ht
      obtain ⟨t, h0, htd⟩ := ty0 ht
      obtain ⟨el, ie, iz, hu, _⟩ := htd.kind
      cases hop
      refine fin rfl rfl ?_
      rw [hA]
      cases hx <;> simp [Builtin.len_, h0, run_underlying hu, goInt, Ar.std]
    · rename_i ht
      obtain ⟨t, h0, htd⟩ := ty0 ht
      obtain ⟨el, ie, iz, hu, _⟩ := htd.kind
      cases hop
      refine fin rfl rfl ?_
      rw [hA]
      cases hx; simp [Builtin.len_, h0, run_underlying hu, goInt, Ar.std]
    · rename_i ht
      obtain ⟨t, h0, htd⟩ := ty0 ht
      have hu : P.underlying t = some .string := htd.kind
      cases hop
      refine fin rfl rfl ?_
      rw [hA]
      cases hx with | str s =>
      have hl : s.data.toList.length = s.size := Array.length_toList
      simp only [Ar.std, hl]
      simp [Builtin.len_, h0, run_underlying hu, goInt]
    · rename_i ht
      obtain ⟨t, h0, htd⟩ := ty0 ht
      obtain ⟨el, ie, hu, _⟩ := htd.kind
      cases hop
      refine fin rfl rfl ?_
      rw [hA]
      simp [Builtin.len_, h0, run_underlying hu, goInt, Ar.std]
    · rename_i ht
      obtain ⟨t, h0, htd⟩ := ty0 ht
      obtain ⟨k, e, ie, iz, hu, _⟩ := htd.kind
      cases hop
      refine fin rfl rfl ?_
      cases hx; simp [Builtin.len_, h0, run_underlying hu, goInt]
    · rename_i ht
      obtain ⟨t, h0, htd⟩ := ty0 ht
      obtain ⟨k, e, ie, iz, hu, _⟩ := htd.kind
      split at hop
      · rename_i es hes
        cases hop
        refine fin rfl rfl ?_
        rw [hA]
        cases hx
        obtain ⟨es', clock, k1, k2, _⟩ := hw.obj _ _ hes
        have : es.length = es'.size := by have := k2.1; simpa using this
        simp [Builtin.len_, h0, run_underlying hu, goInt, Ar.std, MapKept.run_getObj_map k1, this]
      · cases hop
    · cases hop
  · -- min
    obtain ⟨x', y', rfl, hx, hy⟩ := two rfl
    cases hop; cases hx; cases hy
    rw [hA]
    refine ran_val hw ?_ (.int _ _)
    simp [Builtin.min_, Builtin.min2, Ar.std]
  · obtain ⟨x', y', rfl, hx, hy⟩ := two rfl
    cases hop; cases hx; cases hy
    rw [hA]
    refine ran_val hw ?_ (.int _ _)
    simp [Builtin.max_, Builtin.max2, Ar.std]
  · -- append
    obtain ⟨x', y', rfl, hx, hy⟩ := two rfl
    rw [hA] at hop
    have ty2 : ∀ {d e : TD}, (ts[0]?).bind E.td = some d → (ts[1]?).bind E.td = some e → ∃ s t, ts[0]? = some s ∧ ts[1]? = some t ∧ TDR P s d ∧ TDR P t e := by
      intro d e hd he
      cases h0 : ts[0]? with
      | none => rw [h0] at hd; cases hd
      | some s => cases h1 : ts[1]? with
        | none => rw [h1] at he; cases he
        | some t => rw [h0] at hd; rw [h1] at he; exact ⟨s, t, rfl, rfl, hE.td _ _ hd, hE.td _ _ he⟩
    have cut2 : ∀ {s t : TypeId}, ts[0]? = some s → ts[1]? = some t → Ran P Φ w (Go.builtin .append #[s, t] ty cs #[x', y']) v h' → Ran P Φ w (Go.builtin .append ts ty cs #[x', y']) v h' := by
      intro s t h0 h1 hr
      have : (Builtin.append_ ts ty #[x', y']) = (Builtin.append_ #[s, t] ty #[x', y']) := by
        unfold Builtin.append_
        rw [h0, h1]
        rfl
      show Ran P Φ w (do pure (.value (← Builtin.append_ ts ty #[x', y']))) v h'
      rw [this]
      exact hr
    split at hop
    · rename_i esz1 _ _ _ _ _ _ _ h1 h2
      obtain ⟨s, t, k0, k1, d0, d1⟩ := ty2 h1 h2
      obtain ⟨el, ie, iz, hu, _⟩ := d1.kind
      split at hop
      · rename_i ys e' hys
        have he' : e' = esz1 ∨ e' = 0 := by
          unfold append at hop
          split at hop
          · rename_i hc; exact hc.2.1
          · cases hop
        obtain ⟨us, src⟩ := src_elems (P := P) hw hy hys he'
        exact cut2 k0 k1 (append_sim hw d0 hu (fun k hk => by cases hk) hx src hop)
      · cases hop
    · rename_i h1 h2
      obtain ⟨s, t, k0, k1, d0, d1⟩ := ty2 h1 h2
      split at hop
      · cases hy
        exact cut2 k0 k1 (append_sim hw d0 (show P.underlying t = some .string from d1.kind) (fun k hk => by cases hk) hx src_string hop)
      · cases hop
    · cases hop
  · -- copy
    rename_i r off len c ag s
    obtain ⟨x', y', rfl, hx, hy⟩ := two rfl
    split at hop
    · rename_i h1
      obtain ⟨t, k0, d0⟩ : ∃ t, ts[0]? = some t ∧ TDR P t (.slice 1 _ _ _) := by
        cases h0 : ts[0]? with
        | none => rw [h0] at h1; cases h1
        | some t => rw [h0] at h1; exact ⟨t, rfl, hE.td _ _ h1⟩
      split at hop
      · rename_i cs0 hcs
        split at hop
        · rename_i cs1 hp
          cases hop
          obtain ⟨el, ie, iz, hu, hi, hsz, _⟩ := d0.kind
          cases hx with
          | mslice _ _ _ cp _ _ hr hcap =>
          cases hy with
          | str b =>
          obtain ⟨vs, t', g1, g2, g3, g4⟩ := hw.obj r _ hcs
          let us : List Value := (b.data.toList.map fun c => Value.int .u8 c.toNat).take len
          have hus : VRs Φ ((Ar.std.bytes b.data.toList).take len) us := by
            refine VRs.take (VRs.of (by simp [Ar.std]) (fun k a v ha hv => ?_)) len
            simp only [Ar.std, List.getElem?_map] at ha hv
            cases hc : b.data.toList[k]? with
            | none => rw [hc] at ha; cases ha
            | some c => rw [hc] at ha hv; cases ha; cases hv; exact .int _ _
          rw [hA] at hp
          obtain ⟨hl, hR⟩ := put_R g2 hus hp
          have hone : ∀ u ∈ us, u.oneCell' = true := by
            intro u hu'
            obtain ⟨c, _, rfl⟩ := List.mem_map.1 (List.mem_of_mem_take hu')
            rfl
          have hst := run_storeCells (P := P) g1 (o := off) (us := us) (by simpa using hl) hone
          have hn : (Nat.min b.size len) = min b.data.toList.length len := by
            simp only [Array.length_toList]; rfl
          have hcells : ((b.extract 0 (Nat.min b.size len)).data.map fun c => Value.int .u8 c.toNat).toList = us := by
            simp only [us, Array.toList_map, ByteArray.data_extract, Array.toList_extract, List.extract, List.drop_zero, Nat.sub_zero]
            rw [hn, ← List.map_take]
            congr 1
            rw [List.take_eq_take_iff]
            omega
          refine ran_new (.refl Φ) (hw.setCells hcs g1 hR) (v' := .int .i64 (Nat.min b.size len : Nat)) ?_ ?_
          · have hz : (Go.sizeOf el).run P w = .ok 1 w := by rw [run_sizeT hi, hsz]
            obtain ⟨arr, harr⟩ : ∃ arr, ((b.extract 0 (Nat.min b.size len)).data.map fun c => Value.int .u8 c.toNat) = arr := ⟨_, rfl⟩
            rw [harr] at hcells
            have hfc : (Builtin.firstCells 1 (Nat.min b.size len) (.string b)).run P w = .ok arr w := by rw [← harr]; rfl
            have hlen : (Builtin.lenOf (.string b)).run P w = .ok b.size w := rfl
            have e0 : (#[Value.slice (some { block := Φ.φ r, off := off }) len c, Value.string b] : Array Value)[0]? = some (.slice (some { block := Φ.φ r, off := off }) len c) := rfl
            have e1 : (#[Value.slice (some { block := Φ.φ r, off := off }) len c, Value.string b] : Array Value)[1]? = some (.string b) := rfl
            unfold Builtin.copy_
            rw [k0, e0, e1]
            simp only [Sem.run_bind, run_underlying hu, Result.andThen_ok, hlen, hz, hfc, hcells, hst, Sem.run_pure, goInt]
          · rw [hA, hn]; exact .int _ _
        · cases hop
      · cases hop
    · cases hop
  · cases hop

theorem isNil_eval {x : Operand} (hx : isNil x = true) (a : Act) : a.eval x = .slice none 0 0 := by
  unfold isNil at hx
  split at hx
  · rfl
  · cases hx

/-- an operation that is no call -/
theorem op_val (hw : WR Φ h w) (hE : EnvR P E) {own : Bool} {tm : List AV} {a : Act} (ht : VRs Φ tm a.tmps.toList) (o : Oper) {v : AV} {h' : List Obj}
    (hop : op E own tm h o.type o.op = some (.val v h')) : Ran P Φ w (execOp a.eval o) v h' := by
  have hA := hE.ar
  have R := fun x => opnd_R hw.tab ht x
  obtain ⟨dst, o, ty, pos, after, guard⟩ := o
  simp only at hop
  unfold op at hop
  simp only at hop
  unfold execOp
  simp only
  split at hop
  case h_1 x => cases hop; exact ran_pure hw rfl (R x)
  case h_2 x =>
    simp only
    split at hop
    · rename_i hc
      simp only [Bool.and_eq_true] at hc
      split at hop
      · rename_i esz ag eb zs hd
        split at hop
        · rename_i h0
          cases hop
          refine ⟨_, w, Phi.le_newT _ _ _, hw.newTok h0, .inl ⟨.slice none 0 0, by rw [isNil_eval hc.2]; rfl, ?_⟩⟩
          exact .snil _ _ ⟨by simp [Phi.newT, hw.len], by rw [hw.len]; exact Phi.newT_τ _ _ _⟩
        · cases hop
      · cases hop
    · cases hop; exact ran_pure hw rfl (R x)
  case h_3 c x y =>
    simp only
    have hc := R c
    split at hop
    · rename_i heq
      rw [heq] at hc
      cases hop
      generalize a.eval c = c' at hc ⊢
      cases hc
      exact ran_pure hw (by simp [asBool]) (R x)
    · rename_i heq
      rw [heq] at hc
      cases hop
      generalize a.eval c = c' at hc ⊢
      cases hc
      exact ran_pure hw (by simp [asBool]) (R y)
    · cases hop
  case h_4 e =>
    simp only
    cases hd : E.td e with
    | none => rw [hd] at hop; cases hop
    | some d => rw [hd] at hop; cases hop; exact alloc_sim (hE.td _ _ hd) hw _ rfl
  case h_5 e x =>
    simp only
    split at hop
    · rename_i hc; cases hop; exact box_sim hw (R x) hc
    · cases hop
  case h_6 t parts =>
    simp only
    split at hop
    · rename_i hd
      obtain ⟨hv, rfl⟩ := val_inv hop
      cases hp : place _ _ (parts.toList.map fun p => (p.1, opnd tm p.2)) with
      | none => rw [hp] at hv; cases hv
      | some r =>
        rw [hp] at hv; cases hv
        obtain ⟨v', k1, k2⟩ := build_sim (P := P) (w := w) hw.tab (hE.td _ _ hd) ht parts hp
        exact ran_val hw k1 k2
    · rename_i hd
      obtain ⟨hv, rfl⟩ := val_inv hop
      cases hp : placeAt _ _ (parts.toList.map fun p => (p.1, opnd tm p.2)) with
      | none => rw [hp] at hv; cases hv
      | some r =>
        rw [hp] at hv; cases hv
        obtain ⟨v', k1, k2⟩ := build_sim (P := P) (w := w) hw.tab (hE.td _ _ hd) ht parts hp
        exact ran_val hw k1 k2
    · cases hop
  case h_7 t n parts =>
    simp only
    split at hop
    · rename_i hd
      split at hop
      · rename_i hc
        cases hop
        exact buildSlice_sim hw (hE.td _ _ hd) ht n parts hc
      · cases hop
    · cases hop
  case h_8 t x =>
    simp only
    split at hop
    · rename_i hd
      obtain ⟨hv, rfl⟩ := val_inv hop
      obtain ⟨v', k1, k2⟩ := load_sim (hE.td _ _ hd) hw (R x) hv
      exact ran_val hw k1 k2
    · cases hop
  case h_9 t x y =>
    simp only
    split at hop
    · rename_i d hd
      cases hs : store d (opnd tm x) (opnd tm y) h with
      | none => rw [hs] at hop; cases hop
      | some h1 =>
        rw [hs] at hop; cases hop
        obtain ⟨w', k1, k2⟩ := store_sim (hE.td _ _ hd) hw (R x) (R y) hs
        exact ran_skip (.refl Φ) k2 k1
    · cases hop
  case h_10 x =>
    simp only
    have hx := R x
    split at hop
    · rename_i heq; rw [heq] at hx; cases hop
      generalize a.eval x = x' at hx ⊢
      cases hx with | ptr _ _ hr => exact ran_pure hw rfl (.ptr _ _ hr)
    · rename_i heq; rw [heq] at hx; cases hop
      generalize a.eval x = x' at hx ⊢
      cases hx with | vptr cs o b off vs hl hm hv hp => exact ran_pure hw rfl (.vptr _ _ _ _ _ hl hm hv hp)
    · rename_i heq; rw [heq] at hx; cases hop
      generalize a.eval x = x' at hx ⊢
      cases hx with | func fn as bs vs ws hl hv kl kv => exact ran_pure hw rfl (.func _ _ _ _ _ hl hv kl kv)
    · cases hop
  case h_11 b t x y z =>
    simp only
    split at hop
    · rename_i d hd
      split at hop
      · rename_i v hn
        cases hop
        obtain ⟨v', k1, k2⟩ := nilNil_sim (w := w) (hE.td _ _ hd) (R x) (R y) hn
        exact ran_val hw k1 k2
      · obtain ⟨hv, rfl⟩ := val_inv hop
        rw [hA] at hv
        obtain ⟨v', k1, k2⟩ := bin_sim (w := w) (hE.td _ _ hd) (R x) (R y) b x y hv
        exact ran_val hw k1 k2
    · cases hop
  case h_12 u t x =>
    simp only
    obtain ⟨hv, rfl⟩ := val_inv hop
    rw [hA] at hv
    obtain ⟨v', k1, k2⟩ := un_sim (P := P) (w := w) (R x) hv
    exact ran_val hw k1 k2
  case h_13 s d x =>
    simp only
    split at hop
    · rename_i hs hd
      split at hop
      · rename_i b hb
        obtain ⟨rfl, rfl, hxb⟩ := convB_inv hb
        cases hop
        have hx := R x
        rw [hxb] at hx
        rw [hA]
        exact bytes_sim hw (hE.td _ _ hs) (hE.td _ _ hd) hx
      · obtain ⟨hv, rfl⟩ := val_inv hop
        rw [hA] at hv
        obtain ⟨v', k1, k2⟩ := convert_sim hw (hE.td _ _ hs) (hE.td _ _ hd) (R x) hv
        exact ran_val hw k1 k2
    · cases hop
  case h_14 f x y =>
    simp only
    cases hop
    have r1 := opnds_R hw.tab ht x.toList
    have r2 := opnds_R hw.tab ht y.toList
    refine ran_val hw (v' := .func f (x.map a.eval) (y.map a.eval)) rfl (.func _ _ _ _ _ ?_ ?_ ?_ ?_)
    · simp
    · simpa using r1.2
    · simp
    · simpa using r2.2
  case h_15 t =>
    simp only
    cases hop
    refine ran_new (Φ.le_new _) hw.newMap (v' := .map (some w.heap.size)) (by simp [Instr.makeMap]) ?_
    have := VR.map (Φ := Φ.new w.heap.size) h.length (by simp [Phi.new, hw.len])
    rw [hw.len, Phi.new_φ] at this
    rw [hw.len]; exact this
  case h_16 t l c =>
    simp only
    exact makeSlice_sim (ty' := ty) (own := own) hw hA hE.td ht (by simpa only [op] using hop)
  case h_17 t x lo hi =>
    simp only
    split at hop
    · rename_i d hd
      split at hop
      · rename_i l' h1 hl hh
        obtain ⟨hv, rfl⟩ := val_inv hop
        rw [hA] at hv
        obtain ⟨v', k1, k2⟩ := slice_sim hw (hE.td _ _ hd) ht hl hh (R x) hv
        exact ran_val hw k1 k2
      · cases hop
    · cases hop
  case h_18 s x f =>
    simp only
    have hx := R x
    split at hop
    · rename_i hd heq
      rw [heq] at hx
      split at hop
      · rename_i hk
        split at hop
        · cases hop
        · rename_i h0
          cases hop
          obtain ⟨v', k1, k2⟩ := (fieldAddr_sim (P := P) (w := w) (Φ := Φ) (hE.td _ _ hd) hk h0).1 _ _ _ hx
          exact ran_val hw k1 k2
      · cases hop
    · rename_i hd heq
      rw [heq] at hx
      split at hop
      · rename_i hk
        split at hop
        · cases hop
        · rename_i h0
          cases hop
          obtain ⟨v', k1, k2⟩ := (fieldAddr_sim (P := P) (w := w) (Φ := Φ) (hE.td _ _ hd) hk h0).2 _ _ _ hx
          exact ran_val hw k1 k2
      · cases hop
    · cases hop
  case h_19 s x f =>
    simp only
    have hx := R x
    split at hop
    · rename_i hd heq
      rw [heq] at hx
      split at hop
      · rename_i hk
        obtain ⟨hv, rfl⟩ := val_inv hop
        obtain ⟨v', k1, k2⟩ := field_sim (w := w) (hE.td _ _ hd) hk hx hv
        exact ran_val hw k1 k2
      · cases hop
    · cases hop
  case h_20 t x i =>
    simp only
    obtain ⟨rfl, v', k1, k2⟩ := indexAddr_sim (ty' := ty) (own := own) (P := P) hw hA hE.td ht (by simpa only [op] using hop)
    exact ran_val hw k1 k2
  case h_21 t x i =>
    simp only
    obtain ⟨rfl, v', k1, k2⟩ := index_sim (ty' := ty) (own := own) (P := P) hw hA hE.td ht (by simpa only [op] using hop)
    exact ran_val hw k1 k2
  case h_22 t x k ok =>
    simp only
    split at hop
    · rename_i ks vagg z hd
      split at hop
      · rename_i es hes
        split at hop
        · rename_i hko
          have hes' : (opnd tm x = .nilmap ∧ es = []) ∨ ∃ r, opnd tm x = .map r ∧ h[r]? = some (.map es) := by
            split at hes
            · rename_i heq; cases hes; exact .inl ⟨heq, rfl⟩
            · rename_i r heq
              split at hes
              · rename_i es0 hr; cases hes; exact .inr ⟨r, heq, hr⟩
              · cases hes
            · cases hes
          rw [hA] at hop
          split at hop
          · rename_i j y hf
            cases hop
            obtain ⟨v', k1, k2⟩ := lookup_sim hw (hE.td _ _ hd) (R x) (R k) hes' hko hf ok (.inl ⟨_, _, rfl, rfl⟩)
            exact ran_val hw k1 k2
          · rename_i z' hf hz
            cases hop
            obtain ⟨v', k1, k2⟩ := lookup_sim hw (hE.td _ _ hd) (R x) (R k) hes' hko hf ok (.inr ⟨rfl, _, hz, rfl⟩)
            exact ran_val hw k1 k2
          · cases hop
        · cases hop
      · cases hop
    · cases hop
  case h_25 x i =>
    simp only
    have hx := R x
    split at hop
    · rename_i vs heq
      rw [heq] at hx
      split at hop
      · rename_i y hy
        cases hop
        generalize a.eval x = x' at hx ⊢
        cases hx with | tuple _ us hl hv =>
        obtain ⟨u, hu, hR⟩ := VRs.get ⟨hl, hv⟩ hy
        refine ran_val hw (v' := u) ?_ hR
        have hu' : us[i]? = some u := by simpa using hu
        simp [Instr.extract, hu']
      · cases hop
    · cases hop
  case h_26 c =>
    obtain ⟨callee, args, ts⟩ := c
    simp only at hop ⊢
    split at hop
    · unfold callVal at hop
      split at hop <;> cases hop
    · rename_i b
      have ha := opnds_R hw.tab ht args.toList
      have := builtin_sim (ty := ty) (cs := args.map fun | .const _ => true | _ => false) hw hE (args' := args.map a.eval) (by simpa using ha) hop
      simp only [resolve]
      exact this
    · cases hop
  case h_27 => cases hop
  all_goals
    simp only
    split at hop
    · rename_i hd heq
      split at hop
      · rename_i es hes
        split at hop
        · rename_i hko
          rw [hA] at hop
          split at hop
          · rename_i i y hf
            cases hop
            obtain ⟨w', k1, k2⟩ := mapUpdate_sim hw (hE.td _ _ hd) (heq ▸ R _) (R _) (R _) hes hko hf (.inl ⟨_, _, rfl, rfl⟩)
            exact ran_skip (.refl Φ) k2 k1
          · rename_i hf
            cases hop
            obtain ⟨w', k1, k2⟩ := mapUpdate_sim hw (hE.td _ _ hd) (heq ▸ R _) (R _) (R _) hes hko hf (.inr ⟨rfl, rfl⟩)
            exact ran_skip (.refl Φ) k2 k1
          · cases hop
        · cases hop
      · cases hop
    · cases hop

end
end AM
