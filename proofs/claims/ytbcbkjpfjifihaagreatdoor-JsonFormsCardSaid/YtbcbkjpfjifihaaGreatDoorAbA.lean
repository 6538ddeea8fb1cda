/-  An abstract machine over values without memory: terms, operations, code, its runs. -/
import GoSem.Core.Code
import GoSem.Conv.BytesToString
import GoSem.Op.String
import GoSem.Op.Unary
import GoSem.Core.Utf8
import GoSem.Core.Float
import Derived.Orders
import GoSem.Core.Layout
import GoSem.Op.Equal
import Derived.Calls
import Derived.Laws.Append
import Derived.Laws.AppendOwn
import Derived.Laws.Cells
import Derived.Laws.Rows
import Derived.WalkKit
import Derived.Laws.Slices
import Derived.Laws.StructEq
import Derived.LaidEql
import Derived.Laws.CopyRow
import Derived.Lib.Strings
set_option linter.unusedSectionVars false
set_option linter.unusedVariables false
set_option linter.unusedSimpArgs false
namespace Ab
open Go (IntKind FloatKind BinOp UnOp)

inductive V where
  | undef
  | top
  | bool (b : Bool)
  | int (k : IntKind) (n : Int)
  | flt (k : FloatKind) (bits : Nat)
  | str (s : List UInt8)
  | nilp
  | ptr (h off : Nat)
  | gptr (h ver i n off : Nat)
  | ro (cells : List V)
  | sl (ex : Bool) (xs : List V)
  | gs (h ver off len : Nat)
  | map (h : Nat)
  | nilmap
  | fn (f : Nat) (first cap : List V)
  | nilfn
  | iface (t : Nat) (v : V)
  | nili
  | agg (cells : List V)
  | tup (vs : List V)
  deriving Inhabited

def V.cells : V → List V
  | .agg cs => cs
  | v => [v]

inductive Obj where
  | dead
  | box (ty : Nat) (cells : List V)
  | nilg (ag : Bool) (sz : Nat)
  | grow (ty ver : Nat) (ag : Bool) (sz : Nat) (rows : List (List V))
  | map (es : List (V × V))
  deriving Inhabited

abbrev St := List Obj
abbrev Env := List (Nat × V)

def Env.get : Env → Nat → V
  | [], _ => .top
  | (j, v) :: e, i => bif i == j then v else Env.get e i

def Env.mask (live : List Nat) (e : Env) : Env := live.map fun i => (i, e.get i)

def St.at (s : St) (h : Nat) : Obj := s.getD h .dead

inductive Opd where
  | t (i : Nat)
  | c (v : V)
  | f (i : Nat)
  deriving Inhabited

def Opd.get (e : Env) : Opd → V
  | .t i => e.get i
  | .c v => v
  | .f i => .fn i [] []

inductive ConvK where
  | int (k : IntKind)
  | same
  | runeStr
  | bytesStr
  | toBytes
  | f2i (k : IntKind)
  deriving Inhabited

/-- How a call sees memory: not at all; what its arguments reach; .. and what is new behind it stays. -/
inductive CM where
  | closed | drop | keep
  deriving Inhabited

inductive Leaf where
  | b | i | s
  deriving Inhabited

inductive EqK where
  | bool | ptr | ptrs | map
  | flds (ks : List Leaf)
  deriving Inhabited

inductive Ins where
  | mv (x : Opd)
  | pick (c a b : Opd)
  | alloc (ty : Nat) (zs : List V) (gl : List (Nat × Bool × Nat))
  | box (ty : Nat) (x : Opd) (gl : List (Nat × Bool × Nat))
  | nilS (ag : Bool) (n : Nat)
  | build (zs : List V) (ps : List (Nat × Nat × Opd))
  | lit (n : Nat) (z : V) (ps : List (Nat × Opd))
  | load (ag : Bool) (n : Nat) (a : Opd)
  | store (n : Nat) (a x : Opd)
  | nilCheck (x : Opd)
  | bin (op : BinOp) (x y : Opd)
  | eq (neg : Bool) (k : EqK) (x y : Opd)
  | un (op : UnOp) (x : Opd)
  | conv (k : ConvK) (x : Opd)
  | mkIface (t : Nat) (x : Opd)
  | mkFn (f : Nat) (first cap : List Opd)
  | uns (ty n : Nat) (x : Opd)
  | sdata (x : Opd)
  | ustr (ty : Nat) (x n : Opd)
  | slc (str : Bool) (n : Nat) (x : Opd) (lo hi mx : Option Opd)
  | faddr (off : Nat) (x : Opd)
  | field (ag : Bool) (off n : Nat) (x : Opd)
  | iaddr (n : Nat) (x i : Opd)
  | aaddr (len n : Nat) (x i : Opd)
  | index (x i : Opd)
  | aindex (len : Nat) (ag : Bool) (n : Nat) (x i : Opd)
  | tassert (t : Nat) (z : V) (x : Opd)
  | extract (i : Nat) (x : Opd)
  | len (str : Bool) (x : Opd)
  | append (ty : Nat) (ag : Bool) (n : Nat) (x y : Opd)
  | minmax (max : Bool) (x y : Opd)
  | call (m : CM) (f : Nat) (args : List Opd)
  | callv (m : CM) (f : Opd) (args : List Opd)
  | panic (x : Opd)
  deriving Inhabited

structure IOp where
  dst : Option Nat
  g : Option (Nat × Bool)
  ins : Ins
  deriving Inhabited

inductive C where
  | skip
  | reg (ops : List IOp)
  | draw (ds : List Nat) (ops : List IOp) (others : List (List IOp))
  | seq (a b : C)
  | cond (c : Opd) (a b : C)
  | blk (id : Nat) (b : C)
  | loop (live : List Nat) (b : C)
  | exit (id : Nat)
  | ret
  deriving Inhabited

inductive Ex where
  | nxt
  | exit (id : Nat)
  | ret
  | pan (v : V)
  deriving Inhabited

inductive OR where
  | val (v : V) (s : St)
  | pan (v : V) (s : St)

inductive Out where
  | ret (v : V) (s : St)
  | pan (v : V) (s : St)

/-! operations -/

def intBin (op : BinOp) (k : IntKind) (a b : Int) : Option V :=
  match op with
  | .add => some (.int k (k.wrap (a + b)))
  | .sub => some (.int k (k.wrap (a - b)))
  | .mul => some (.int k (k.wrap (a * b)))
  | .quo => if b = 0 then none else some (.int k (k.wrap (a.tdiv b)))
  | .rem => if b = 0 then none else some (.int k (a.tmod b))
  | .and => some (.int k (k.wrap (BitVec.ofInt k.bits a &&& BitVec.ofInt k.bits b).toNat))
  | .or => some (.int k (k.wrap (BitVec.ofInt k.bits a ||| BitVec.ofInt k.bits b).toNat))
  | .xor => some (.int k (k.wrap (BitVec.ofInt k.bits a ^^^ BitVec.ofInt k.bits b).toNat))
  | .andNot => some (.int k (k.wrap (BitVec.ofInt k.bits a &&& ~~~BitVec.ofInt k.bits b).toNat))
  | .eql => some (.bool (a == b))
  | .neq => some (.bool (a != b))
  | .lss => some (.bool (decide (a < b)))
  | .leq => some (.bool (decide (a ≤ b)))
  | .gtr => some (.bool (decide (a > b)))
  | .geq => some (.bool (decide (a ≥ b)))
  | _ => none

def shiftBin (op : BinOp) (k : IntKind) (a b : Int) : Option V :=
  if b < 0 then none else
  match op with
  | .shl => some (.int k (k.wrap (a * 2 ^ (min b.toNat k.bits))))
  | .shr => some (.int k (a.fdiv (2 ^ (min b.toNat k.bits))))
  | _ => none

def strBin (op : BinOp) (a b : List UInt8) : Option V :=
  match op with
  | .add => if a.length + b.length ≤ 1099511627776 then some (.str (a ++ b)) else none
  | .eql => some (.bool (a == b))
  | .neq => some (.bool (!(a == b)))
  | .lss => some (.bool (Go.Op.bytesLess a b))
  | .leq => some (.bool (Go.Op.bytesLess a b || a == b))
  | .gtr => some (.bool (!(Go.Op.bytesLess a b || a == b)))
  | .geq => some (.bool (!Go.Op.bytesLess a b))
  | _ => none

/-- Plain cells alike? -/
def cellEq : Leaf → V → V → Option Bool
  | .b, .bool a, .bool b => some (a == b)
  | .i, .int k a, .int k' b => if k = k' then some (a == b) else none
  | .s, .str a, .str b => some (a == b)
  | _, _, _ => none

def cellsEq : List Leaf → List V → List V → Option Bool
  | [], [], [] => some true
  | k :: ks, x :: xs, y :: ys => match cellEq k x y with
    | some true => cellsEq ks xs ys
    | some false => match cellsEq ks xs ys with
      | some _ => some false
      | none => none
    | none => none
  | _, _, _ => none

def eqV : EqK → V → V → Option Bool
  | .bool, .bool a, .bool b => some (a == b)
  | .flds ks, .agg a, .agg b => cellsEq ks a b
  | .ptr, .nilp, .nilp => some true
  | .ptr, .nilp, .ptr _ _ | .ptr, .nilp, .ro _ | .ptr, .nilp, .gptr .. | .ptr, .ptr _ _, .nilp | .ptr, .ro _, .nilp | .ptr, .gptr .., .nilp => some false
  | .ptrs, .nilp, .nilp => some true
  | .ptrs, .nilp, .ptr _ _ | .ptrs, .nilp, .ro _ | .ptrs, .nilp, .gptr .. | .ptrs, .ptr _ _, .nilp | .ptrs, .ro _, .nilp | .ptrs, .gptr .., .nilp => some false
  | .ptrs, .ptr h o, .ptr h' o' => if h = h' ∧ o = o' then some true else none
  | .map, .nilmap, .nilmap => some true
  | .map, .nilmap, .map _ | .map, .map _, .nilmap => some false
  | _, _, _ => none

def fltBin (op : BinOp) (k : FloatKind) (a b : Nat) : Option V :=
  match op with
  | .eql => some (.bool (k.format.order a b == some .eq))
  | .neq => some (.bool (k.format.order a b != some .eq))
  | .lss => some (.bool (k.format.order a b == some .lt))
  | .leq => some (.bool (k.format.order a b == some .lt || k.format.order a b == some .eq))
  | .gtr => some (.bool (k.format.order a b == some .gt))
  | .geq => some (.bool (k.format.order a b == some .gt || k.format.order a b == some .eq))
  | _ => none

def fltInt (k : IntKind) (s : FloatKind) (b : Nat) : Option V :=
  match (s.decode b).toInt .zero with
  | some n => if k.min ≤ n ∧ n ≤ k.max then some (.int k n) else none
  | none => none

def binV (op : BinOp) (x y : V) : Option V :=
  match x, y with
  | .int k a, .int k' b =>
    match op with
    | .shl => shiftBin .shl k a b
    | .shr => shiftBin .shr k a b
    | _ => if k = k' then intBin op k a b else none
  | .str a, .str b => strBin op a b
  | .flt k a, .flt k' b => if k = k' then fltBin op k a b else none
  | _, _ => none

def unV (op : UnOp) (x : V) : Option V :=
  match op, x with
  | .not, .bool b => some (.bool !b)
  | .neg, .int k n => some (.int k (k.wrap (0 - n)))
  | _, _ => none

def bytesOf : List V → Option (List UInt8)
  | [] => some []
  | .int .u8 n :: r => (bytesOf r).map (UInt8.ofNat n.toNat :: ·)
  | _ :: _ => none

def takeN (cs : List V) (off n : Nat) : Option (List V) :=
  if off + n ≤ cs.length then some ((cs.drop off).take n) else none

def loadN (s : St) (a : V) (n : Nat) : Option (List V) :=
  match a with
  | .ptr h off => match s.at h with
    | .box _ cs => takeN cs off n
    | _ => none
  | .gptr h ver i m off => match s.at h with
    | .grow _ v _ sz rows => if v = ver ∧ m = sz then (rows[i]?).bind fun r => takeN r off n else none
    | _ => none
  | .ro cs => takeN cs 0 n
  | _ => none

def mkLoad (ag : Bool) (cs : List V) : Option V :=
  bif ag then some (.agg cs) else cs[0]?

def splice (cs : List V) (off : Nat) : List V → List V
  | [] => cs
  | v :: r => splice (cs.set off v) (off + 1) r

/-- May a value lie in one cell? -/
def V.oneCell : V → Bool
  | .undef | .top | .agg _ | .tup _ => false
  | _ => true

def storeN (s : St) (a : V) (vs : List V) : Option St :=
  if vs.all V.oneCell then
  match a with
  | .ptr h off => match s.at h with
    | .box ty cs => if off + vs.length ≤ cs.length then some (s.set h (.box ty (splice cs off vs))) else none
    | _ => none
  | .gptr h ver i m off => match s.at h with
    | .grow ty v ag sz rows =>
      if v = ver ∧ m = sz then
        match rows[i]? with
        | some r => if off + vs.length ≤ r.length then some (s.set h (.grow ty v ag sz (rows.set i (splice r off vs)))) else none
        | none => none
      else none
    | _ => none
  | _ => none
  else none

def fillV (zs : List V) : List (Nat × Nat × V) → Option (List V)
  | [] => some zs
  | (off, n, v) :: r => if v.cells.length = n ∧ off + n ≤ zs.length ∧ v.cells.all V.oneCell = true then fillV (splice zs off v.cells) r else none

def fillRows (k : Nat) (zs : List V) : List (Nat × V) → Option (List V)
  | [] => some zs
  | (i, v) :: r => if i < zs.length ∧ v.cells.length = k ∧ v.cells.all V.oneCell = true then fillRows k (zs.set i v) r else none

def faddrV (k : Nat) : V → Option V
  | .ptr h off => some (.ptr h (off + k))
  | .gptr h v i n off => some (.gptr h v i n (off + k))
  | .ro cs => some (.ro (cs.drop k))
  | _ => none

def idx (i : Int) (n : Nat) : Option Nat := if 0 ≤ i ∧ i < n then some i.toNat else none

def boundOf (e : Env) (dflt top : Nat) : Option Opd → Option Nat
  | none => some dflt
  | some x => match x.get e with
    | .int _ i => if 0 ≤ i ∧ i ≤ top then some i.toNat else none
    | _ => none

def slcV (n : Nat) (e : Env) (s : St) (x : V) (lo hi mx : Option Opd) : Option V :=
  match x with
  | .str b =>
    if mx.isSome then none else
    match boundOf e b.length b.length hi with
    | some h => match boundOf e 0 h lo with
      | some l => some (.str ((b.take h).drop l))
      | none => none
    | none => none
  | .sl ex xs =>
    if xs.all (fun v => Nat.beq v.cells.length n) then
    match boundOf e xs.length xs.length mx with
    | some m => match boundOf e xs.length m hi with
      | some h => match boundOf e 0 h lo with
        | some l => some (.sl (if l = h then ex && xs.isEmpty else if mx.isSome then h == m else ex && h == xs.length) ((xs.take h).drop l))
        | none => none
      | none => none
    | none => none
    else none
  | .gs g ver off len =>
    if mx.isSome then none else
    match s.at g with
    | .grow _ v _ sz rows =>
      if v = ver ∧ sz = n then
        match boundOf e len (rows.length - off) hi with
        | some h => match boundOf e 0 h lo with
          | some l => some (if l = h then .sl false [] else .gs g ver (off + l) (h - l))
          | none => none
        | none => none
      else none
    | .nilg _ _ =>
      match boundOf e len 0 hi with
      | some 0 => match boundOf e 0 0 lo with
        | some 0 => some (.sl false [])
        | _ => none
      | _ => none
    | _ => none
  | _ => none

def V.isStr : V → Bool
  | .str _ => true
  | _ => false

def lenV : V → Option V
  | .str b => some (.int .i64 b.length)
  | .sl _ xs => some (.int .i64 xs.length)
  | .gs _ _ _ n => some (.int .i64 n)
  | _ => none

def rowV (ag : Bool) (r : List V) : V := bif ag then .agg r else r.headD .top

def growBound : Nat := 68719476736

/-- A row of so many single cells? -/
def rowOk (n : Nat) (v : V) : Bool := Nat.beq v.cells.length n && v.cells.all V.oneCell

def rowsOf (n : Nat) (s : St) : V → Option (List (List V))
  | .str b => if n = 1 then some (b.map fun x => [.int .u8 x.toNat]) else none
  | .sl _ xs => if xs.all (rowOk n) then some (xs.map V.cells) else none
  | .gs h ver off len => match s.at h with
    | .grow _ v _ sz rows => if v = ver ∧ sz = n ∧ off + len ≤ rows.length ∧ (rows.all fun r => r.all V.oneCell) = true then some ((rows.drop off).take len) else none
    | .nilg _ _ => if len = 0 then some [] else none
    | _ => none
  | _ => none

def appendV (ty : Nat) (ag : Bool) (n : Nat) (s : St) (x y : V) : Option OR :=
  match rowsOf n s y with
  | none => none
  | some ys =>
    if ys.isEmpty then (match x with
      | .sl ex xs => some (.val (.sl ex xs) s)
      | .gs h v o l => some (.val (.gs h v o l) s)
      | _ => none) else
    match x with
    | .sl true xs =>
      if xs.all (rowOk n) then
        if (xs.length + ys.length) ≤ growBound then
          some (.val (.gs s.length (xs.length + ys.length) 0 (xs.length + ys.length)) (s ++ [.grow ty (xs.length + ys.length) ag n (xs.map V.cells ++ ys)]))
        else none
      else none
    | .gs h ver 0 len => match s.at h with
      | .grow tt v g sz rows =>
        if tt = ty ∧ v = ver ∧ sz = n ∧ len = rows.length ∧ v = rows.length ∧ rows.length + ys.length ≤ growBound then
          some (.val (.gs h (len + ys.length) 0 (len + ys.length)) (s.set h (.grow ty (len + ys.length) g sz (rows ++ ys))))
        else none
      | .nilg g sz =>
        if ver = 0 ∧ sz = n ∧ len = 0 ∧ ys.length ≤ growBound then
          some (.val (.gs h ys.length 0 ys.length) (s.set h (.grow ty ys.length g sz ys)))
        else none
      | _ => none
    | _ => none

mutual
def V.pure : V → Bool
  | .ptr .. | .gptr .. | .gs .. | .map _ => false
  | .ro cs | .sl _ cs | .agg cs | .tup cs => V.pures cs
  | .fn _ a b => V.pures a && V.pures b
  | .iface _ v => v.pure
  | _ => true
def V.pures : List V → Bool
  | [] => true
  | v :: r => v.pure && V.pures r
end

mutual
/-- Forget which slices end at their capacity. -/
def V.forget : V → V
  | .sl _ xs => .sl false (V.forgets xs)
  | .ro cs => .ro (V.forgets cs)
  | .agg cs => .agg (V.forgets cs)
  | .tup cs => .tup (V.forgets cs)
  | .fn f a b => .fn f (V.forgets a) (V.forgets b)
  | .iface t v => .iface t v.forget
  | v => v
def V.forgets : List V → List V
  | [] => []
  | v :: r => v.forget :: V.forgets r
end

mutual
/-- A value of plain parts alone: no memory. -/
def V.plain : V → Bool
  | .bool _ | .int .. | .flt .. | .str _ | .nilp | .nilmap | .nilfn | .nili => true
  | .agg cs | .tup cs => V.plains cs
  | .iface _ v => v.plain
  | _ => false
def V.plains : List V → Bool
  | [] => true
  | v :: r => v.plain && V.plains r
end

def mapO (f : V → Option V) : List V → Option (List V)
  | [] => some []
  | v :: r => match f v with
    | some x => match mapO f r with
      | some xs => some (x :: xs)
      | none => none
    | none => none

/-- Rows that stand for one value each. -/
def rowsPlain (ag : Bool) (rows : List (List V)) : Bool :=
  ag || rows.all fun r => match r with
    | [v] => v.oneCell
    | _ => false

/-- How values are handed over: rd: boxes as places that are only read; sn: growing slices as data; fg: capacities are forgotten; m: handles that go on, by other names. -/
structure SP where
  rd : Bool
  sn : Bool
  fg : Bool
  m : Nat → Option Nat

def snap (s : St) (p : SP) : Nat → V → Option V
  | 0, v => bif v.pure then some (bif p.fg then v.forget else v) else none
  | d + 1, v =>
    bif v.pure then some (bif p.fg then v.forget else v) else
    match v with
    | .gs h ver off len => match p.m h with
      | some k => some (.gs k ver off len)
      | none => bif p.sn then (match s.at h with
        | .grow _ v ag _ rows =>
          if v = ver ∧ off + len ≤ rows.length ∧ rowsPlain ag rows = true then (mapO (snap s p d) (((rows.drop off).take len).map (rowV ag))).map (.sl false) else none
        | .nilg _ _ => if len = 0 then some (.sl false []) else none
        | _ => none) else none
    | .ptr h off => match p.m h with
      | some k => some (.ptr k off)
      | none => bif p.rd then (match s.at h with
        | .box _ cs => (mapO (snap s p d) (cs.drop off)).map .ro
        | _ => none) else none
    | .gptr h ver i n off => match p.m h with
      | some k => some (.gptr k ver i n off)
      | none => none
    | .agg cs => (mapO (snap s p d) cs).map .agg
    | .tup cs => (mapO (snap s p d) cs).map .tup
    | .sl ex cs => (mapO (snap s p d) cs).map (.sl (bif p.fg then false else ex))
    | .iface t v => (snap s p d v).map (.iface t)
    | .fn f a b => match mapO (snap s p d) a, mapO (snap s p d) b with
      | some a, some b => some (.fn f a b)
      | _, _ => none
    | _ => none

abbrev Calls := Nat → List V → St → Option Out

def snapDepth : Nat := 40

def spClosed : SP := { rd := false, sn := true, fg := true, m := fun _ => none }
def spLook : SP := { rd := true, sn := true, fg := true, m := fun _ => none }

/-- A call that sees no memory of ours but by what it is handed. -/
def closedCall (K : Calls) (f : Nat) (args : List V) (s : St) : Option OR :=
  bif V.pures args then
    match K f (V.forgets args) [] with
    | some (.ret v s') => (snap s' spClosed snapDepth v).map (.val · s)
    | some (.pan v s') => (snap s' spClosed snapDepth v).map (.pan · s)
    | none => none
  else
    match mapO (snap s spLook snapDepth) args with
    | some as => match K f as [] with
      | some (.ret v _) => bif v.plain then some (.val v s) else none
      | some (.pan v _) => bif v.plain then some (.pan v s) else none
      | none => none
    | none => none

mutual
/-- The handles in a value. -/
def V.hs : V → List Nat
  | .ptr h _ | .gptr h _ _ _ _ | .gs h _ _ _ | .map h => [h]
  | .ro cs | .sl _ cs | .agg cs | .tup cs => V.hss cs
  | .fn _ a b => V.hss a ++ V.hss b
  | .iface _ v => v.hs
  | _ => []
def V.hss : List V → List Nat
  | [] => []
  | v :: r => (bif v.pure then [] else v.hs) ++ V.hss r
end

def Obj.hs : Obj → List Nat
  | .box _ cs => bif V.pures cs then [] else V.hss cs
  | .grow _ _ _ _ rows => bif rows.all V.pures then [] else V.hss rows.flatten
  | .map es => V.hss (es.map (·.1) ++ es.map (·.2))
  | _ => []

/-- The objects that are reached. -/
def reach (s : St) : Nat → List Nat → List Nat → List Nat
  | 0, _, acc => acc
  | _ + 1, [], acc => acc
  | n + 1, h :: t, acc => bif acc.contains h then reach s n t acc else reach s n (t ++ (s.at h).hs) (acc ++ [h])

def idxOf : List Nat → Nat → Option Nat
  | [], _ => none
  | x :: r, h => bif Nat.beq x h then some 0 else (idxOf r h).map (· + 1)

def mapO2 (f : V → Option V) : List (List V) → Option (List (List V))
  | [] => some []
  | v :: r => match mapO f v with
    | some x => match mapO2 f r with
      | some xs => some (x :: xs)
      | none => none
    | none => none

def snapObj (s : St) (p : SP) : Obj → Option Obj
  | .dead => some .dead
  | .box ty cs => (mapO (snap s p snapDepth) cs).map (.box ty)
  | .nilg ag sz => some (.nilg ag sz)
  | .grow ty v ag sz rows => (mapO2 (snap s p snapDepth) rows).map (.grow ty v ag sz)
  | .map _ => none

def snapObjs (s : St) (p : SP) : List Nat → Option St
  | [] => some []
  | h :: r => match snapObj s p (s.at h) with
    | some o => (snapObjs s p r).map (o :: ·)
    | none => none

/-- Put objects back under their handles. -/
def setAll : St → List Nat → St → St
  | s, h :: hs, o :: os => setAll (s.set h o) hs os
  | s, _, _ => s

def spIn (hs : List Nat) : SP := { rd := false, sn := false, fg := false, m := idxOf hs }
/-- Back: the first ones by their names; the others, if they are kept, as new ones. -/
def spBack (hs : List Nat) (n : Nat) (keep fg : Bool) : SP :=
  { rd := false, sn := !keep, fg := fg, m := fun i => bif Nat.blt i hs.length then hs[i]? else bif keep then some (n + (i - hs.length)) else none }

def inoutBack (hs : List Nat) (keep : Bool) (s s' : St) (v : V) : Option (V × St) :=
  bif Nat.ble hs.length s'.length then
  match snap s' (spBack hs s.length keep true) snapDepth v, snapObjs s' (spBack hs s.length keep false) (List.range (bif keep then s'.length else hs.length)) with
  | some x, some os => some (x, setAll s hs os ++ os.drop hs.length)
  | _, _ => none
  else none

def inoutCall (K : Calls) (keep : Bool) (f : Nat) (args : List V) (s : St) : Option OR :=
  bif (reach s 64 (V.hss args) []).all (fun h => Nat.blt h s.length) then
  match mapO (snap s { spIn (reach s 64 (V.hss args) []) with fg := true } snapDepth) args, snapObjs s (spIn (reach s 64 (V.hss args) [])) (reach s 64 (V.hss args) []) with
  | some as, some si => match K f as si with
    | some (.ret v s') => (inoutBack (reach s 64 (V.hss args) []) keep s s' v).map fun x => .val x.1 x.2
    | some (.pan v s') => (inoutBack (reach s 64 (V.hss args) []) keep s s' v).map fun x => .pan x.1 x.2
    | none => none
  | _, _ => none
  else none

def callAs (K : Calls) (m : CM) (f : Nat) (args : List V) (s : St) : Option OR :=
  match m with
  | .closed => closedCall K f args s
  | .drop => inoutCall K false f args s
  | .keep => inoutCall K true f args s

/-- Nil slices in fresh cells begin to grow. -/
def pregrow (base : Nat) : List (Nat × Bool × Nat) → List V → List V × List Obj
  | [], cs => (cs, [])
  | (i, ag, n) :: r, cs => match cs[i]? with
    | some (.sl true []) => ((pregrow (base + 1) r (cs.set i (.gs base 0 0 0))).1, .nilg ag n :: (pregrow (base + 1) r (cs.set i (.gs base 0 0 0))).2)
    | _ => pregrow base r cs

def pureOp (s : St) (r : Option V) : Option OR := match r with
  | some v => some (.val v s)
  | none => none

def insV (K : Calls) (e : Env) (s : St) : Ins → Option OR
  | .mv x => some (.val (x.get e) s)
  | .pick c a b => match c.get e with
    | .bool t => some (.val (bif t then a.get e else b.get e) s)
    | _ => none
  | .alloc ty zs gl => some (.val (.ptr s.length 0) (s ++ .box ty (pregrow (s.length + 1) gl zs).1 :: (pregrow (s.length + 1) gl zs).2))
  | .nilS ag n => some (.val (.gs s.length 0 0 0) (s ++ [.nilg ag n]))
  | .box ty x gl => if (x.get e).cells.all V.oneCell then some (.val (.ptr s.length 0) (s ++ .box ty (pregrow (s.length + 1) gl (x.get e).cells).1 :: (pregrow (s.length + 1) gl (x.get e).cells).2)) else none
  | .build zs ps => match fillV zs (ps.map fun p => (p.1, p.2.1, p.2.2.get e)) with
    | some cs => some (.val (.agg cs) s)
    | none => none
  | .lit n z ps => match fillRows z.cells.length (List.replicate n z) (ps.map fun p => (p.1, p.2.get e)) with
    | some xs => some (.val (.sl (!Nat.beq n 0) xs) s)
    | none => none
  | .load ag n a => match loadN s (a.get e) n with
    | some cs => pureOp s (mkLoad ag cs)
    | none => none
  | .store n a x => if (x.get e).cells.length = n then
      match storeN s (a.get e) (x.get e).cells with
      | some s' => some (.val .undef s')
      | none => none
    else none
  | .nilCheck x => match x.get e with
    | .ptr h o => some (.val (.ptr h o) s)
    | .gptr h v i n o => some (.val (.gptr h v i n o) s)
    | .ro cs => some (.val (.ro cs) s)
    | .fn f a b => some (.val (.fn f a b) s)
    | _ => none
  | .bin op x y => pureOp s (binV op (x.get e) (y.get e))
  | .eq neg k x y => match eqV k (x.get e) (y.get e) with
    | some r => some (.val (.bool (bif neg then !r else r)) s)
    | none => none
  | .un op x => pureOp s (unV op (x.get e))
  | .conv k x => match k, x.get e with
    | .int k, .int _ n => some (.val (.int k (k.wrap n)) s)
    | .same, .str b => some (.val (.str b) s)
    | .runeStr, .int _ n => some (.val (.str (Go.Utf8.encode n).data.toList) s)
    | .bytesStr, .sl _ xs => match bytesOf xs with
      | some b => some (.val (.str b) s)
      | none => none
    | .bytesStr, .gs h ver off len => match s.at h with
      | .grow _ v _ sz rows => if v = ver ∧ sz = 1 ∧ off + len ≤ rows.length then
          match bytesOf (((rows.drop off).take len).map (rowV false)) with
          | some b => some (.val (.str b) s)
          | none => none
        else none
      | .nilg _ _ => if len = 0 then some (.val (.str []) s) else none
      | _ => none
    | .toBytes, .str b => some (.val (.sl false (b.map fun x => .int .u8 x.toNat)) s)
    | .f2i k, .flt f b => pureOp s (fltInt k f b)
    | _, _ => none
  | .uns ty n x => match x.get e with
    | .ptr h 0 => match s.at h with
      | .box ty' cs => bif Nat.beq ty' ty && Nat.beq cs.length n then some (.val (.ptr h 0) s) else none
      | _ => none
    | _ => none
  | .sdata x => match x.get e with
    | .sl true [] => some (.val .nilp s)
    | .gs g ver 0 len => match s.at g with
      | .grow _ v _ sz _ => if v = ver then some (.val (.gptr g ver 0 sz 0) s) else none
      | .nilg _ _ => if ver = 0 ∧ len = 0 then some (.val .nilp s) else none
      | _ => none
    | _ => none
  | .ustr ty x n => match x.get e, n.get e with
    | .nilp, .int _ k => if k = 0 then some (.val (.str []) s) else none
    | .gptr g ver 0 _ 0, .int .i64 k => match s.at g with
      | .grow ty' v _ sz rows => if ty' = ty ∧ v = ver ∧ sz = 1 ∧ 0 ≤ k ∧ k.toNat ≤ rows.length ∧ k ≤ 9223372036854775807 then
          match bytesOf ((rows.take k.toNat).map (rowV false)) with
          | some [] => some (.val (.str []) s)
          | some b => some (.val (.str b) (s.set g .dead))
          | none => none
        else none
      | _ => none
    | _, _ => none
  | .mkIface t x => some (.val (.iface t (x.get e)) s)
  | .mkFn f a b => some (.val (.fn f (a.map (·.get e)) (b.map (·.get e))) s)
  | .slc str n x lo hi mx => bif (x.get e).isStr == str then pureOp s (slcV n e s (x.get e) lo hi mx) else none
  | .faddr k x => pureOp s (faddrV k (x.get e))
  | .field ag off n x => match x.get e with
    | .agg cs => match takeN cs off n with
      | some r => pureOp s (mkLoad ag r)
      | none => none
    | _ => none
  | .iaddr n x i => match x.get e, i.get e with
    | .sl _ xs, .int _ j => match idx j xs.length with
      | some m => match xs[m]? with
        | some v => if v.cells.length = n then some (.val (.ro v.cells) s) else none
        | none => none
      | none => none
    | .gs h ver off len, .int _ j => match s.at h with
      | .grow _ v _ sz _ => if v = ver ∧ sz = n then
          match idx j len with
          | some m => some (.val (.gptr h ver (off + m) n 0) s)
          | none => none
        else none
      | _ => none
    | _, _ => none
  | .aaddr len n x i => match i.get e with
    | .int _ j => match idx j len with
      | some m => pureOp s (faddrV (m * n) (x.get e))
      | none => none
    | _ => none
  | .index x i => match x.get e, i.get e with
    | .str b, .int _ j => match (if 0 ≤ j then b[j.toNat]? else none) with
      | some c => some (.val (.int .u8 c.toNat) s)
      | none => none
    | _, _ => none
  | .aindex len ag n x i => match x.get e, i.get e with
    | .agg cs, .int _ j => match idx j len with
      | some m => match takeN cs (m * n) (bif ag then n else 1) with
        | some r => pureOp s (mkLoad ag r)
        | none => none
      | none => none
    | _, _ => none
  | .tassert t z x => match x.get e with
    | .nili => some (.val (.tup [z, .bool false]) s)
    | .iface t' v => some (.val (if t' = t then .tup [v, .bool true] else .tup [z, .bool false]) s)
    | _ => none
  | .extract i x => match x.get e with
    | .tup vs => pureOp s vs[i]?
    | _ => none
  | .len str x => bif (x.get e).isStr == str then pureOp s (lenV (x.get e)) else none
  | .append ty ag n x y => appendV ty ag n s (x.get e) (y.get e)
  | .minmax mx x y => match x.get e, y.get e with
    | .int k a, .int k' b => if k = k' then some (.val (.int k (if mx then max a b else min a b)) s) else none
    | _, _ => none
  | .call m f args => callAs K m f (args.map (·.get e)) s
  | .callv m f args => match f.get e with
    | .fn g first cap => callAs K m g (first ++ args.map (·.get e) ++ cap) s
    | _ => none
  | .panic x => match x.get e with
    | .iface t v => some (.pan (.iface t v) s)
    | _ => none

def wanted (e : Env) : Option (Nat × Bool) → Option Bool
  | none => some true
  | some (j, w) => match e.get j with
    | .bool b => some (b == w)
    | .undef => some false
    | _ => none

def Env.put (e : Env) : Option Nat → V → Env
  | some d, v => (d, v) :: e
  | none, _ => e

def ops (K : Calls) : List IOp → Env → St → Option (Ex × Env × St)
  | [], e, s => some (.nxt, e, s)
  | o :: r, e, s => match wanted e o.g with
    | some true => match insV K e s o.ins with
      | some (.val v s') => ops K r (e.put o.dst v) s'
      | some (.pan v s') => some (.pan v, e, s')
      | none => none
    | some false => ops K r (e.put o.dst .undef) s
    | none => none

/-! the same -/
mutual
def V.same : V → V → Bool
  | .undef, .undef => true
  | .top, .top => true
  | .bool a, .bool b => a == b
  | .int k a, .int k' b => decide (k = k') && decide (a = b)
  | .flt k a, .flt k' b => decide (k = k') && Nat.beq a b
  | .str a, .str b => a == b
  | .nilp, .nilp => true
  | .ptr h o, .ptr h' o' => Nat.beq h h' && Nat.beq o o'
  | .gptr h v i n o, .gptr h' v' i' n' o' => Nat.beq h h' && Nat.beq v v' && Nat.beq i i' && Nat.beq n n' && Nat.beq o o'
  | .ro a, .ro b => V.sames a b
  | .sl x a, .sl y b => x == y && V.sames a b
  | .gs h v o l, .gs h' v' o' l' => Nat.beq h h' && Nat.beq v v' && Nat.beq o o' && Nat.beq l l'
  | .map h, .map h' => Nat.beq h h'
  | .nilmap, .nilmap => true
  | .fn f a b, .fn f' a' b' => Nat.beq f f' && V.sames a a' && V.sames b b'
  | .nilfn, .nilfn => true
  | .iface t v, .iface t' v' => Nat.beq t t' && V.same v v'
  | .nili, .nili => true
  | .agg a, .agg b => V.sames a b
  | .tup a, .tup b => V.sames a b
  | _, _ => false
def V.sames : List V → List V → Bool
  | [], [] => true
  | v :: r, v' :: r' => V.same v v' && V.sames r r'
  | _, _ => false
end

def V.samess : List (List V) → List (List V) → Bool
  | [], [] => true
  | v :: r, v' :: r' => V.sames v v' && V.samess r r'
  | _, _ => false

def Obj.same : Obj → Obj → Bool
  | .dead, .dead => true
  | .box t a, .box t' b => Nat.beq t t' && V.sames a b
  | .nilg a n, .nilg b m => a == b && Nat.beq n m
  | .grow t v a n r, .grow t' v' b m r' => Nat.beq t t' && Nat.beq v v' && a == b && Nat.beq n m && V.samess r r'
  | _, _ => false

def St.same : St → St → Bool
  | [], [] => true
  | o :: r, o' :: r' => Obj.same o o' && St.same r r'
  | _, _ => false

def agrees (ds : List Nat) : Ex × Env × St → Option (Ex × Env × St) → Bool
  | (.pan v, _, s), some (.pan v', _, s') => V.same v v' && St.same s s'
  | (.nxt, e, s), some (.nxt, e', s') => V.sames (ds.map e.get) (ds.map e'.get) && St.same s s'
  | _, _ => false

def agreeAll (ds : List Nat) (r : Ex × Env × St) : List (Option (Ex × Env × St)) → Bool
  | [] => true
  | x :: l => agrees ds r x && agreeAll ds r l

def drawn (ds : List Nat) : Option (Ex × Env × St) → List (Option (Ex × Env × St)) → Option (Ex × Env × St)
  | some r, l => bif agreeAll ds r l then some r else none
  | none, _ => none

abbrev Loops := List Nat → C → Env → St → Option (Ex × Env × St)

def ev (K : Calls) (L : Loops) : C → Env → St → Option (Ex × Env × St)
  | .skip, e, s => some (.nxt, e, s)
  | .reg os, e, s => ops K os e s
  | .draw ds os oss, e, s => drawn ds (ops K os e s) (oss.map fun o => ops K o e s)
  | .seq a b, e, s => match ev K L a e s with
    | some (.nxt, e', s') => ev K L b e' s'
    | r => r
  | .cond c a b, e, s => match c.get e with
    | .bool t => bif t then ev K L a e s else ev K L b e s
    | _ => none
  | .blk id b, e, s => match ev K L b e s with
    | some (.exit j, e', s') => some (if j = id then .nxt else .exit j, e', s')
    | r => r
  | .loop live b, e, s => L live b (e.mask live) s
  | .exit id, e, s => some (.exit id, e, s)
  | .ret, e, s => some (.ret, e, s)

inductive ResV where
  | tmp (i : Nat)
  | cell (i : Nat) (ag : Bool) (n : Nat)

structure Fn where
  np : Nat
  nt : Nat
  res : List ResV
  body : C

def ResV.get (e : Env) (s : St) : ResV → Option V
  | .tmp i => some (e.get i)
  | .cell i ag n => match loadN s (e.get i) n with
    | some cs => mkLoad ag cs
    | none => none

def resAll (e : Env) (s : St) : List ResV → Option (List V)
  | [] => some []
  | r :: rs => match r.get e s with
    | some v => (resAll e s rs).map (v :: ·)
    | none => none

def resOf (e : Env) (s : St) (rs : List ResV) : Option V :=
  match resAll e s rs with
  | some [v] => some v
  | some vs => some (.tup vs)
  | none => none

def args0 : Nat → List V → Env
  | _, [] => []
  | i, v :: r => (i, v) :: args0 (i + 1) r

def body (K : Calls) (L : Loops) (fn : Fn) (args : List V) (s : St) : Option Out :=
  if args.length = fn.np then
    match ev K L fn.body (args0 0 args) s with
    | some (.nxt, e, s') | some (.ret, e, s') => match resOf e s' fn.res with
      | some v => some (.ret v s')
      | none => none
    | some (.pan v, _, s') => some (.pan v s')
    | _ => none
  else none

end Ab

/-  What is the same is equal. -/
namespace Ab

mutual
theorem V.same_eq : ∀ {a b : V}, V.same a b = true → a = b
  | .undef, b, h => by cases b <;> simp_all [V.same]
  | .top, b, h => by cases b <;> simp_all [V.same]
  | .bool _, b, h => by cases b <;> simp_all [V.same]
  | .int _ _, b, h => by cases b <;> simp_all [V.same]
  | .flt _ _, b, h => by cases b <;> simp_all [V.same]
  | .str _, b, h => by cases b <;> simp_all [V.same]
  | .nilp, b, h => by cases b <;> simp_all [V.same]
  | .ptr _ _, b, h => by cases b <;> simp_all [V.same]
  | .gptr _ _ _ _ _, b, h => by cases b <;> simp_all [V.same]
  | .ro a, b, h => by cases b <;> simp only [V.same, Bool.false_eq_true] at h; rw [V.sames_eq h]
  | .sl x a, b, h => by
    cases b <;> simp only [V.same, Bool.false_eq_true, Bool.and_eq_true, beq_iff_eq] at h
    rw [V.sames_eq h.2, h.1]
  | .gs _ _ _ _, b, h => by cases b <;> simp_all [V.same]
  | .map _, b, h => by cases b <;> simp_all [V.same]
  | .nilmap, b, h => by cases b <;> simp_all [V.same]
  | .fn f x y, b, h => by
    cases b <;> simp only [V.same, Bool.false_eq_true, Bool.and_eq_true] at h
    rw [V.sames_eq h.2, V.sames_eq h.1.2, Nat.eq_of_beq_eq_true h.1.1]
  | .nilfn, b, h => by cases b <;> simp_all [V.same]
  | .iface t v, b, h => by
    cases b <;> simp only [V.same, Bool.false_eq_true, Bool.and_eq_true] at h
    rw [V.same_eq h.2, Nat.eq_of_beq_eq_true h.1]
  | .nili, b, h => by cases b <;> simp_all [V.same]
  | .agg a, b, h => by cases b <;> simp only [V.same, Bool.false_eq_true] at h; rw [V.sames_eq h]
  | .tup a, b, h => by cases b <;> simp only [V.same, Bool.false_eq_true] at h; rw [V.sames_eq h]
theorem V.sames_eq : ∀ {a b : List V}, V.sames a b = true → a = b
  | [], b, h => by cases b <;> simp_all [V.sames]
  | v :: r, b, h => by
    cases b with
    | nil => simp [V.sames] at h
    | cons w t =>
      simp only [V.sames, Bool.and_eq_true] at h
      rw [V.same_eq h.1, V.sames_eq h.2]
end

mutual
theorem V.same_refl : ∀ (a : V), V.same a a = true
  | .undef => rfl
  | .top => rfl
  | .bool _ => by simp [V.same]
  | .int _ _ => by simp [V.same]
  | .flt _ _ => by simp [V.same]
  | .str _ => by simp [V.same]
  | .nilp => rfl
  | .ptr _ _ => by simp [V.same]
  | .gptr _ _ _ _ _ => by simp [V.same]
  | .ro a => by simp only [V.same]; exact V.sames_refl a
  | .sl x a => by simp only [V.same, beq_self_eq_true, Bool.true_and]; exact V.sames_refl a
  | .gs _ _ _ _ => by simp [V.same]
  | .map _ => by simp [V.same]
  | .nilmap => rfl
  | .fn f x y => by simp only [V.same, Nat.beq_refl, V.sames_refl x, V.sames_refl y, Bool.and_true]
  | .nilfn => rfl
  | .iface t v => by simp only [V.same, Nat.beq_refl, V.same_refl v, Bool.and_true]
  | .nili => rfl
  | .agg a => by simp only [V.same]; exact V.sames_refl a
  | .tup a => by simp only [V.same]; exact V.sames_refl a
theorem V.sames_refl : ∀ (a : List V), V.sames a a = true
  | [] => rfl
  | v :: r => by simp only [V.sames, V.same_refl v, V.sames_refl r, Bool.and_true]
end

theorem V.samess_eq : ∀ {a b : List (List V)}, V.samess a b = true → a = b
  | [], b, h => by cases b <;> simp_all [V.samess]
  | v :: r, b, h => by
    cases b with
    | nil => simp [V.samess] at h
    | cons w t =>
      simp only [V.samess, Bool.and_eq_true] at h
      rw [V.sames_eq h.1, V.samess_eq h.2]
theorem V.samess_refl : ∀ (a : List (List V)), V.samess a a = true
  | [] => rfl
  | v :: r => by simp only [V.samess, V.sames_refl v, V.samess_refl r, Bool.and_true]

theorem Obj.same_eq {a b : Obj} (h : Obj.same a b = true) : a = b := by
  cases a <;> cases b <;> simp only [Obj.same, Bool.false_eq_true, Bool.and_eq_true, beq_iff_eq] at h
  · rfl
  · rw [V.sames_eq h.2, Nat.eq_of_beq_eq_true h.1]
  · rw [h.1, Nat.eq_of_beq_eq_true h.2]
  · rw [V.samess_eq h.2, Nat.eq_of_beq_eq_true h.1.2, h.1.1.2, Nat.eq_of_beq_eq_true h.1.1.1.2, Nat.eq_of_beq_eq_true h.1.1.1.1]

theorem St.same_eq : ∀ {a b : St}, St.same a b = true → a = b
  | [], b, h => by cases b <;> simp_all [St.same]
  | v :: r, b, h => by
    cases b with
    | nil => simp [St.same] at h
    | cons w t =>
      simp only [St.same, Bool.and_eq_true] at h
      rw [Obj.same_eq h.1, St.same_eq h.2]

end Ab

/-  Runs of the abstract machine: with fuel, without; how they unfold. -/
namespace Ab

/-- A function that begins with its results' cells and defers one call, of a closure that recovers. -/
structure GFn where
  np : Nat
  pre : List IOp
  fnop : IOp
  dt : Nat
  df : Nat
  prot : List Nat
  res : List ResV
  rest : C
  hnp : Nat
  hd : Nat
  hops : List IOp
  hrest : C

def ghandle (K : Calls) (L : Loops) (g : GFn) (e1 : Env) (caps : List V) (rv : V) (s : St) : Option Out :=
  match ops K g.hops ((g.hd, rv) :: args0 0 caps) s with
  | some (.nxt, e, s1) => match ev K L g.hrest e s1 with
    | some (.nxt, _, s2) | some (.ret, _, s2) => match resOf (e1.mask g.prot) s2 g.res with
      | some v => some (.ret v s2)
      | none => none
    | _ => none
  | _ => none

def gbody (K : Calls) (L : Loops) (g : GFn) (args : List V) (s : St) : Option Out :=
  if args.length = g.np then
    match ops K g.pre (args0 0 args) s with
    | some (.nxt, e0, s0) => match ops K [g.fnop] e0 s0 with
      | some (.nxt, e1, s1) => match e1.get g.dt with
        | .fn f [] caps => bif Nat.beq f g.df && Nat.beq caps.length g.hnp then
            match ev K L g.rest e1 s1 with
            | some (.nxt, _, s2) | some (.ret, _, s2) => ghandle K L g e1 caps .nili s2
            | some (.pan v, _, s2) => ghandle K L g e1 caps v s2
            | _ => none
          else none
        | _ => none
      | _ => none
    | _ => none
  else none

inductive FK where
  | code (fn : Fn)
  | guard (g : GFn)
  | prim (p : List V → St → Option Out)

abbrev Prog := Nat → Option FK

def step (P : Prog) (K : Calls) (L : Loops) : Calls := fun f args s =>
  match P f with
  | some (.code fn) => body K L fn args s
  | some (.guard g) => gbody K L g args s
  | some (.prim p) => p args s
  | none => none

def lstep (K : Calls) (L : Loops) : Loops := fun live b e s =>
  match ev K L b e s with
  | some (.nxt, e', s') => L live b (e'.mask live) s'
  | r => r

def runN (P : Prog) : Nat → Calls × Loops
  | 0 => (fun _ _ _ => none, fun _ _ _ _ => none)
  | n + 1 => (step P (runN P n).1 (runN P n).2, lstep (runN P n).1 (runN P n).2)

def Calls.le (K K' : Calls) : Prop := ∀ f a s r, K f a s = some r → K' f a s = some r
def Loops.le (L L' : Loops) : Prop := ∀ l b e s r, L l b e s = some r → L' l b e s = some r

theorem closedCall_le {K K' : Calls} (h : K.le K') {f a s r} (hr : closedCall K f a s = some r) : closedCall K' f a s = some r := by
  unfold closedCall at hr ⊢
  cases hp : V.pures a with
  | true =>
    simp only [hp, cond_true] at hr ⊢
    cases hk : K f (V.forgets a) [] with
    | none => simp [hk] at hr
    | some o => rw [h _ _ _ _ hk]; simpa [hk] using hr
  | false =>
    simp only [hp, cond_false] at hr ⊢
    cases hs : mapO (snap s spLook snapDepth) a with
    | none => simp [hs] at hr
    | some as =>
      simp only [hs] at hr ⊢
      cases hk : K f as [] with
      | none => simp [hk] at hr
      | some o => rw [h _ _ _ _ hk]; simpa [hk] using hr

theorem inoutCall_le {K K' : Calls} (h : K.le K') {kp f a s r} (hr : inoutCall K kp f a s = some r) : inoutCall K' kp f a s = some r := by
  unfold inoutCall at hr ⊢
  cases hb : (reach s 64 (V.hss a) []).all (fun h => Nat.blt h s.length) with
  | false => simp [hb] at hr
  | true =>
    simp only [hb, cond_true] at hr ⊢
    split at hr
    · rename_i as si _ _
      cases hk : K f as si with
      | none => simp [hk] at hr
      | some o => rw [h _ _ _ _ hk]; simpa [hk] using hr
    · cases hr

theorem callAs_le {K K' : Calls} (h : K.le K') {m f a s r} (hr : callAs K m f a s = some r) : callAs K' m f a s = some r := by
  cases m
  · exact closedCall_le h hr
  · exact inoutCall_le h hr
  · exact inoutCall_le h hr

theorem insV_le {K K' : Calls} (h : K.le K') {e s i r} (hr : insV K e s i = some r) : insV K' e s i = some r := by
  cases i with
  | call m f args => exact callAs_le h hr
  | callv m f args =>
    simp only [insV] at hr ⊢
    split at hr
    · exact callAs_le h hr
    · exact hr
  | _ => exact hr

theorem ops_le {K K' : Calls} (h : K.le K') : ∀ {os e s r}, ops K os e s = some r → ops K' os e s = some r := by
  intro os
  induction os with
  | nil => intro e s r hr; exact hr
  | cons o os ih =>
    intro e s r hr
    simp only [ops] at hr ⊢
    cases hw : wanted e o.g with
    | none => simp [hw] at hr
    | some t =>
      simp only [hw] at hr ⊢
      cases t with
      | false => exact ih hr
      | true =>
        cases hi : insV K e s o.ins with
        | none => simp [hi] at hr
        | some x =>
          rw [insV_le h hi]
          simp only [hi] at hr ⊢
          cases x with
          | val v s' => exact ih hr
          | pan v s' => exact hr

theorem agrees_some {ds r x} (h : agrees ds r x = true) : ∃ y, x = some y := by
  cases x with
  | none => obtain ⟨a, b, c⟩ := r; cases a <;> simp [agrees] at h
  | some y => exact ⟨y, rfl⟩

theorem drawn_le {K K' : Calls} (h : K.le K') {ds os} {oss : List (List IOp)} {e s r} (hr : drawn ds (ops K os e s) (oss.map fun o => ops K o e s) = some r) : drawn ds (ops K' os e s) (oss.map fun o => ops K' o e s) = some r := by
  cases h1 : ops K os e s with
  | none => rw [h1] at hr; cases hr
  | some x =>
    rw [h1] at hr
    rw [ops_le h h1]
    simp only [drawn] at hr ⊢
    cases ha : agreeAll ds x (oss.map fun o => ops K o e s) with
    | false => rw [ha] at hr; cases hr
    | true =>
      have : agreeAll ds x (oss.map fun o => ops K' o e s) = true := by
        clear hr
        induction oss with
        | nil => rfl
        | cons o oss ih =>
          simp only [List.map_cons, agreeAll, Bool.and_eq_true] at ha ⊢
          obtain ⟨y, hy⟩ := agrees_some ha.1
          refine ⟨?_, ih ha.2⟩
          rw [ops_le h hy, ← hy]; exact ha.1
      rw [this]; rw [ha] at hr; exact hr

theorem ev_le {K K' : Calls} {L L' : Loops} (h : K.le K') (hl : L.le L') : ∀ {c e s r}, ev K L c e s = some r → ev K' L' c e s = some r := by
  intro c
  induction c with
  | skip => intro e s r hr; exact hr
  | reg os => intro e s r hr; exact ops_le h hr
  | draw ds os oss => intro e s r hr; exact drawn_le h hr
  | seq a b iha ihb =>
    intro e s r hr
    simp only [ev] at hr ⊢
    cases ha : ev K L a e s with
    | none => simp [ha] at hr
    | some x =>
      rw [iha ha]
      obtain ⟨x, e', s'⟩ := x
      cases x <;> simp only [ha] at hr ⊢
      · exact ihb hr
      all_goals exact hr
  | cond c a b iha ihb =>
    intro e s r hr
    simp only [ev] at hr ⊢
    split at hr
    · rename_i t _
      cases t
      · exact ihb hr
      · exact iha hr
    · simp at hr
  | blk id b ih =>
    intro e s r hr
    simp only [ev] at hr ⊢
    cases hb : ev K L b e s with
    | none => simp [hb] at hr
    | some x => rw [ih hb]; rw [hb] at hr; exact hr
  | loop l b => intro e s r hr; exact hl _ _ _ _ _ hr
  | exit id => intro e s r hr; exact hr
  | ret => intro e s r hr; exact hr

theorem body_le {K K' : Calls} {L L' : Loops} (h : K.le K') (hl : L.le L') {fn args s r} (hr : body K L fn args s = some r) : body K' L' fn args s = some r := by
  unfold body at hr ⊢
  by_cases hn : args.length = fn.np
  · simp only [hn, if_true] at hr ⊢
    cases hb : ev K L fn.body (args0 0 args) s with
    | none => simp [hb] at hr
    | some x => rw [ev_le h hl hb]; rw [hb] at hr; exact hr
  · simp [hn] at hr

theorem ghandle_le {K K' : Calls} {L L' : Loops} (h : K.le K') (hl : L.le L') {g e1 caps rv s r} (hr : ghandle K L g e1 caps rv s = some r) : ghandle K' L' g e1 caps rv s = some r := by
  unfold ghandle at hr ⊢
  cases h1 : ops K g.hops ((g.hd, rv) :: args0 0 caps) s with
  | none => rw [h1] at hr; cases hr
  | some x =>
    rw [ops_le h h1]
    rw [h1] at hr
    obtain ⟨x, e, s1⟩ := x
    cases x <;> simp only at hr ⊢ <;> first | (cases hr; done) | skip
    cases h2 : ev K L g.hrest e s1 with
    | none => rw [h2] at hr; cases hr
    | some y => rw [ev_le h hl h2]; rw [h2] at hr; exact hr

theorem gbody_le {K K' : Calls} {L L' : Loops} (h : K.le K') (hl : L.le L') {g args s r} (hr : gbody K L g args s = some r) : gbody K' L' g args s = some r := by
  unfold gbody at hr ⊢
  by_cases hn : args.length = g.np
  · simp only [hn, if_true] at hr ⊢
    cases h1 : ops K g.pre (args0 0 args) s with
    | none => simp only [h1] at hr; cases hr
    | some x =>
      simp only [ops_le h h1]
      simp only [h1] at hr
      obtain ⟨x, e, s1⟩ := x
      cases x <;> simp only at hr ⊢ <;> first | (cases hr; done) | skip
      cases h2 : ops K [g.fnop] e s1 with
      | none => simp only [h2] at hr; cases hr
      | some y =>
        simp only [ops_le h h2]
        simp only [h2] at hr
        obtain ⟨y, e1, s2⟩ := y
        cases y <;> simp only at hr ⊢ <;> first | (cases hr; done) | skip
        split at hr
        · rename_i f caps hf
          cases hb : (Nat.beq f g.df && Nat.beq caps.length g.hnp) with
          | false => simp only [hb, cond_false] at hr; cases hr
          | true =>
            simp only [hb, cond_true] at hr ⊢
            cases h3 : ev K L g.rest e1 s2 with
            | none => simp only [h3] at hr; cases hr
            | some z =>
              simp only [ev_le h hl h3]
              simp only [h3] at hr
              obtain ⟨z, e3, s3⟩ := z
              cases z <;> simp only at hr ⊢ <;> first | exact ghandle_le h hl hr | exact hr
        · cases hr
  · simp [hn] at hr

theorem step_le (P : Prog) {K K' : Calls} {L L' : Loops} (h : K.le K') (hl : L.le L') : (step P K L).le (step P K' L') := by
  intro f a s r hr
  unfold step at hr ⊢
  split at hr
  · exact body_le h hl hr
  · exact gbody_le h hl hr
  · exact hr
  · simp at hr

theorem lstep_le {K K' : Calls} {L L' : Loops} (h : K.le K') (hl : L.le L') : (lstep K L).le (lstep K' L') := by
  intro l b e s r hr
  unfold lstep at hr ⊢
  cases hb : ev K L b e s with
  | none => simp [hb] at hr
  | some x =>
    rw [ev_le h hl hb]
    obtain ⟨x, e', s'⟩ := x
    cases x <;> simp only [hb] at hr ⊢
    · exact hl _ _ _ _ _ hr
    all_goals exact hr

theorem runN_le_succ (P : Prog) : ∀ n, (runN P n).1.le (runN P (n + 1)).1 ∧ (runN P n).2.le (runN P (n + 1)).2
  | 0 => ⟨fun _ _ _ _ h => by simp [runN] at h, fun _ _ _ _ _ h => by simp [runN] at h⟩
  | n + 1 => ⟨step_le P (runN_le_succ P n).1 (runN_le_succ P n).2, lstep_le (runN_le_succ P n).1 (runN_le_succ P n).2⟩

theorem runN_le (P : Prog) {n m : Nat} (h : n ≤ m) : (runN P n).1.le (runN P m).1 ∧ (runN P n).2.le (runN P m).2 := by
  induction h with
  | refl => exact ⟨fun _ _ _ _ h => h, fun _ _ _ _ _ h => h⟩
  | step _ ih =>
    have hs := runN_le_succ P ‹Nat›
    exact ⟨fun _ _ _ _ h => hs.1 _ _ _ _ (ih.1 _ _ _ _ h), fun _ _ _ _ _ h => hs.2 _ _ _ _ _ (ih.2 _ _ _ _ _ h)⟩

open Classical in
noncomputable def run (P : Prog) : Calls := fun f a s =>
  if h : ∃ n r, (runN P n).1 f a s = some r then some (choose (choose_spec h)) else none

open Classical in
noncomputable def loop (P : Prog) : Loops := fun l b e s =>
  if h : ∃ n r, (runN P n).2 l b e s = some r then some (choose (choose_spec h)) else none

theorem run_of {P : Prog} {n f a s r} (h : (runN P n).1 f a s = some r) : run P f a s = some r := by
  have hx : ∃ n r, (runN P n).1 f a s = some r := ⟨n, r, h⟩
  unfold run
  rw [dif_pos hx]
  have h1 := Classical.choose_spec (Classical.choose_spec hx)
  generalize Classical.choose (Classical.choose_spec hx) = r' at h1 ⊢
  generalize Classical.choose hx = m at h1
  have a1 := (runN_le P (Nat.le_max_left n m)).1 _ _ _ _ h
  have a2 := (runN_le P (Nat.le_max_right n m)).1 _ _ _ _ h1
  rw [a1] at a2; exact a2.symm

theorem run_some {P : Prog} {f a s r} (h : run P f a s = some r) : ∃ n, (runN P n).1 f a s = some r := by
  unfold run at h
  split at h
  · rename_i hx
    have h1 := Classical.choose_spec (Classical.choose_spec hx)
    exact ⟨_, by rw [h1]; exact h⟩
  · simp at h

theorem loop_of {P : Prog} {n l b e s r} (h : (runN P n).2 l b e s = some r) : loop P l b e s = some r := by
  have hx : ∃ n r, (runN P n).2 l b e s = some r := ⟨n, r, h⟩
  unfold loop
  rw [dif_pos hx]
  have h1 := Classical.choose_spec (Classical.choose_spec hx)
  generalize Classical.choose (Classical.choose_spec hx) = r' at h1 ⊢
  generalize Classical.choose hx = m at h1
  have a1 := (runN_le P (Nat.le_max_left n m)).2 _ _ _ _ _ h
  have a2 := (runN_le P (Nat.le_max_right n m)).2 _ _ _ _ _ h1
  rw [a1] at a2; exact a2.symm

theorem loop_some {P : Prog} {l b e s r} (h : loop P l b e s = some r) : ∃ n, (runN P n).2 l b e s = some r := by
  unfold loop at h
  split at h
  · rename_i hx
    have h1 := Classical.choose_spec (Classical.choose_spec hx)
    exact ⟨_, by rw [h1]; exact h⟩
  · simp at h

theorem runN_run (P : Prog) (n : Nat) : (runN P n).1.le (run P) := fun _ _ _ _ h => run_of h
theorem runN_loop (P : Prog) (n : Nat) : (runN P n).2.le (loop P) := fun _ _ _ _ _ h => loop_of h

/-! what the limit does, some stage does -/
theorem closedCall_fin {P : Prog} {f a s r} (hr : closedCall (run P) f a s = some r) : ∃ n, closedCall (runN P n).1 f a s = some r := by
  unfold closedCall at hr
  cases hp : V.pures a with
  | true =>
    simp only [hp, cond_true] at hr
    cases hk : run P f (V.forgets a) [] with
    | none => simp [hk] at hr
    | some o =>
      obtain ⟨n, hn⟩ := run_some hk
      exact ⟨n, by unfold closedCall; simp only [hp, cond_true, hn]; simpa [hk] using hr⟩
  | false =>
    simp only [hp, cond_false] at hr
    cases hs : mapO (snap s spLook snapDepth) a with
    | none => simp [hs] at hr
    | some as =>
      simp only [hs] at hr
      cases hk : run P f as [] with
      | none => simp [hk] at hr
      | some o =>
        obtain ⟨n, hn⟩ := run_some hk
        exact ⟨n, by unfold closedCall; simp only [hp, cond_false, hs, hn]; simpa [hk] using hr⟩

theorem inoutCall_fin {P : Prog} {kp f a s r} (hr : inoutCall (run P) kp f a s = some r) : ∃ n, inoutCall (runN P n).1 kp f a s = some r := by
  unfold inoutCall at hr
  cases hb : (reach s 64 (V.hss a) []).all (fun h => Nat.blt h s.length) with
  | false => simp [hb] at hr
  | true =>
    simp only [hb, cond_true] at hr
    split at hr
    · rename_i as si h1 h2
      cases hk : run P f as si with
      | none => simp [hk] at hr
      | some o =>
        obtain ⟨n, hn⟩ := run_some hk
        exact ⟨n, by unfold inoutCall; simp only [hb, cond_true, h1, h2, hn]; simpa [hk] using hr⟩
    · cases hr

theorem callAs_fin {P : Prog} {m f a s r} (hr : callAs (run P) m f a s = some r) : ∃ n, callAs (runN P n).1 m f a s = some r := by
  cases m
  · exact closedCall_fin hr
  · exact inoutCall_fin hr
  · exact inoutCall_fin hr

theorem insV_fin {P : Prog} {e s i r} (hr : insV (run P) e s i = some r) : ∃ n, insV (runN P n).1 e s i = some r := by
  cases i with
  | call m f args => exact callAs_fin hr
  | callv m f args =>
    simp only [insV] at hr ⊢
    split at hr
    · exact callAs_fin hr
    · exact ⟨0, hr⟩
  | _ => exact ⟨0, hr⟩

theorem ops_fin {P : Prog} : ∀ {os e s r}, ops (run P) os e s = some r → ∃ n, ops (runN P n).1 os e s = some r := by
  intro os
  induction os with
  | nil => intro e s r hr; exact ⟨0, hr⟩
  | cons o os ih =>
    intro e s r hr
    simp only [ops] at hr ⊢
    cases hw : wanted e o.g with
    | none => simp [hw] at hr
    | some t =>
      simp only [hw] at hr ⊢
      cases t with
      | false => exact ih hr
      | true =>
        cases hi : insV (run P) e s o.ins with
        | none => simp [hi] at hr
        | some x =>
          obtain ⟨n, hn⟩ := insV_fin hi
          simp only [hi] at hr
          cases x with
          | val v s' =>
            obtain ⟨m, hm⟩ := ih hr
            refine ⟨max n m, ?_⟩
            rw [insV_le (runN_le P (Nat.le_max_left n m)).1 hn]
            exact ops_le (runN_le P (Nat.le_max_right n m)).1 hm
          | pan v s' => exact ⟨n, by rw [hn]; exact hr⟩

theorem agreeAll_fin {P : Prog} {ds e s x} : ∀ {oss : List (List IOp)}, agreeAll ds x (oss.map fun o => ops (run P) o e s) = true → ∃ n, agreeAll ds x (oss.map fun o => ops (runN P n).1 o e s) = true
  | [], _ => ⟨0, rfl⟩
  | o :: oss, h => by
    simp only [List.map_cons, agreeAll, Bool.and_eq_true] at h
    obtain ⟨y, hy⟩ := agrees_some h.1
    obtain ⟨n, hn⟩ := ops_fin hy
    obtain ⟨m, hm⟩ := agreeAll_fin h.2
    refine ⟨max n m, ?_⟩
    simp only [List.map_cons, agreeAll, Bool.and_eq_true]
    refine ⟨by rw [ops_le (runN_le P (Nat.le_max_left n m)).1 hn, ← hy]; exact h.1, ?_⟩
    have mono : ∀ (l : List (List IOp)), agreeAll ds x (l.map fun o => ops (runN P m).1 o e s) = true → agreeAll ds x (l.map fun o => ops (runN P (max n m)).1 o e s) = true := by
      intro l
      induction l with
      | nil => intro _; rfl
      | cons o l ih =>
        intro hl
        simp only [List.map_cons, agreeAll, Bool.and_eq_true] at hl ⊢
        obtain ⟨y, hy⟩ := agrees_some hl.1
        exact ⟨by rw [ops_le (runN_le P (Nat.le_max_right n m)).1 hy, ← hy]; exact hl.1, ih hl.2⟩
    exact mono _ hm

theorem drawn_fin {P : Prog} {ds os} {oss : List (List IOp)} {e s r} (hr : drawn ds (ops (run P) os e s) (oss.map fun o => ops (run P) o e s) = some r) : ∃ n, drawn ds (ops (runN P n).1 os e s) (oss.map fun o => ops (runN P n).1 o e s) = some r := by
  cases h1 : ops (run P) os e s with
  | none => rw [h1] at hr; cases hr
  | some x =>
    rw [h1] at hr
    obtain ⟨n, hn⟩ := ops_fin h1
    simp only [drawn] at hr
    cases ha : agreeAll ds x (oss.map fun o => ops (run P) o e s) with
    | false => rw [ha] at hr; cases hr
    | true =>
      rw [ha] at hr
      obtain ⟨m, hm⟩ := agreeAll_fin ha
      refine ⟨max n m, ?_⟩
      rw [ops_le (runN_le P (Nat.le_max_left n m)).1 hn]
      have mono : ∀ (l : List (List IOp)), agreeAll ds x (l.map fun o => ops (runN P m).1 o e s) = true → agreeAll ds x (l.map fun o => ops (runN P (max n m)).1 o e s) = true := by
        intro l
        induction l with
        | nil => intro _; rfl
        | cons o l ih =>
          intro hl
          simp only [List.map_cons, agreeAll, Bool.and_eq_true] at hl ⊢
          obtain ⟨y, hy⟩ := agrees_some hl.1
          exact ⟨by rw [ops_le (runN_le P (Nat.le_max_right n m)).1 hy, ← hy]; exact hl.1, ih hl.2⟩
      simp only [drawn]
      rw [mono _ hm]; exact hr

theorem ev_fin {P : Prog} : ∀ {c e s r}, ev (run P) (loop P) c e s = some r → ∃ n, ev (runN P n).1 (runN P n).2 c e s = some r := by
  intro c
  induction c with
  | skip => intro e s r hr; exact ⟨0, hr⟩
  | reg os => intro e s r hr; exact ops_fin hr
  | draw ds os oss => intro e s r hr; exact drawn_fin hr
  | seq a b iha ihb =>
    intro e s r hr
    simp only [ev] at hr ⊢
    cases ha : ev (run P) (loop P) a e s with
    | none => simp [ha] at hr
    | some x =>
      obtain ⟨n, hn⟩ := iha ha
      obtain ⟨x, e', s'⟩ := x
      cases x <;> simp only [ha] at hr
      · obtain ⟨m, hm⟩ := ihb hr
        refine ⟨max n m, ?_⟩
        rw [ev_le (runN_le P (Nat.le_max_left n m)).1 (runN_le P (Nat.le_max_left n m)).2 hn]
        exact ev_le (runN_le P (Nat.le_max_right n m)).1 (runN_le P (Nat.le_max_right n m)).2 hm
      all_goals exact ⟨n, by rw [hn]; exact hr⟩
  | cond c a b iha ihb =>
    intro e s r hr
    simp only [ev] at hr ⊢
    split at hr
    · rename_i t _
      cases t
      · exact ihb hr
      · exact iha hr
    · simp at hr
  | blk id b ih =>
    intro e s r hr
    simp only [ev] at hr ⊢
    cases hb : ev (run P) (loop P) b e s with
    | none => simp [hb] at hr
    | some x =>
      obtain ⟨n, hn⟩ := ih hb
      exact ⟨n, by rw [hn]; rw [hb] at hr; exact hr⟩
  | loop l b => intro e s r hr; exact loop_some hr
  | exit id => intro e s r hr; exact ⟨0, hr⟩
  | ret => intro e s r hr; exact ⟨0, hr⟩

theorem body_fin {P : Prog} {fn args s r} (hr : body (run P) (loop P) fn args s = some r) : ∃ n, body (runN P n).1 (runN P n).2 fn args s = some r := by
  unfold body at hr ⊢
  split at hr
  · rename_i hl
    simp only [hl, if_true]
    cases hb : ev (run P) (loop P) fn.body (args0 0 args) s with
    | none => simp [hb] at hr
    | some x =>
      obtain ⟨n, hn⟩ := ev_fin hb
      exact ⟨n, by rw [hn]; rw [hb] at hr; exact hr⟩
  · simp at hr

theorem lift2 (P : Prog) (n m : Nat) : (runN P n).1.le (runN P (max n m)).1 ∧ (runN P n).2.le (runN P (max n m)).2 ∧ (runN P m).1.le (runN P (max n m)).1 ∧ (runN P m).2.le (runN P (max n m)).2 :=
  ⟨(runN_le P (Nat.le_max_left n m)).1, (runN_le P (Nat.le_max_left n m)).2, (runN_le P (Nat.le_max_right n m)).1, (runN_le P (Nat.le_max_right n m)).2⟩

theorem ghandle_fin {P : Prog} {g e1 caps rv s r} (hr : ghandle (run P) (loop P) g e1 caps rv s = some r) : ∃ n, ghandle (runN P n).1 (runN P n).2 g e1 caps rv s = some r := by
  unfold ghandle at hr
  cases h1 : ops (run P) g.hops ((g.hd, rv) :: args0 0 caps) s with
  | none => rw [h1] at hr; cases hr
  | some x =>
    obtain ⟨n, hn⟩ := ops_fin h1
    simp only [h1] at hr
    obtain ⟨x, e, s1⟩ := x
    cases x <;> simp only at hr <;> first | (cases hr; done) | skip
    cases h2 : ev (run P) (loop P) g.hrest e s1 with
    | none => rw [h2] at hr; cases hr
    | some y =>
      obtain ⟨m, hm⟩ := ev_fin h2
      obtain ⟨l1, l2, l3, l4⟩ := lift2 P n m
      refine ⟨max n m, ?_⟩
      unfold ghandle
      simp only [ops_le l1 hn, ev_le l3 l4 hm]
      simp only [h2] at hr
      exact hr

theorem gbody_fin {P : Prog} {g args s r} (hr : gbody (run P) (loop P) g args s = some r) : ∃ n, gbody (runN P n).1 (runN P n).2 g args s = some r := by
  unfold gbody at hr
  by_cases hn : args.length = g.np
  · simp only [hn, if_true] at hr
    cases h1 : ops (run P) g.pre (args0 0 args) s with
    | none => simp only [h1] at hr; cases hr
    | some x =>
      obtain ⟨n1, hn1⟩ := ops_fin h1
      simp only [h1] at hr
      obtain ⟨x, e, s1⟩ := x
      cases x <;> simp only at hr <;> first | (cases hr; done) | skip
      cases h2 : ops (run P) [g.fnop] e s1 with
      | none => simp only [h2] at hr; cases hr
      | some y =>
        obtain ⟨n2, hn2⟩ := ops_fin h2
        simp only [h2] at hr
        obtain ⟨y, e1, s2⟩ := y
        cases y <;> simp only at hr <;> first | (cases hr; done) | skip
        split at hr
        · rename_i f caps hf
          cases hb : (Nat.beq f g.df && Nat.beq caps.length g.hnp) with
          | false => simp only [hb, cond_false] at hr; cases hr
          | true =>
            simp only [hb, cond_true] at hr
            cases h3 : ev (run P) (loop P) g.rest e1 s2 with
            | none => simp only [h3] at hr; cases hr
            | some z =>
              obtain ⟨n3, hn3⟩ := ev_fin h3
              simp only [h3] at hr
              obtain ⟨z, e3, s3⟩ := z
              have fin : ∀ rv, ghandle (run P) (loop P) g e1 caps rv s3 = some r → ∃ n, (runN P n1).1.le (runN P n).1 ∧ (runN P n2).1.le (runN P n).1 ∧ (runN P n3).1.le (runN P n).1 ∧ (runN P n3).2.le (runN P n).2 ∧ ghandle (runN P n).1 (runN P n).2 g e1 caps rv s3 = some r := by
                intro rv hrv
                obtain ⟨n4, hn4⟩ := ghandle_fin hrv
                refine ⟨max (max n1 n2) (max n3 n4), ?_, ?_, ?_, ?_, ?_⟩
                · exact (runN_le P (by omega)).1
                · exact (runN_le P (by omega)).1
                · exact (runN_le P (by omega)).1
                · exact (runN_le P (by omega)).2
                · exact ghandle_le (runN_le P (by omega)).1 (runN_le P (by omega)).2 hn4
              cases z <;> simp only at hr <;> first | (cases hr; done) | skip
              all_goals
                obtain ⟨n, a1, a2, a3, a4, a5⟩ := fin _ hr
                refine ⟨n, ?_⟩
                unfold gbody
                simp only [hn, if_true, ops_le a1 hn1, ops_le a2 hn2, hf, hb, cond_true, ev_le a3 a4 hn3]
                exact a5
        · cases hr
  · simp [hn] at hr

theorem option_ext {α : Type} {x y : Option α} (h1 : ∀ r, x = some r → y = some r) (h2 : ∀ r, y = some r → x = some r) : x = y := by
  cases x with
  | none => cases y with
    | none => rfl
    | some v => exact (h2 v rfl)
  | some v => exact (h1 v rfl).symm

theorem run_eq (P : Prog) (f : Nat) (a : List V) (s : St) : run P f a s = step P (run P) (loop P) f a s := by
  apply option_ext
  · intro r h
    obtain ⟨n, hn⟩ := run_some h
    cases n with
    | zero => simp [runN] at hn
    | succ n => exact step_le P (runN_run P n) (runN_loop P n) _ _ _ _ hn
  · intro r h
    unfold step at h
    split at h
    · rename_i fn hf
      obtain ⟨n, hn⟩ := body_fin h
      exact run_of (n := n + 1) (by simp only [runN, step, hf]; exact hn)
    · rename_i g hf
      obtain ⟨n, hn⟩ := gbody_fin h
      exact run_of (n := n + 1) (by simp only [runN, step, hf]; exact hn)
    · rename_i p hf
      exact run_of (n := 1) (by simp only [runN, step, hf]; exact h)
    · simp at h

theorem loop_eq (P : Prog) (l : List Nat) (b : C) (e : Env) (s : St) : loop P l b e s = lstep (run P) (loop P) l b e s := by
  apply option_ext
  · intro r h
    obtain ⟨n, hn⟩ := loop_some h
    cases n with
    | zero => simp [runN] at hn
    | succ n => exact lstep_le (runN_run P n) (runN_loop P n) _ _ _ _ _ hn
  · intro r h
    unfold lstep at h
    cases hb : ev (run P) (loop P) b e s with
    | none => simp [hb] at h
    | some x =>
      obtain ⟨n, hn⟩ := ev_fin hb
      obtain ⟨x, e', s'⟩ := x
      cases x <;> simp only [hb] at h
      · obtain ⟨m, hm⟩ := loop_some h
        refine loop_of (n := max n m + 1) ?_
        simp only [runN, lstep]
        rw [ev_le (runN_le P (Nat.le_max_left n m)).1 (runN_le P (Nat.le_max_left n m)).2 hn]
        exact (runN_le P (Nat.le_max_right n m)).2 _ _ _ _ _ hm
      all_goals exact loop_of (n := n + 1) (by simp only [runN, lstep, hn]; exact h)

theorem run_code {P : Prog} {f fn} (hf : P f = some (.code fn)) (a : List V) (s : St) : run P f a s = body (run P) (loop P) fn a s := by
  rw [run_eq]; simp only [step, hf]
theorem run_prim {P : Prog} {f p} (hf : P f = some (.prim p)) (a : List V) (s : St) : run P f a s = p a s := by
  rw [run_eq]; simp only [step, hf]

end Ab

/-  Which operations may change places. -/
namespace Ab
open Go

def Opd.uses : Opd → List Nat
  | .t i => [i]
  | _ => []

def optOpds : Option Opd → List Opd
  | some x => [x]
  | none => []

def Ins.opds : Ins → List Opd
  | .mv x => [x]
  | .pick c a b => [c, a, b]
  | .alloc .. | .nilS .. => []
  | .box _ x _ => [x]
  | .build _ ps => ps.map (·.2.2)
  | .lit _ _ ps => ps.map (·.2)
  | .load _ _ a => [a]
  | .store _ a x => [a, x]
  | .nilCheck x => [x]
  | .bin _ x y => [x, y]
  | .eq _ _ x y => [x, y]
  | .un _ x => [x]
  | .conv _ x => [x]
  | .uns _ _ x => [x]
  | .sdata x => [x]
  | .ustr _ x n => [x, n]
  | .mkIface _ x => [x]
  | .mkFn _ a b => a ++ b
  | .slc _ _ x lo hi mx => x :: (optOpds lo ++ optOpds hi ++ optOpds mx)
  | .faddr _ x => [x]
  | .field _ _ _ x => [x]
  | .iaddr _ x i => [x, i]
  | .aaddr _ _ x i => [x, i]
  | .index x i => [x, i]
  | .aindex _ _ _ x i => [x, i]
  | .tassert _ _ x => [x]
  | .extract _ x => [x]
  | .len _ x => [x]
  | .append _ _ _ x y => [x, y]
  | .minmax _ x y => [x, y]
  | .call _ _ as => as
  | .callv _ f as => f :: as
  | .panic x => [x]

def IOp.uses (o : IOp) : List Nat := (match o.g with | some (j, _) => [j] | none => []) ++ o.ins.opds.flatMap Opd.uses

/-- It neither looks at memory nor changes it, nor panics. -/
def Ins.quiet : Ins → Bool
  | .mv _ | .pick .. | .build .. | .lit .. | .nilCheck _ | .bin .. | .eq .. | .un .. | .mkIface .. | .mkFn .. | .faddr .. | .field .. | .aaddr .. | .index .. | .aindex .. | .tassert .. | .extract .. | .minmax .. | .len .. => true
  | .conv k _ => match k with
    | .bytesStr => false
    | _ => true
  | _ => false
/-- It does not change memory, nor panic. -/
def Ins.looks (i : Ins) : Bool := i.quiet || match i with
  | .iaddr .. | .slc .. | .load .. | .conv .. | .uns .. | .sdata _ => true
  | _ => false
def Ins.keeps (i : Ins) : Bool := i.looks || match i with
  | .call .closed _ _ | .callv .closed _ _ | .panic _ => true
  | _ => false
def Ins.calm : Ins → Bool
  | .call .. | .callv .. | .panic _ => false
  | _ => true

def apartB (x y : IOp) : Bool :=
  (match x.dst with
   | some d => !y.uses.contains d && !(match y.dst with | some d' => Nat.beq d d' | none => false)
   | none => true) &&
  (match y.dst with
   | some d => !x.uses.contains d
   | none => true)

/-- May the first of two that stand so change places with the other? -/
def comm (x y : IOp) : Bool := apartB x y && (x.ins.quiet || (x.ins.looks && y.ins.keeps) || (x.ins.calm && y.ins.quiet))

def one (K : Calls) (o : IOp) (e : Env) (s : St) : Option OR := match wanted e o.g with
  | some true => insV K e s o.ins
  | some false => some (.val .undef s)
  | none => none

theorem ops_one (K : Calls) (o : IOp) (r : List IOp) (e : Env) (s : St) : ops K (o :: r) e s = match one K o e s with
    | some (.val v s') => ops K r (e.put o.dst v) s'
    | some (.pan v s') => some (.pan v, e, s')
    | none => none := by
  simp only [ops, one]
  cases wanted e o.g with
  | none => rfl
  | some t => cases t <;> rfl

theorem opd_get {e e' : Env} {x : Opd} (h : ∀ t ∈ x.uses, e.get t = e'.get t) : x.get e = x.get e' := by
  cases x with
  | t i => exact h i (by simp [Opd.uses])
  | c v => rfl
  | f i => rfl

theorem insV_congr (K : Calls) {e e' : Env} (s : St) {i : Ins} (h : ∀ x ∈ i.opds, x.get e = x.get e') : insV K e s i = insV K e' s i := by
  cases i
  case build zs ps =>
    simp only [insV]
    have : (ps.map fun p => (p.1, p.2.1, p.2.2.get e)) = (ps.map fun p => (p.1, p.2.1, p.2.2.get e')) := List.map_congr_left fun p hp => by rw [h _ (List.mem_map.2 ⟨p, hp, rfl⟩)]
    rw [this]
  case lit n z ps =>
    simp only [insV]
    have : (ps.map fun p => (p.1, p.2.get e)) = (ps.map fun p => (p.1, p.2.get e')) := List.map_congr_left fun p hp => by rw [h _ (List.mem_map.2 ⟨p, hp, rfl⟩)]
    rw [this]
  case mkFn f a b =>
    simp only [insV]
    have h1 : a.map (·.get e) = a.map (·.get e') := List.map_congr_left fun p hp => h p (by simp [Ins.opds, hp])
    have h2 : b.map (·.get e) = b.map (·.get e') := List.map_congr_left fun p hp => h p (by simp [Ins.opds, hp])
    rw [h1, h2]
  case call m f as =>
    simp only [insV]
    have h1 : as.map (·.get e) = as.map (·.get e') := List.map_congr_left fun p hp => h p (by simp [Ins.opds, hp])
    rw [h1]
  case callv m f as =>
    simp only [insV]
    have h1 : as.map (·.get e) = as.map (·.get e') := List.map_congr_left fun p hp => h p (by simp [Ins.opds, hp])
    rw [h1, h f (by simp [Ins.opds])]
  case slc str n x lo hi mx =>
    have hx := h x (by simp [Ins.opds])
    have hb : ∀ (y : Option Opd), (∀ z ∈ optOpds y, z.get e = z.get e') → ∀ d t, boundOf e d t y = boundOf e' d t y := by
      intro y hy d t
      cases y with
      | none => rfl
      | some z => simp only [boundOf, hy z (by simp [optOpds])]
    have h1 := hb lo fun z hz => h z (by simp [Ins.opds, hz])
    have h2 := hb hi fun z hz => h z (by simp [Ins.opds, hz])
    have h3 := hb mx fun z hz => h z (by simp [Ins.opds, hz])
    simp only [insV, hx, slcV, h1, h2, h3]
  all_goals simp only [Ins.opds, List.mem_cons, List.not_mem_nil, or_false, forall_eq_or_imp, forall_eq] at h
  all_goals first
    | rfl
    | (obtain ⟨h1, h2, h3⟩ := h; simp only [insV, h1, h2, h3])
    | (obtain ⟨h1, h2⟩ := h; simp only [insV, h1, h2])
    | simp only [insV, h]

theorem one_congr (K : Calls) {o : IOp} {e e' : Env} (s : St) (h : ∀ t ∈ o.uses, e.get t = e'.get t) : one K o e s = one K o e' s := by
  have h1 : wanted e o.g = wanted e' o.g := by
    cases hg : o.g with
    | none => rfl
    | some p => obtain ⟨j, w⟩ := p; simp only [wanted]; rw [h j (by simp [IOp.uses, hg])]
  have h2 : insV K e s o.ins = insV K e' s o.ins := insV_congr K s fun x hx => opd_get fun t ht => h t (by simp only [IOp.uses, List.mem_append, List.mem_flatMap]; exact .inr ⟨x, hx, ht⟩)
  simp only [one, h1, h2]

theorem pureOp_cases {s : St} {r : Option V} {q : OR} (h : pureOp s r = some q) : ∃ v, r = some v ∧ q = .val v s := by
  cases r with
  | none => cases h
  | some v => cases h; exact ⟨v, rfl, rfl⟩

theorem quiet_ins {K : Calls} {e : Env} {s : St} {i : Ins} {r : OR} (hq : i.quiet = true) (h : insV K e s i = some r) : ∃ v, r = .val v s ∧ ∀ s', insV K e s' i = some (.val v s') := by
  cases i <;> simp only [Ins.quiet, Bool.false_eq_true] at hq <;> simp only [insV] at h ⊢
  case conv k x =>
    cases k
    case f2i k =>
      cases hx : x.get e <;> simp only [hx] at h ⊢ <;> first | (cases h; done) | skip
      obtain ⟨v, hv, rfl⟩ := pureOp_cases h
      exact ⟨v, rfl, fun s' => by simp only [hv, pureOp]⟩
    all_goals (repeat' split at h)
    all_goals try (exfalso; simp_all; done)
    all_goals first | (cases h; done) | (cases hq; done) | skip
    all_goals (cases h; exact ⟨_, rfl, fun s' => by simp_all⟩)
  case len str x =>
    cases hb : (x.get e).isStr == str with
    | false => rw [hb] at h; cases h
    | true =>
      rw [hb] at h
      obtain ⟨v, hv, rfl⟩ := pureOp_cases h
      exact ⟨v, rfl, fun s' => by simp only [cond_true, hv, pureOp]⟩
  all_goals
    repeat' split at h
    all_goals first | (cases h; done) | skip
    all_goals first
      | (obtain ⟨v, hv, rfl⟩ := pureOp_cases h; exact ⟨v, rfl, fun s' => by simp_all [pureOp]⟩)
      | (cases h; exact ⟨_, rfl, fun s' => by simp_all⟩)


theorem looks_ins {K : Calls} {e : Env} {s : St} {i : Ins} {r : OR} (hq : i.looks = true) (h : insV K e s i = some r) : ∃ v, r = .val v s := by
  cases hqq : i.quiet with
  | true => obtain ⟨v, hv, _⟩ := quiet_ins hqq h; exact ⟨v, hv⟩
  | false =>
    cases i <;> simp only [Ins.looks, hqq, Bool.false_or, Bool.false_eq_true] at hq <;> simp only [insV] at h
    case slc str n x lo hi mx =>
      cases hb : (x.get e).isStr == str with
      | false => rw [hb] at h; cases h
      | true =>
        rw [hb] at h
        obtain ⟨v, hv, rfl⟩ := pureOp_cases h
        exact ⟨v, rfl⟩
    case uns ty n x =>
      split at h
      · split at h
        · rename_i ty' cs _
          cases hb : (Nat.beq ty' ty && Nat.beq cs.length n) with
          | false => rw [hb] at h; cases h
          | true => rw [hb] at h; cases h; exact ⟨_, rfl⟩
        · cases h
      · cases h
    all_goals
      repeat' split at h
      all_goals first | (cases h; done) | skip
      all_goals first
        | (obtain ⟨v, hv, rfl⟩ := pureOp_cases h; exact ⟨v, rfl⟩)
        | (cases h; exact ⟨_, rfl⟩)

theorem closed_keeps {K : Calls} {f : Nat} {as : List V} {s : St} {r : OR} (h : closedCall K f as s = some r) : (∃ v, r = .val v s) ∨ ∃ v, r = .pan v s := by
  unfold closedCall at h
  cases hp : V.pures as with
  | true =>
    simp only [hp, cond_true] at h
    split at h
    · simp only [Option.map_eq_some_iff] at h; obtain ⟨v, _, rfl⟩ := h; exact .inl ⟨_, rfl⟩
    · simp only [Option.map_eq_some_iff] at h; obtain ⟨v, _, rfl⟩ := h; exact .inr ⟨_, rfl⟩
    · cases h
  | false =>
    simp only [hp, cond_false] at h
    split at h
    · split at h
      · rename_i v s' _
        cases hpl : v.plain with
        | true => rw [hpl] at h; cases h; exact .inl ⟨_, rfl⟩
        | false => rw [hpl] at h; cases h
      · rename_i v s' _
        cases hpl : v.plain with
        | true => rw [hpl] at h; cases h; exact .inr ⟨_, rfl⟩
        | false => rw [hpl] at h; cases h
      · cases h
    · cases h

theorem keeps_ins {K : Calls} {e : Env} {s : St} {i : Ins} {r : OR} (hq : i.keeps = true) (h : insV K e s i = some r) : (∃ v, r = .val v s) ∨ ∃ v, r = .pan v s := by
  cases hqq : i.looks with
  | true => exact .inl (looks_ins hqq h)
  | false =>
    cases i <;> simp only [Ins.keeps, hqq, Bool.false_or, Bool.false_eq_true] at hq <;> simp only [insV] at h
    case call m f as =>
      cases m <;> simp only [Bool.false_eq_true] at hq
      exact closed_keeps h
    case callv m f as =>
      cases m <;> simp only [Bool.false_eq_true] at hq
      split at h
      · exact closed_keeps h
      · cases h
    case panic x =>
      split at h
      · cases h; exact .inr ⟨_, rfl⟩
      · cases h

theorem append_calm {ty ag n s x y} {r : OR} (h : appendV ty ag n s x y = some r) : ∃ v s', r = .val v s' := by
  unfold appendV at h
  repeat' split at h
  all_goals first | (cases h; done) | (cases h; exact ⟨_, _, rfl⟩)

theorem calm_ins {K : Calls} {e : Env} {s : St} {i : Ins} {r : OR} (hq : i.calm = true) (h : insV K e s i = some r) : ∃ v s', r = .val v s' := by
  cases hqq : i.looks with
  | true => obtain ⟨v, hv⟩ := looks_ins hqq h; exact ⟨v, s, hv⟩
  | false =>
    cases i <;> simp only [Ins.looks, Ins.quiet, Bool.true_or, Bool.or_true, Bool.false_or, reduceCtorEq] at hqq <;> simp only [Ins.calm, Bool.false_eq_true] at hq <;> simp only [insV] at h
    case append => exact append_calm h
    all_goals
      repeat' split at h
      all_goals first | (cases h; done) | (cases h; exact ⟨_, _, rfl⟩)

def ResEq : Ex × Env × St → Ex × Env × St → Prop
  | (x, e, s), (x', e', s') => x = x' ∧ s = s' ∧ (x = .nxt → ∀ t, e.get t = e'.get t)

theorem ResEq.refl (r : Ex × Env × St) : ResEq r r := by obtain ⟨x, e, s⟩ := r; exact ⟨rfl, rfl, fun _ _ => rfl⟩
theorem ResEq.trans {a b c : Ex × Env × St} (h : ResEq a b) (g : ResEq b c) : ResEq a c := by
  obtain ⟨x, e, s⟩ := a; obtain ⟨x', e', s'⟩ := b; obtain ⟨x'', e'', s''⟩ := c
  obtain ⟨h1, h2, h3⟩ := h; obtain ⟨g1, g2, g3⟩ := g
  exact ⟨h1.trans g1, h2.trans g2, fun hx t => (h3 hx t).trans (g3 (h1 ▸ hx) t)⟩

theorem get_put (e : Env) (d : Option Nat) (v : V) (t : Nat) : (e.put d v).get t = if d = some t then v else e.get t := by
  cases d with
  | none => simp [Env.put]
  | some d =>
    simp only [Env.put, Env.get, Option.some.injEq]
    by_cases h : t = d
    · subst h; simp
    · have : (t == d) = false := by simp [h]
      rw [this, cond_false, if_neg (Ne.symm h)]

theorem ops_congr {K : Calls} : ∀ {os : List IOp} {e e' : Env} {s : St} {r}, (∀ t, e.get t = e'.get t) → ops K os e s = some r → ∃ r', ops K os e' s = some r' ∧ ResEq r r'
  | [], e, e', s, r, he, h => by simp only [ops, Option.some.injEq] at h; subst h; exact ⟨_, rfl, rfl, rfl, fun _ => he⟩
  | o :: os, e, e', s, r, he, h => by
    rw [ops_one] at h ⊢
    rw [one_congr K s fun t _ => he t] at h
    split at h
    · rename_i v s' hv
      exact ops_congr (fun t => by simp only [get_put, he t]) h
    · rename_i v s' hv
      cases h
      exact ⟨_, rfl, rfl, rfl, fun hx => by cases hx⟩
    · cases h

theorem one_quiet {K : Calls} {o : IOp} {e : Env} {s : St} {r : OR} (hq : o.ins.quiet = true) (h : one K o e s = some r) : ∃ v, r = .val v s ∧ ∀ s', one K o e s' = some (.val v s') := by
  unfold one at h
  split at h
  · rename_i hw; obtain ⟨v, h1, h2⟩ := quiet_ins hq h; exact ⟨v, h1, fun s' => by simp only [one, hw, h2]⟩
  · rename_i hw; cases h; exact ⟨_, rfl, fun s' => by simp only [one, hw]⟩
  · cases h
theorem one_looks {K : Calls} {o : IOp} {e : Env} {s : St} {r : OR} (hq : o.ins.looks = true) (h : one K o e s = some r) : ∃ v, r = .val v s := by
  unfold one at h
  split at h
  · exact looks_ins hq h
  · cases h; exact ⟨_, rfl⟩
  · cases h
theorem one_keeps {K : Calls} {o : IOp} {e : Env} {s : St} {r : OR} (hq : o.ins.keeps = true) (h : one K o e s = some r) : (∃ v, r = .val v s) ∨ ∃ v, r = .pan v s := by
  unfold one at h
  split at h
  · exact keeps_ins hq h
  · cases h; exact .inl ⟨_, rfl⟩
  · cases h
theorem one_calm {K : Calls} {o : IOp} {e : Env} {s : St} {r : OR} (hq : o.ins.calm = true) (h : one K o e s = some r) : ∃ v s', r = .val v s' := by
  unfold one at h
  split at h
  · exact calm_ins hq h
  · cases h; exact ⟨_, _, rfl⟩
  · cases h

theorem swap {K : Calls} {x y : IOp} (hc : comm x y = true) {os : List IOp} {e : Env} {s : St} {r} (h : ops K (x :: y :: os) e s = some r) : ∃ r', ops K (y :: x :: os) e s = some r' ∧ ResEq r r' := by
  simp only [comm, Bool.and_eq_true] at hc
  obtain ⟨ha, hk⟩ := hc
  simp only [apartB, Bool.and_eq_true] at ha
  obtain ⟨ha1, ha2⟩ := ha
  have hxy : ∀ d, x.dst = some d → d ∉ y.uses ∧ y.dst ≠ some d := by
    intro d hd
    rw [hd] at ha1
    simp only [Bool.and_eq_true, Bool.not_eq_true', List.contains_eq_mem, decide_eq_false_iff_not] at ha1
    refine ⟨ha1.1, fun hy => ?_⟩
    rw [hy] at ha1
    have := ha1.2
    simp at this
  have hyx : ∀ d, y.dst = some d → d ∉ x.uses := by
    intro d hd
    rw [hd] at ha2
    simpa [List.contains_eq_mem] using ha2
  have cy : ∀ v t, one K y (e.put x.dst v) t = one K y e t := fun v t => one_congr K t fun u hu => by
    rw [get_put, if_neg]
    intro hd; exact (hxy u hd).1 hu
  have cx : ∀ v t, one K x (e.put y.dst v) t = one K x e t := fun v t => one_congr K t fun u hu => by
    rw [get_put, if_neg]
    intro hd; exact hyx u hd hu
  have hcomm : ∀ v u t, ((e.put x.dst v).put y.dst u).get t = ((e.put y.dst u).put x.dst v).get t := by
    intro v u t
    simp only [get_put]
    by_cases h1 : x.dst = some t
    · simp [h1, (hxy t h1).2]
    · simp [h1]
  rw [ops_one] at h ⊢
  -- what both do
  have key : ∀ v s1 u s2, one K x e s = some (.val v s1) → one K y e s1 = some (.val u s2) → (∃ s3, one K y e s = some (.val u s3) ∧ one K x e s3 = some (.val v s2)) → 
      ∃ r', (match one K y e s with
        | some (.val v s') => ops K (x :: os) (e.put y.dst v) s'
        | some (.pan v s') => some (.pan v, e, s')
        | none => none) = some r' ∧ ResEq r r' := by
    intro v s1 u s2 h1 h2 ⟨s3, h3, h4⟩
    rw [h3]
    simp only
    rw [ops_one, cx, h4]
    rw [h1] at h
    simp only at h
    rw [ops_one, cy, h2] at h
    exact ops_congr (hcomm v u) h
  simp only [Bool.or_eq_true, Bool.and_eq_true] at hk
  cases h1 : one K x e s with
  | none => rw [h1] at h; cases h
  | some rx =>
    rcases hk with (hq | ⟨hl, hy⟩) | ⟨hcx, hqy⟩
    · obtain ⟨v, rfl, hall⟩ := one_quiet hq h1
      rw [h1] at h
      simp only at h
      rw [ops_one, cy] at h
      cases h2 : one K y e s with
      | none => rw [h2] at h; cases h
      | some ry =>
        cases ry with
        | pan u s2 => rw [h2] at h; cases h; exact ⟨_, rfl, rfl, rfl, fun hx => by cases hx⟩
        | val u s2 => have := key v s u s2 h1 h2 ⟨s2, h2, hall s2⟩; rw [h2] at this; exact this
    · obtain ⟨v, rfl⟩ := one_looks hl h1
      rw [h1] at h
      simp only at h
      rw [ops_one, cy] at h
      cases h2 : one K y e s with
      | none => rw [h2] at h; cases h
      | some ry =>
        rcases one_keeps hy h2 with ⟨u, rfl⟩ | ⟨u, rfl⟩
        · have := key v s u s h1 h2 ⟨s, h2, h1⟩; rw [h2] at this; exact this
        · rw [h2] at h; cases h; exact ⟨_, rfl, rfl, rfl, fun hx => by cases hx⟩
    · obtain ⟨v, s1, rfl⟩ := one_calm hcx h1
      have h' := h
      rw [h1] at h'
      simp only at h'
      rw [ops_one, cy] at h'
      cases h2 : one K y e s1 with
      | none => rw [h2] at h'; cases h'
      | some ry =>
        obtain ⟨u, rfl, hall⟩ := one_quiet hqy h2
        exact key v s1 u s1 h1 h2 ⟨s, hall s, h1⟩

end Ab

/-  Every order that the program may take is as good as one of a few. -/
namespace Ab
open Go

/-- j can only come when i has come. -/
def needs (os : Array Oper) (l : Array Bool) (i : Nat) : Nat → Nat → Bool
  | 0, _ => false
  | d + 1, j => match os[j]? with
    | some o => o.after.toList.any fun e => Region.binds .any e && !l.getD e.on false && (Nat.beq e.on i || needs os l i d e.on)
    | none => false

def ample (os : Array Oper) (ios : List IOp) (l : Array Bool) (i : Nat) : Bool :=
  (List.range os.size).all fun j => l.getD j true || Nat.beq j i || comm (ios.getD i default) (ios.getD j default) || needs os l i os.size j

def pickOne (p : Nat → Bool) : List Nat → Option Nat
  | [] => none
  | x :: r => bif p x then some x else pickOne p r

def explore (os : Array Oper) (ios : List IOp) : Nat → Array Bool → List (List Nat)
  | 0, _ => [[]]
  | n + 1, l => match Region.ready .any os l with
    | [] => [[]]
    | rs => match pickOne (ample os ios l) rs with
      | some i => (explore os ios n (l.setIfInBounds i true)).map (i :: ·)
      | none => rs.flatMap fun i => (explore os ios n (l.setIfInBounds i true)).map (i :: ·)

def orders (os : Array Oper) (ios : List IOp) : List (List Nat) := explore os ios os.size (Array.replicate os.size false)

theorem pickOne_some {p : Nat → Bool} : ∀ {l : List Nat} {x}, pickOne p l = some x → x ∈ l ∧ p x = true
  | [], _, h => by cases h
  | y :: r, x, h => by
    unfold pickOne at h
    cases hp : p y with
    | true => rw [hp] at h; cases h; exact ⟨by simp, hp⟩
    | false => rw [hp] at h; have := pickOne_some h; exact ⟨by simp [this.1], this.2⟩

section
variable {os : Array Oper}

/-- An order that may be drawn. -/
def Lin (os : Array Oper) : Nat → Array Bool → List Nat → Prop
  | 0, _, π => π = []
  | n + 1, l, π => (Region.ready .any os l = [] ∧ π = []) ∨ ∃ i π', π = i :: π' ∧ i ∈ Region.ready .any os l ∧ Lin os n (l.setIfInBounds i true) π'

theorem go_lin : ∀ (n t : Nat) (l : Array Bool), Lin os n l (Region.linearise.go .any os n t l [])
  | 0, t, l => by simp [Lin, Region.linearise.go]
  | n + 1, t, l => by
    simp only [Region.linearise.go]
    change Lin os (n + 1) l (match (Region.ready .any os l)[t % (Region.ready .any os l).length]? with
      | some i => Region.linearise.go .any os n (t / (Region.ready .any os l).length) (l.setIfInBounds i true) [i]
      | none => [].reverse)
    cases hi : (Region.ready .any os l)[t % (Region.ready .any os l).length]? with
    | none =>
      have hnil : Region.ready .any os l = [] := by
        cases hr : Region.ready .any os l with
        | nil => rfl
        | cons x xs =>
          rw [hr] at hi
          have hlt : t % (x :: xs).length < (x :: xs).length := Nat.mod_lt _ (by simp)
          simp at hi
          simp at hlt
          omega
      exact .inl ⟨hnil, rfl⟩
    | some i =>
      simp only []
      rw [linearise_go_acc]
      exact .inr ⟨i, _, rfl, List.mem_of_getElem? hi, go_lin n _ _⟩

theorem mem_ready {l : Array Bool} {i : Nat} : i ∈ Region.ready .any os l ↔ i < os.size ∧ l.getD i true = false ∧ ∃ o, os[i]? = some o ∧ ∀ e ∈ o.after.toList, Region.binds .any e = true → l.getD e.on false = true := by
  unfold Region.ready
  simp only [List.mem_filter, List.mem_range, Bool.and_eq_true, Bool.not_eq_true']
  constructor
  · rintro ⟨h1, h2, h3⟩
    refine ⟨h1, h2, os[i], by simp [h1], fun e he hb => ?_⟩
    simp only [h1, getElem?_pos, Option.map_some, Option.getD_some, Array.all_eq_true'] at h3
    have := h3 e (by simpa using he)
    rw [hb] at this
    simpa using this
  · rintro ⟨h1, h2, o, ho, h3⟩
    refine ⟨h1, h2, ?_⟩
    rw [ho]
    simp only [Option.map_some, Option.getD_some, Array.all_eq_true']
    intro e he
    cases hb : Region.binds .any e with
    | false => rfl
    | true => rw [h3 e (by simpa using he) hb]; rfl

theorem getD_set {l : Array Bool} {i k : Nat} {d : Bool} (hi : i < l.size) : (l.setIfInBounds i true).getD k d = if k = i then true else l.getD k d := by
  rw [Array.getD_eq_getD_getElem?, Array.getD_eq_getD_getElem?]
  by_cases h : k = i
  · subst h; rw [Array.getElem?_setIfInBounds_self_of_lt hi]; simp
  · rw [Array.getElem?_setIfInBounds_ne (Ne.symm h), if_neg h]

theorem ready_mono {l : Array Bool} {i k : Nat} (hs : l.size = os.size) (hi : i ∈ Region.ready .any os l) (hk : k ∈ Region.ready .any os l) (hne : k ≠ i) : k ∈ Region.ready .any os (l.setIfInBounds i true) := by
  have hil : i < l.size := by rw [hs]; exact (mem_ready.1 hi).1
  obtain ⟨h1, h2, o, ho, h3⟩ := mem_ready.1 hk
  refine mem_ready.2 ⟨h1, ?_, o, ho, fun e he hb => ?_⟩
  · rw [getD_set hil, if_neg hne]; exact h2
  · rw [getD_set hil]; split
    · rfl
    · exact h3 e he hb

def left (os : Array Oper) (l : Array Bool) : List Nat := (List.range os.size).filter fun i => !l.getD i true

theorem left_set {l : Array Bool} {i : Nat} (hs : l.size = os.size) (hi : i ∈ Region.ready .any os l) : (left os (l.setIfInBounds i true)).length < (left os l).length := by
  obtain ⟨h1, h2, _⟩ := mem_ready.1 hi
  have hil : i < l.size := by rw [hs]; exact h1
  have : left os (l.setIfInBounds i true) = (left os l).filter (fun k => decide (k ≠ i)) := by
    unfold left
    rw [List.filter_filter]
    apply List.filter_congr
    intro k hk
    rw [getD_set hil]
    by_cases h : k = i
    · simp [h]
    · simp [h]
  rw [this]
  refine Nat.lt_of_le_of_ne (List.length_filter_le _ _) fun he => ?_
  have := List.length_filter_eq_length_iff.1 he i (by unfold left; rw [List.mem_filter]; exact ⟨by simpa using h1, by rw [h2]; rfl⟩)
  simp at this

/-- What is ready comes. -/
theorem comes : ∀ {n : Nat} {l : Array Bool} {π : List Nat} {i : Nat}, l.size = os.size → (left os l).length ≤ n → Lin os n l π → i ∈ Region.ready .any os l → i ∈ π
  | 0, l, π, i, hs, hn, h, hi => by
    have := left_set hs hi
    omega
  | n + 1, l, π, i, hs, hn, h, hi => by
    rcases h with ⟨h, _⟩ | ⟨k, π', rfl, hk, h⟩
    · rw [h] at hi; cases hi
    · by_cases he : i = k
      · subst he; simp
      · have := left_set hs hk
        exact List.mem_cons_of_mem _ (comes (by simpa using hs) (by omega) h (ready_mono hs hk hi he))

/-- .. and may come first. -/
theorem first : ∀ {n : Nat} {l : Array Bool} {pre post : List Nat} {i : Nat}, l.size = os.size → Lin os (n + 1) l (pre ++ i :: post) → i ∈ Region.ready .any os l → i ∉ pre → Lin os n (l.setIfInBounds i true) (pre ++ post)
  | n, l, [], post, i, hs, h, hi, hni => by
    rcases h with ⟨_, h⟩ | ⟨k, π', he, hk, h⟩
    · cases h
    · cases he; exact h
  | n, l, k :: pre, post, i, hs, h, hi, hni => by
    rcases h with ⟨_, h⟩ | ⟨k', π', he, hk, h⟩
    · cases h
    · simp only [List.cons_append, List.cons.injEq] at he
      obtain ⟨rfl, rfl⟩ := he
      have hne : i ≠ k := fun e => hni (by simp [e])
      cases n with
      | zero => simp [Lin] at h
      | succ n =>
        have h2 := first (by simpa using hs) h (ready_mono hs hk hi hne) (fun hm => hni (by simp [hm]))
        refine .inr ⟨k, pre ++ post, rfl, ready_mono hs hi hk (Ne.symm hne), ?_⟩
        rw [Array.setIfInBounds_comm _ _ hne]
        exact h2

/-- What comes ahead of i needs not i. -/
theorem ahead (l0 : Array Bool) (i : Nat) : ∀ {n : Nat} {l : Array Bool} {pre post : List Nat}, l.size = os.size → (∀ k, l0.getD k true = true → l.getD k true = true) → (∀ k, l.getD k false = true → l0.getD k false = true ∨ (k ≠ i ∧ ∀ d, needs os l0 i d k = false)) →
    Lin os n l (pre ++ i :: post) → i ∉ pre → ∀ j ∈ pre, l0.getD j true = false ∧ j ≠ i ∧ ∀ d, needs os l0 i d j = false
  | n, l, [], post, hs, hl, hI, h, hni => by intro j hj; cases hj
  | 0, l, k :: pre, post, hs, hl, hI, h, hni => by cases h
  | n + 1, l, k :: pre, post, hs, hl, hI, h, hni => by
    rcases h with ⟨_, h⟩ | ⟨k', π', he, hk, h⟩
    · cases h
    · simp only [List.cons_append, List.cons.injEq] at he
      obtain ⟨rfl, rfl⟩ := he
      obtain ⟨h1, h2, o, ho, h3⟩ := mem_ready.1 hk
      have hkl : k < l.size := by omega
      have hne : k ≠ i := fun e => hni (by simp [e])
      have hkn : ∀ d, needs os l0 i d k = false := by
        intro d
        cases d with
        | zero => rfl
        | succ d =>
          simp only [needs, ho]
          rw [List.any_eq_false]
          intro e he
          cases hb : Region.binds .any e with
          | false => simp
          | true =>
            rcases hI _ (h3 e he hb) with h4 | ⟨h4, h5⟩
            · simp [h4]
            · have : Nat.beq e.on i = false := by
                cases hbb : Nat.beq e.on i with
                | false => rfl
                | true => exact absurd (Nat.eq_of_beq_eq_true hbb) h4
              simp [this, h5 d]
      have hk0 : l0.getD k true = false := by
        cases hb : l0.getD k true with
        | false => rfl
        | true => rw [hl k hb] at h2; cases h2
      intro j hj
      rcases List.mem_cons.1 hj with rfl | hj
      · exact ⟨hk0, hne, hkn⟩
      · refine ahead l0 i (by simpa using hs) ?_ ?_ h (fun hm => hni (by simp [hm])) j hj
        · intro m hm; rw [getD_set hkl]; split
          · rfl
          · exact hl m hm
        · intro m hm
          rw [getD_set hkl] at hm
          split at hm
          · rename_i hmk; subst hmk; exact .inr ⟨hne, hkn⟩
          · exact hI m hm

end

def opsAt (K : Calls) (ios : List IOp) (π : List Nat) (e : Env) (s : St) : Option (Ex × Env × St) := ops K (π.map fun i => ios.getD i default) e s

/-- As good as. -/
def Eqv (ios : List IOp) (σ π : List Nat) : Prop := ∀ K e s r, opsAt K ios σ e s = some r → ∃ r', opsAt K ios π e s = some r' ∧ ResEq r r'

theorem Eqv.refl (ios : List IOp) (σ : List Nat) : Eqv ios σ σ := fun _ _ _ r h => ⟨r, h, ResEq.refl r⟩
theorem Eqv.trans {ios : List IOp} {a b c : List Nat} (h : Eqv ios a b) (g : Eqv ios b c) : Eqv ios a c := fun K e s r hr =>
  let ⟨r1, h1, h2⟩ := h K e s r hr
  let ⟨r2, h3, h4⟩ := g K e s r1 h1
  ⟨r2, h3, h2.trans h4⟩
theorem Eqv.cons {ios : List IOp} {a b : List Nat} (i : Nat) (h : Eqv ios a b) : Eqv ios (i :: a) (i :: b) := by
  intro K e s r hr
  simp only [opsAt, List.map_cons, ops_one] at hr ⊢
  split at hr
  · exact h K _ _ _ hr
  · cases hr; exact ⟨_, rfl, ResEq.refl _⟩
  · cases hr
theorem Eqv.swap {ios : List IOp} {i k : Nat} (hc : comm (ios.getD i default) (ios.getD k default) = true) (rest : List Nat) : Eqv ios (i :: k :: rest) (k :: i :: rest) := by
  intro K e s r hr
  exact Ab.swap hc hr
theorem Eqv.move {ios : List IOp} {i : Nat} : ∀ {pre : List Nat} (post : List Nat), (∀ k ∈ pre, comm (ios.getD i default) (ios.getD k default) = true) → Eqv ios (i :: (pre ++ post)) (pre ++ i :: post)
  | [], post, _ => Eqv.refl _ _
  | k :: pre, post, h => (Eqv.swap (h k (by simp)) _).trans ((Eqv.move post fun j hj => h j (by simp [hj])).cons k)

theorem explore_ok {os : Array Oper} {ios : List IOp} : ∀ (n : Nat) (l : Array Bool) (π : List Nat), l.size = os.size → (left os l).length ≤ n → Lin os n l π → ∃ σ ∈ explore os ios n l, Eqv ios σ π
  | 0, l, π, hs, hn, h => ⟨[], by simp [explore], by rw [show π = [] from h]; exact Eqv.refl _ _⟩
  | n + 1, l, π, hs, hn, h => by
    unfold explore
    split
    · rename_i hr
      rcases h with ⟨_, rfl⟩ | ⟨i, π', rfl, hi, _⟩
      · exact ⟨[], by simp, Eqv.refl _ _⟩
      · rw [hr] at hi; cases hi
    · split
      · rename_i i hp
        obtain ⟨hi, ha⟩ := pickOne_some hp
        have hmem := comes hs hn h hi
        obtain ⟨pre, post, rfl, hni⟩ := List.eq_append_cons_of_mem hmem
        have h2 := first hs h hi hni
        have hlt := left_set hs hi
        obtain ⟨σ, hσ, he⟩ := explore_ok (ios := ios) n _ _ (by simpa using hs) (by omega) h2
        refine ⟨i :: σ, List.mem_map.2 ⟨σ, hσ, rfl⟩, (he.cons i).trans (Eqv.move post fun k hk => ?_)⟩
        obtain ⟨h3, h4, h5⟩ := ahead l i hs (fun _ h => h) (fun _ h => .inl h) h hni k hk
        have hkn : k < os.size := by
          rcases Nat.lt_or_ge k os.size with hlt | hge
          · exact hlt
          · rw [Array.getD_eq_getD_getElem?, Array.getElem?_eq_none (by omega)] at h3; cases h3
        have := List.all_eq_true.1 ha k (by simpa using hkn)
        have hb : Nat.beq k i = false := by
          cases hbb : Nat.beq k i with
          | false => rfl
          | true => exact absurd (Nat.eq_of_beq_eq_true hbb) h4
        rw [h3, hb, h5] at this
        simpa using this
      · rcases h with ⟨hr, _⟩ | ⟨i, π', rfl, hi, h⟩
        · rename_i hr2 _ ; first | exact absurd hr hr2 | exact absurd hr (by assumption)
        · have hlt := left_set hs hi
          obtain ⟨σ, hσ, he⟩ := explore_ok (ios := ios) n _ _ (by simpa using hs) (by omega) h
          exact ⟨i :: σ, List.mem_flatMap.2 ⟨i, hi, List.mem_map.2 ⟨σ, hσ, rfl⟩⟩, he.cons i⟩

theorem orders_ok {os : Array Oper} {ios : List IOp} (t : Nat) : ∃ σ ∈ orders os ios, Eqv ios σ (Region.schedule true os t) := by
  simp only [Region.schedule, Bool.true_or, if_true]
  refine explore_ok os.size _ _ (by simp) ?_ (go_lin os.size t _)
  refine Nat.le_trans (List.length_filter_le _ _) (by simp)

end Ab

/-  From a program's code to the abstract machine's. -/
namespace Ab
open Go

mutual
def valV : Value → Option V
  | .bool b => some (.bool b)
  | .int k n => some (.int k n)
  | .float k b => some (.flt k b)
  | .string s => some (.str s.data.toList)
  | .pointer none => some .nilp
  | .slice none 0 0 => some (.sl true [])
  | .map none => some .nilmap
  | .nilFunc => some .nilfn
  | .nilIface => some .nili
  | .agg cs => (valVs cs.toList).map .agg
  | _ => none
def valVs : List Value → Option (List V)
  | [] => some []
  | v :: r => match valV v with
    | some x => (valVs r).map (x :: ·)
    | none => none
end

def trOpd : Operand → Option Opd
  | .tmp t => some (.t t)
  | .const v => (valV v).map .c
  | .func f => some (.f f)
  | .global _ => none

def trOpds : List Operand → Option (List Opd)
  | [] => some []
  | x :: r => match trOpd x with
    | some y => (trOpds r).map (y :: ·)
    | none => none

def szOf (P : Program) (t : TypeId) : Option Nat := (P.info? t).map (·.size)
def zeroOf (P : Program) (t : TypeId) : Option V := match P.info? t with
  | some i => match i.zero with
    | some z => valV z
    | none => none
  | none => none
def aggT (P : Program) (t : TypeId) : Option Bool := match P.underlying t with
  | some (.struct _) | some (.array _ _) => some true
  | some _ => some false
  | none => none

/-- A type whose values are told apart cell by cell: the kinds of its cells. -/
def flatK (P : Program) : Nat → TypeId → Option (List Leaf)
  | 0, _ => none
  | d + 1, t => match P.underlying t with
    | some .bool => some [.b]
    | some (.int _) => some [.i]
    | some .string => some [.s]
    | some (.struct fs) => bif P.stoodInHeld t then none else
      fs.toList.foldl (fun acc f => match acc, flatK P d f.type, szOf P f.type with
        | some ks, some ls, some n => bif f.name != "_" && Nat.beq f.offset ks.length && Nat.beq n ls.length then some (ks ++ ls) else none
        | _, _, _ => none) (some [])
    | _ => none

def eqK (P : Program) (t : TypeId) : Option EqK := match P.underlying t with
  | some .bool => some .bool
  | some (.pointer el) => match szOf P el with
    | some _ => some .ptrs
    | none => some .ptr
  | some .unsafePointer => some .ptr
  | some (.map _ _) => some .map
  | some (.struct _) => bif P.eqGuardType P.depth t then none else (flatK P 6 t).map .flds
  | _ => none

def trEq (P : Program) (neg : Bool) (op : BinOp) (t : TypeId) (x y : Opd) : Option Ins := match P.underlying t with
  | some (.int _) | some .string | some (.float _) => some (.bin op x y)
  | _ => (eqK P t).map fun k => .eq neg k x y

def trOptOpd : Option Operand → Option (Option Opd)
  | none => some none
  | some x => (trOpd x).map some

def trParts (place : Nat → Option (Nat × Nat)) : List (Nat × Operand) → Option (List (Nat × Nat × Opd))
  | [] => some []
  | (i, x) :: r => match place i, trOpd x with
    | some (o, n), some y => (trParts place r).map ((o, n, y) :: ·)
    | _, _ => none

def trParts1 : List (Nat × Operand) → Option (List (Nat × Opd))
  | [] => some []
  | (i, x) :: r => match trOpd x with
    | some y => (trParts1 r).map ((i, y) :: ·)
    | none => none

def fieldPlaces (P : Program) : List Field → Option (List (Nat × Nat))
  | [] => some []
  | f :: r => match szOf P f.type with
    | some n => (fieldPlaces P r).map ((f.offset, n) :: ·)
    | none => none

structure Cfg where
  nt : Nat
  closed : List Nat
  keep : List Nat
  callv : CM
  prot : List Nat := []

def Cfg.mode (g : Cfg) (f : Nat) : CM := bif g.closed.contains f then .closed else bif g.keep.contains f then .keep else .drop

/-- The cells of a type that hold slices: what a nil one there grows by. -/
def growCells (P : Program) : Nat → Nat → TypeId → List (Nat × Bool × Nat)
  | 0, _, _ => []
  | d + 1, off, t => match P.underlying t with
    | some (.slice e) => match aggT P e, szOf P e with
      | some ag, some n => [(off, ag, n)]
      | _, _ => []
    | some (.struct fs) => fs.toList.flatMap fun f => growCells P d (off + f.offset) f.type
    | _ => []

/-- A slice's element to append: of some size, not too great. -/
def appOk (P : Program) (e : TypeId) (n : Nat) : Bool := match P.info? e, zeroOf P e with
  | some i, some z => Nat.blt 0 n && Nat.ble i.bytes 2048 && Nat.beq z.cells.length n
  | _, _ => false

def trCall (P : Program) (g : Cfg) (c : Call) : Option Ins :=
  match c.callee with
  | .value (.func f) => (trOpds c.args.toList).map fun as => .call (g.mode f) f as
  | .value x => match trOpd x, trOpds c.args.toList with
    | some y, some as => some (.callv g.callv y as)
    | _, _ => none
  | .builtin .len => match c.argTypes.toList, trOpds c.args.toList with
    | [t], some [x] => match P.underlying t with
      | some .string => some (.len true x)
      | some (.slice _) => some (.len false x)
      | some (.array n _) => some (.mv (.c (.int .i64 n)))
      | _ => none
    | _, _ => none
  | .builtin .append => match c.argTypes.toList, trOpds c.args.toList with
    | [t, u], some [x, y] => match P.underlying t, P.underlying u with
      | some (.slice e), some (.slice _) | some (.slice e), some .string => match aggT P e, szOf P e with
        | some ag, some n => bif appOk P e n then some (.append e ag n x y) else none
        | _, _ => none
      | _, _ => none
    | _, _ => none
  | .builtin .min => match trOpds c.args.toList with
    | some [x, y] => some (.minmax false x y)
    | _ => none
  | .builtin .max => match trOpds c.args.toList with
    | some [x, y] => some (.minmax true x y)
    | _ => none
  | .builtin .unsafeSliceData => match trOpds c.args.toList with
    | some [x] => some (.sdata x)
    | _ => none
  | .builtin .unsafeString => match c.argTypes.toList, trOpds c.args.toList with
    | [pt, _], some [x, y] => match P.underlying pt with
      | some (.pointer e) => bif Nat.beq (P.cellsOf e) 1 then some (.ustr e x y) else none
      | _ => none
    | _, _ => none
  | _ => none

def trIns (P : Program) (g : Cfg) : Op → Option Ins
  | .move x | .assign x => (trOpd x).map .mv
  | .pick c a b => match trOpd c, trOpd a, trOpd b with
    | some c, some a, some b => some (.pick c a b)
    | _, _, _ => none
  | .alloc t => (zeroOf P t).map fun z => .alloc t z.cells (growCells P 6 0 t)
  | .box t x => (trOpd x).map fun y => .box t y (growCells P 6 0 t)
  | .build t ps => match zeroOf P t, P.underlying t with
    | some z, some (.struct fs) => match fieldPlaces P fs.toList with
      | some pl => (trParts (fun i => pl[i]?) ps.toList).map (.build z.cells)
      | none => none
    | some z, some (.array _ e) => match szOf P e with
      | some n => (trParts (fun i => some (i * n, n)) ps.toList).map (.build z.cells)
      | none => none
    | _, _ => none
  | .buildSlice t n ps => match P.underlying t with
    | some (.slice e) => match zeroOf P e, szOf P e with
      | some z, some k => bif Nat.ble (n * k) 65536 && Nat.blt 0 k && Nat.beq z.cells.length k then (trParts1 ps.toList).map (.lit n z) else none
      | _, _ => none
    | _ => none
  | .load t a => match aggT P t, szOf P t, trOpd a with
    | some ag, some n, some x => some (.load ag (bif ag then n else 1) x)
    | _, _, _ => none
  | .store t a v => match szOf P t, trOpd a, trOpd v with
    | some n, some x, some y => some (.store n x y)
    | _, _, _ => none
  | .nilCheck x => (trOpd x).map .nilCheck
  | .binOp op t x y _ => match trOpd x, trOpd y with
    | some a, some b => match op with
      | .eql => trEq P false .eql t a b
      | .neq => trEq P true .neq t a b
      | _ => some (.bin op a b)
    | _, _ => none
  | .unOp op _ x => (trOpd x).map (.un op)
  | .convert s d x => match P.underlying s, P.underlying d, trOpd x with
    | some (.int _), some (.int k), some y => some (.conv (.int k) y)
    | some (.float _), some (.int k), some y => some (.conv (.f2i k) y)
    | some .string, some .string, some y => some (.conv .same y)
    | some (.pointer t), some .unsafePointer, some y => match szOf P t with
      | some (n + 1) => some (.uns t (n + 1) y)
      | _ => none
    | some .unsafePointer, some (.pointer t), some y => match szOf P t with
      | some (n + 1) => bif liesAt P P.depth t ((n + 1) / P.cellsOf t) 0 t 1 then some (.uns t (n + 1) y) else none
      | _ => none
    | some (.int _), some .string, some y => some (.conv .runeStr y)
    | some (.slice e), some .string, some y => match P.underlying e with
      | some (.int .u8) => some (.conv .bytesStr y)
      | _ => none
    | some .string, some (.slice e), some y => match P.underlying e with
      | some (.int .u8) => some (.conv .toBytes y)
      | _ => none
    | _, _, _ => none
  | .makeInterface t x => match P.underlying t with
    | some (.interface _) | none => none
    | _ => (trOpd x).map (.mkIface t)
  | .makeFunc (.func f) a b => match trOpds a.toList, trOpds b.toList with
    | some a, some b => some (.mkFn f a b)
    | _, _ => none
  | .slice t x lo hi mx => match trOpd x, trOptOpd lo, trOptOpd hi, trOptOpd mx with
    | some x, some lo, some hi, some mx => bif mx.isSome && hi.isNone then none else match P.underlying t with
      | some .string => some (.slc true 1 x lo hi mx)
      | some (.slice e) => (szOf P e).map fun n => .slc false n x lo hi mx
      | _ => none
    | _, _, _, _ => none
  | .fieldAddr t x f => match P.underlying t, trOpd x with
    | some (.struct fs), some y => match fs.toList[f]? with
      | some fd => match szOf P fd.type with
        | some (_ + 1) => some (.faddr fd.offset y)
        | _ => none
      | none => none
    | _, _ => none
  | .field t x f => match P.underlying t, trOpd x with
    | some (.struct fs), some y => match fs.toList[f]? with
      | some fd => match aggT P fd.type, szOf P fd.type with
        | some ag, some n => some (.field ag fd.offset (bif ag then n else 1) y)
        | _, _ => none
      | none => none
    | _, _ => none
  | .indexAddr t x i => match P.underlying t, trOpd x, trOpd i with
    | some (.slice e), some y, some j => (szOf P e).map fun n => .iaddr n y j
    | some (.array k e), some y, some j => (szOf P e).map fun n => .aaddr k n y j
    | _, _, _ => none
  | .index t x i => match P.underlying t, trOpd x, trOpd i with
    | some .string, some y, some j => some (.index y j)
    | some (.array k e), some y, some j => match aggT P e, szOf P e with
      | some ag, some n => some (.aindex k ag n y j)
      | _, _ => none
    | _, _, _ => none
  | .typeAssert x _ t true => match P.underlying t, zeroOf P t, trOpd x with
    | some (.interface _), _, _ => none
    | some _, some z, some y => some (.tassert t z y)
    | _, _, _ => none
  | .extract x i => (trOpd x).map (.extract i)
  | .call c => trCall P g c
  | .panic x => (trOpd x).map .panic
  | _ => none

def trGuard (os : Array Oper) : Option (Nat × Bool) → Option (Option (Nat × Bool))
  | none => some none
  | some (j, w) => match os[j]? with
    | some o => match o.dst with
      | some d => some (some (d, w))
      | none => none
    | none => none

/-- A nil slice that is assigned to a variable begins to grow. -/
def trNil (P : Program) (t : TypeId) : Op → Option Ins
  | .assign (.const (.slice none 0 0)) | .move (.const (.slice none 0 0)) => match P.underlying t with
    | some (.slice e) => match aggT P e, szOf P e with
      | some ag, some n => some (.nilS ag n)
      | _, _ => none
    | _ => none
  | _ => none

def dstOk (n : Nat) (pr : List Nat) : Option Nat → Bool
  | some d => Nat.blt d n && !pr.contains d
  | none => true

def orIns : Option Ins → Option Ins → Option Ins
  | some i, _ => some i
  | none, r => r

def trOper (P : Program) (g : Cfg) (os : Array Oper) (o : Oper) : Option IOp :=
  bif dstOk g.nt g.prot o.dst then
    match trGuard os o.guard, orIns (trNil P o.type o.op) (trIns P g o.op) with
    | some gd, some i => some ⟨o.dst, gd, i⟩
    | _, _ => none
  else none

def trOpers (P : Program) (g : Cfg) (os : Array Oper) : List Oper → Option (List IOp)
  | [] => some []
  | o :: r => match trOper P g os o with
    | some i => (trOpers P g os r).map (i :: ·)
    | none => none

def trC (P : Program) (g : Cfg) : Code → List (List Nat) → Option (C × List (List Nat))
  | .skip, l => some (.skip, l)
  | .region _ os false, l => (trOpers P g os os.toList).map fun r => (.reg r, l)
  | .region _ os true, l => match trOpers P g os os.toList with
    | some r => match orders os r with
      | [] => none
      | [σ] => some (.reg (σ.map fun i => r.getD i default), l)
      | σ :: rest => some (.draw (r.filterMap (·.dst)) (σ.map fun i => r.getD i default) (rest.map fun σ => σ.map fun i => r.getD i default), l)
    | none => none
  | .seq a b, l => match trC P g a l with
    | some (x, l) => (trC P g b l).map fun y => (.seq x y.1, y.2)
    | none => none
  | .cond c a b, l => match trOpd c with
    | some c => match trC P g a l with
      | some (x, l) => (trC P g b l).map fun y => (.cond c x y.1, y.2)
      | none => none
    | none => none
  | .block id b, l => (trC P g b l).map fun y => (.blk id y.1, y.2)
  | .loop b, l => match l with
    | v :: l => (trC P g b l).map fun y => (.loop v y.1, y.2)
    | [] => none
  | .exit id, l => some (.exit id, l)
  | .ret, l => some (.ret, l)
  | .refuse _, l => some (.cond (.c .undef) .skip .skip, l)
  | _, _ => none

def trRes (P : Program) : List ResultVar → Option (List ResV)
  | [] => some []
  | .tmp i :: r => (trRes P r).map (.tmp i :: ·)
  | .cell i t :: r => match aggT P t, szOf P t with
    | some ag, some n => (trRes P r).map (.cell i ag (bif ag then n else 1) :: ·)
    | _, _ => none

def trFn (P : Program) (closed keep : List Nat) (callv : CM) (live : List (List Nat)) (f : Func) : Option Fn :=
  bif Nat.ble (f.params.size + f.nfree) f.ntmps then
    match f.body with
    | some c => match trC P { nt := f.ntmps, closed := closed, keep := keep, callv := callv } c live, trRes P f.results.toList with
      | some (b, _), some rs => some { np := f.params.size + f.nfree, nt := f.ntmps, res := rs, body := b }
      | _, _ => none
    | none => none
  else none


def cellsOf : List ResultVar → List Nat
  | [] => []
  | .cell i _ :: r => i :: cellsOf r
  | .tmp _ :: r => cellsOf r

def deferOf (o : Oper) : Option Tmp := match o.dst, o.op, o.guard with
  | none, .defer c, none => match c.callee with
    | .value (.tmp dt) => bif c.args.toList.isEmpty then some dt else none
    | _ => none
  | _, _, _ => none

def recOf (o : Oper) : Option Tmp := match o.dst, o.op, o.guard with
  | some hd, .call c, none => match c.callee with
    | .builtin .recover => some hd
    | _ => none
  | _, _, _ => none

/-- A function that defers one closure at its head, and that closure, which recovers at its head. -/
def trGF (P : Program) (closed keep : List Nat) (callv : CM) (live hlive : List (List Nat)) (df : Nat) (f h : Func) : Option GFn :=
  match f.body, h.body with
  | some (.seq (.region _ os0 false) (.seq (.region _ os1 false) rest)), some (.seq (.region _ hos false) hrest) =>
    match os1.toList, hos.toList with
    | [o1, o2], oR :: hops => match deferOf o2, recOf oR with
     | some dt, some hd =>
      bif Nat.ble (f.params.size + f.nfree) f.ntmps && Nat.ble (h.params.size + h.nfree) h.ntmps && Nat.blt hd h.ntmps && o1.guard.isNone && h.results.toList.isEmpty then
      match trOpers P { nt := f.ntmps, closed := closed, keep := keep, callv := callv } os0 os0.toList,
        trOper P { nt := f.ntmps, closed := closed, keep := keep, callv := callv } os1 o1,
        trC P { nt := f.ntmps, closed := closed, keep := keep, callv := callv, prot := cellsOf f.results.toList } rest live,
        trOpers P { nt := h.ntmps, closed := closed, keep := keep, callv := callv } hos hops,
        trC P { nt := h.ntmps, closed := closed, keep := keep, callv := callv } hrest hlive, trRes P f.results.toList with
      | some pre, some m, some (r, _), some hp, some (hr, _), some rs =>
        some { np := f.params.size + f.nfree, pre := pre, fnop := m, dt := dt, df := df, prot := cellsOf f.results.toList, res := rs, rest := r, hnp := h.params.size + h.nfree, hd := hd, hops := hp, hrest := hr }
      | _, _, _, _, _, _ => none
      else none
     | _, _ => none
    | _, _ => none
  | _, _ => none

end Ab

/-  Symbolic evaluation: root rewriting, one operation at a time. -/
namespace Ab
noncomputable section

abbrev Res3 := Option (Ex × Env × St)

inductive Fr where
  | seq (b : C)
  | blk (id : Nat)

def after (P : Prog) : List Fr → Res3 → Res3
  | [], r => r
  | .seq b :: k, r => after P k (match r with
    | some (.nxt, e, s) => ev (run P) (loop P) b e s
    | r => r)
  | .blk id :: k, r => after P k (match r with
    | some (.exit j, e, s) => some (if j = id then .nxt else .exit j, e, s)
    | r => r)

theorem after_none (P : Prog) : ∀ k, after P k none = none
  | [] => rfl
  | .seq _ :: k => after_none P k
  | .blk _ :: k => after_none P k

/-- code, with what comes behind -/
def rk (P : Prog) (c : C) (e : Env) (s : St) (k : List Fr) : Res3 := after P k (ev (run P) (loop P) c e s)
def ro (P : Prog) (os : List IOp) (e : Env) (s : St) (k : List Fr) : Res3 := after P k (ops (run P) os e s)
def fin (P : Prog) (x : Ex) (e : Env) (s : St) (k : List Fr) : Res3 := after P k (some (x, e, s))
/-- an operation's outcome, then the rest -/
def on (P : Prog) (d : Option Nat) (os : List IOp) (e : Env) (k : List Fr) : Option OR → Res3
  | some (.val v s) => ro P os (e.put d v) s k
  | some (.pan v s) => fin P (.pan v) e s k
  | none => none
def onG (P : Prog) (o : IOp) (os : List IOp) (e : Env) (s : St) (k : List Fr) : Option Bool → Res3
  | some true => on P o.dst os e k (insV (run P) e s o.ins)
  | some false => ro P os (e.put o.dst .undef) s k
  | none => none
def onB (P : Prog) (a b : C) (e : Env) (s : St) (k : List Fr) : V → Res3
  | .bool t => bif t then rk P a e s k else rk P b e s k
  | _ => none
def onL (P : Prog) (k : List Fr) : Res3 → Res3
  | some (x, e, s) => fin P x e s k
  | none => none

/-- an outcome that may be drawn in several ways -/
def onD (P : Prog) (k : List Fr) (ds : List Nat) (l : List Res3) : Res3 → Res3
  | some r => bif agreeAll ds r l then after P k (some r) else none
  | none => none

section
variable (P : Prog) (e : Env) (s : St) (k : List Fr)
theorem rk_draw (ds : List Nat) (os : List IOp) (oss : List (List IOp)) : rk P (.draw ds os oss) e s k = onD P k ds (oss.map fun o => ro P o e s []) (ro P os e s []) := by
  simp only [rk, ev, ro, after]
  cases ops (run P) os e s with
  | none => exact after_none P k
  | some r =>
    simp only [drawn, onD]
    cases agreeAll ds r (oss.map fun o => ops (run P) o e s) with
    | true => rfl
    | false => exact after_none P k
theorem onD_some (ds : List Nat) (l : List Res3) (x : Ex) : onD P k ds l (some (x, e, s)) = bif agreeAll ds (x, e, s) l then fin P x e s k else none := rfl
theorem rk_skip : rk P .skip e s k = fin P .nxt e s k := rfl
theorem rk_reg (os : List IOp) : rk P (.reg os) e s k = ro P os e s k := rfl
theorem rk_seq (a b : C) : rk P (.seq a b) e s k = rk P a e s (.seq b :: k) := by
  simp only [rk, after, ev]
  cases ev (run P) (loop P) a e s with
  | none => rfl
  | some x => obtain ⟨x, e', s'⟩ := x; cases x <;> rfl
theorem rk_cond (c : Opd) (a b : C) : rk P (.cond c a b) e s k = onB P a b e s k (c.get e) := by
  simp only [rk, ev]
  cases c.get e with
  | bool t => cases t <;> rfl
  | _ => exact after_none P k
theorem rk_blk (id : Nat) (b : C) : rk P (.blk id b) e s k = rk P b e s (.blk id :: k) := by
  simp only [rk, after, ev]
  cases ev (run P) (loop P) b e s with
  | none => rfl
  | some x => obtain ⟨x, e', s'⟩ := x; cases x <;> rfl
theorem rk_loop (l : List Nat) (b : C) : rk P (.loop l b) e s k = onL P k (loop P l b (e.mask l) s) := by
  simp only [rk, ev]
  cases loop P l b (e.mask l) s with
  | none => exact after_none P k
  | some x => rfl
theorem rk_exit (id : Nat) : rk P (.exit id) e s k = fin P (.exit id) e s k := rfl
theorem rk_ret : rk P .ret e s k = fin P .ret e s k := rfl
theorem fin_nil (x : Ex) : fin P x e s [] = some (x, e, s) := rfl
theorem fin_nxt_seq (b : C) : fin P .nxt e s (.seq b :: k) = rk P b e s k := rfl
theorem fin_exit_seq (id : Nat) (b : C) : fin P (.exit id) e s (.seq b :: k) = fin P (.exit id) e s k := rfl
theorem fin_ret_seq (b : C) : fin P .ret e s (.seq b :: k) = fin P .ret e s k := rfl
theorem fin_pan_seq (v : V) (b : C) : fin P (.pan v) e s (.seq b :: k) = fin P (.pan v) e s k := rfl
theorem fin_nxt_blk (id : Nat) : fin P .nxt e s (.blk id :: k) = fin P .nxt e s k := rfl
theorem fin_exit_blk (j id : Nat) : fin P (.exit j) e s (.blk id :: k) = bif Nat.beq j id then fin P .nxt e s k else fin P (.exit j) e s k := by
  show after P k (some (if j = id then Ex.nxt else .exit j, e, s)) = _
  by_cases h : j = id
  · subst h; simp only [if_true, Nat.beq_refl, cond_true]; rfl
  · have : Nat.beq j id = false := by
      cases hb : Nat.beq j id
      · rfl
      · exact absurd (Nat.eq_of_beq_eq_true hb) h
    simp only [h, if_false, this, cond_false]; rfl
theorem fin_ret_blk (id : Nat) : fin P .ret e s (.blk id :: k) = fin P .ret e s k := rfl
theorem fin_pan_blk (v : V) (id : Nat) : fin P (.pan v) e s (.blk id :: k) = fin P (.pan v) e s k := rfl
theorem ro_nil : ro P [] e s k = fin P .nxt e s k := rfl
theorem ro_cons (d : Option Nat) (i : Ins) (os : List IOp) : ro P (⟨d, none, i⟩ :: os) e s k = on P d os e k (insV (run P) e s i) := by
  simp only [ro, ops, wanted]
  cases insV (run P) e s i with
  | none => exact after_none P k
  | some x => cases x <;> rfl
theorem ro_cons_g (d : Option Nat) (j : Nat) (w : Bool) (i : Ins) (os : List IOp) :
    ro P (⟨d, some (j, w), i⟩ :: os) e s k = onG P ⟨d, some (j, w), i⟩ os e s k (wanted e (some (j, w))) := by
  simp only [ro, ops]
  cases wanted e (some (j, w)) with
  | none => exact after_none P k
  | some t => cases t with
    | false => rfl
    | true =>
      simp only [onG]
      cases insV (run P) e s i with
      | none => exact after_none P k
      | some x => cases x <;> rfl
theorem on_val (d : Nat) (os : List IOp) (v : V) : on P (some d) os e k (some (.val v s)) = ro P os ((d, v) :: e) s k := rfl
theorem on_val0 (os : List IOp) (v : V) : on P none os e k (some (.val v s)) = ro P os e s k := rfl
theorem on_pan (d : Option Nat) (os : List IOp) (v : V) : on P d os e k (some (.pan v s)) = fin P (.pan v) e s k := rfl
theorem onG_true (o : IOp) (os : List IOp) : onG P o os e s k (some true) = on P o.dst os e k (insV (run P) e s o.ins) := rfl
theorem onG_false (d : Nat) (g : Option (Nat × Bool)) (i : Ins) (os : List IOp) : onG P ⟨some d, g, i⟩ os e s k (some false) = ro P os ((d, .undef) :: e) s k := rfl
theorem onG_false0 (g : Option (Nat × Bool)) (i : Ins) (os : List IOp) : onG P ⟨none, g, i⟩ os e s k (some false) = ro P os e s k := rfl
theorem onB_bool (a b : C) (t : Bool) : onB P a b e s k (.bool t) = bif t then rk P a e s k else rk P b e s k := rfl
theorem onL_some (x : Ex) : onL P k (some (x, e, s)) = fin P x e s k := rfl
end

theorem on_congr {P d os e k} {r r' : Option OR} (h : r = r') : on P d os e k r = on P d os e k r' := by rw [h]
theorem onG_congr {P o os e s k} {r r' : Option Bool} (h : r = r') : onG P o os e s k r = onG P o os e s k r' := by rw [h]
theorem onB_congr {P a b e s k} {r r' : V} (h : r = r') : onB P a b e s k r = onB P a b e s k r' := by rw [h]
theorem onL_congr {P k} {r r' : Res3} (h : r = r') : onL P k r = onL P k r' := by rw [h]
theorem onD_congr {P k ds l} {r r' : Res3} (h : r = r') : onD P k ds l r = onD P k ds l r' := by rw [h]
attribute [congr] onD_congr on_congr onG_congr onB_congr onL_congr

/-- A function's end. -/
def close (rs : List ResV) : Res3 → Option Out
  | some (.nxt, e, s') | some (.ret, e, s') => match resOf e s' rs with
    | some v => some (.ret v s')
    | none => none
  | some (.pan v, _, s') => some (.pan v s')
  | _ => none

theorem run_body {P : Prog} {f : Nat} {fn : Fn} (hf : P f = some (.code fn)) (args : List V) (s : St) (hl : args.length = fn.np) :
    run P f args s = close fn.res (rk P fn.body (args0 0 args) s []) := by
  rw [run_code hf]
  simp only [body, hl, if_true]
  rfl

theorem loop_body (P : Prog) (l : List Nat) (b : C) (e : Env) (s : St) :
    loop P l b e s = (match rk P b e s [] with
      | some (.nxt, e', s') => loop P l b (e'.mask l) s'
      | r => r) := by
  rw [loop_eq]; rfl

end
end Ab

/-  What a value of the abstract machine stands for in the model's memory. -/
namespace Ab
open Go

/-- What is known of cells that are not written any more. -/
abbrev Mem := Nat → Nat → Option Value
/-- A handle at a version: its block, its capacity in rows, the cells of a row. -/
abbrev Hm := Nat → Nat → Option (Nat × Nat × Nat)

mutual
inductive Rep (M : Mem) (R : Hm) : V → Value → Prop
  | undef : Rep M R .undef Go.undef
  | top (x : Value) : Rep M R .top x
  | bool (b : Bool) : Rep M R (.bool b) (.bool b)
  | int (k : IntKind) (n : Int) : Rep M R (.int k n) (.int k n)
  | flt (k : FloatKind) (n : Nat) : Rep M R (.flt k n) (.float k n)
  | str (s : ByteArray) : Rep M R (.str s.data.toList) (.string s)
  | nilp : Rep M R .nilp (.pointer none)
  | ptr (h off b c n : Nat) (hr : R h 0 = some (b, c, n)) : Rep M R (.ptr h off) (.pointer (some ⟨b, off, none⟩))
  | gptr (h ver i n off b c : Nat) (hr : R h ver = some (b, c, n)) : Rep M R (.gptr h ver i n off) (.pointer (some ⟨b, i * n + off, none⟩))
  | ro (cs : List V) (b off : Nat) (ha : RepAt M R b off cs) : Rep M R (.ro cs) (.pointer (some ⟨b, off, none⟩))
  | sl0 (ex : Bool) (a : Option Addr) (cap : Nat) (he : ex = true → a = none ∧ cap = 0) : Rep M R (.sl ex []) (.slice a 0 cap)
  | sl (ex : Bool) (xs : List V) (b off n cap : Nat) (hx : xs ≠ []) (hc : xs.length ≤ cap) (he : ex = true → cap = xs.length) (ha : RepEl M R b n off xs) :
      Rep M R (.sl ex xs) (.slice (some ⟨b, off, none⟩) xs.length cap)
  | gs (h ver off len b c n : Nat) (hr : R h ver = some (b, c, n)) (hc : off + len ≤ c) (h0 : 0 < c) : Rep M R (.gs h ver off len) (.slice (some ⟨b, off * n, none⟩) len (c - off))
  | gs0 (h b n : Nat) (hr : R h 0 = some (b, 0, n)) : Rep M R (.gs h 0 0 0) (.slice none 0 0)
  | map (h b c n : Nat) (hr : R h 0 = some (b, c, n)) : Rep M R (.map h) (.map (some b))
  | nilmap : Rep M R .nilmap (.map none)
  | fn (f : Nat) (a b : List V) (as bs : List Value) (ha : RepL M R a as) (hb : RepL M R b bs) : Rep M R (.fn f a b) (.func (.func f) as.toArray bs.toArray)
  | nilfn : Rep M R .nilfn .nilFunc
  | iface (t : Nat) (v : V) (x : Value) (h : Rep M R v x) : Rep M R (.iface t v) (.iface t x)
  | nili : Rep M R .nili .nilIface
  | agg (cs : List V) (vs : List Value) (h : RepL M R cs vs) : Rep M R (.agg cs) (.agg vs.toArray)
  | tup (cs : List V) (vs : List Value) (h : RepL M R cs vs) : Rep M R (.tup cs) (.tuple vs.toArray)
inductive RepL (M : Mem) (R : Hm) : List V → List Value → Prop
  | nil : RepL M R [] []
  | cons (v : V) (x : Value) (vs : List V) (xs : List Value) (h : Rep M R v x) (hs : RepL M R vs xs) : RepL M R (v :: vs) (x :: xs)
inductive RepAt (M : Mem) (R : Hm) : Nat → Nat → List V → Prop
  | nil (b off : Nat) : RepAt M R b off []
  | cons (b off : Nat) (x : Value) (v : V) (vs : List V) (hm : M b off = some x) (h : Rep M R v x) (hs : RepAt M R b (off + 1) vs) : RepAt M R b off (v :: vs)
inductive RepEl (M : Mem) (R : Hm) : Nat → Nat → Nat → List V → Prop
  | nil (b n off : Nat) : RepEl M R b n off []
  | cons (b n off : Nat) (v : V) (vs : List V) (hl : v.cells.length = n) (ha : RepAt M R b off v.cells) (hs : RepEl M R b n (off + n) vs) : RepEl M R b n off (v :: vs)
end

/-! ### more is known later -/
def Mem.le (M M' : Mem) : Prop := ∀ b o x, M b o = some x → M' b o = some x
def Hm.le (R R' : Hm) : Prop := ∀ h v x, R h v = some x → R' h v = some x
theorem Mem.le_refl (M : Mem) : M.le M := fun _ _ _ h => h
theorem Hm.le_refl (R : Hm) : R.le R := fun _ _ _ h => h
theorem Mem.le_trans {A B C : Mem} (h : A.le B) (g : B.le C) : A.le C := fun _ _ _ x => g _ _ _ (h _ _ _ x)
theorem Hm.le_trans {A B C : Hm} (h : A.le B) (g : B.le C) : A.le C := fun _ _ _ x => g _ _ _ (h _ _ _ x)

section
variable {M M' : Mem} {R R' : Hm} (hM : M.le M') (hR : R.le R')
include hM hR
mutual
theorem Rep.mono : ∀ {v x}, Rep M R v x → Rep M' R' v x
  | _, _, .undef => .undef
  | _, _, .top x => .top x
  | _, _, .bool b => .bool b
  | _, _, .int k n => .int k n
  | _, _, .flt k n => .flt k n
  | _, _, .str s => .str s
  | _, _, .nilp => .nilp
  | _, _, .ptr h off b c n hr => .ptr h off b c n (hR _ _ _ hr)
  | _, _, .gptr h ver i n off b c hr => .gptr h ver i n off b c (hR _ _ _ hr)
  | _, _, .ro cs b off ha => .ro cs b off (RepAt.mono ha)
  | _, _, .sl0 ex a cap he => .sl0 ex a cap he
  | _, _, .sl ex xs b off n cap hx hc he ha => .sl ex xs b off n cap hx hc he (RepEl.mono ha)
  | _, _, .gs h ver off len b c n hr hc h0 => .gs h ver off len b c n (hR _ _ _ hr) hc h0
  | _, _, .gs0 h b n hr => .gs0 h b n (hR _ _ _ hr)
  | _, _, .map h b c n hr => .map h b c n (hR _ _ _ hr)
  | _, _, .nilmap => .nilmap
  | _, _, .fn f a b as bs ha hb => .fn f a b as bs (RepL.mono ha) (RepL.mono hb)
  | _, _, .nilfn => .nilfn
  | _, _, .iface t v x h => .iface t v x (Rep.mono h)
  | _, _, .nili => .nili
  | _, _, .agg cs vs h => .agg cs vs (RepL.mono h)
  | _, _, .tup cs vs h => .tup cs vs (RepL.mono h)
theorem RepL.mono : ∀ {vs xs}, RepL M R vs xs → RepL M' R' vs xs
  | _, _, .nil => .nil
  | _, _, .cons v x vs xs h hs => .cons v x vs xs (Rep.mono h) (RepL.mono hs)
theorem RepAt.mono : ∀ {b off vs}, RepAt M R b off vs → RepAt M' R' b off vs
  | _, _, _, .nil b off => .nil b off
  | _, _, _, .cons b off x v vs hm h hs => .cons b off x v vs (hM _ _ _ hm) (Rep.mono h) (RepAt.mono hs)
theorem RepEl.mono : ∀ {b n off vs}, RepEl M R b n off vs → RepEl M' R' b n off vs
  | _, _, _, _, .nil b n off => .nil b n off
  | _, _, _, _, .cons b n off v vs hl ha hs => .cons b n off v vs hl (RepAt.mono ha) (RepEl.mono hs)
end
end

section
variable {M : Mem} {R : Hm}
theorem RepL.length {vs xs} (h : RepL M R vs xs) : vs.length = xs.length := by
  induction vs generalizing xs with
  | nil => cases h; rfl
  | cons v vs ih => cases h with | cons _ x _ xs h hs => simp [ih hs]
theorem RepL.get {vs xs} (h : RepL M R vs xs) {i : Nat} {v : V} (hi : vs[i]? = some v) : ∃ x, xs[i]? = some x ∧ Rep M R v x := by
  induction vs generalizing xs i with
  | nil => simp at hi
  | cons w vs ih =>
    cases h with
    | cons _ x _ xs h hs =>
      cases i with
      | zero => simp at hi; subst hi; exact ⟨x, by simp, h⟩
      | succ i => simp at hi; obtain ⟨y, hy, hr⟩ := ih hs hi; exact ⟨y, by simpa using hy, hr⟩
theorem RepL.append {vs ws xs ys} (h : RepL M R vs xs) (g : RepL M R ws ys) : RepL M R (vs ++ ws) (xs ++ ys) := by
  induction vs generalizing xs with
  | nil => cases h; exact g
  | cons v vs ih => cases h with | cons _ x _ xs h hs => exact .cons _ _ _ _ h (ih hs)
theorem RepL.drop {vs xs} (h : RepL M R vs xs) (k : Nat) : RepL M R (vs.drop k) (xs.drop k) := by
  induction k generalizing vs xs with
  | zero => exact h
  | succ k ih => cases h with
    | nil => exact .nil
    | cons _ x _ xs h hs => exact ih hs
theorem RepL.take {vs xs} (h : RepL M R vs xs) (k : Nat) : RepL M R (vs.take k) (xs.take k) := by
  induction k generalizing vs xs with
  | zero => exact .nil
  | succ k ih => cases h with
    | nil => exact .nil
    | cons _ x _ xs h hs => exact .cons _ _ _ _ h (ih hs)
theorem RepL.set {vs xs} (h : RepL M R vs xs) (i : Nat) {v : V} {x : Value} (hv : Rep M R v x) : RepL M R (vs.set i v) (xs.set i x) := by
  induction vs generalizing xs i with
  | nil => cases h; exact .nil
  | cons w vs ih => cases h with
    | cons _ y _ xs h hs => cases i with
      | zero => exact .cons _ _ _ _ hv hs
      | succ i => exact .cons _ _ _ _ h (ih hs i)
theorem RepL.split {vs ws zs} (h : RepL M R (vs ++ ws) zs) : RepL M R vs (zs.take vs.length) ∧ RepL M R ws (zs.drop vs.length) := by
  constructor
  · have := h.take vs.length; simpa using this
  · have := h.drop vs.length; simpa using this
theorem RepL.replicate {v x} (h : Rep M R v x) (n : Nat) : RepL M R (List.replicate n v) (List.replicate n x) := by
  induction n with
  | zero => exact .nil
  | succ n ih => exact .cons _ _ _ _ h ih
theorem RepL.splice {vs xs ws ys} (h : RepL M R vs xs) (off : Nat) (g : RepL M R ws ys) (hl : off + ws.length ≤ vs.length) :
    RepL M R (splice vs off ws) (xs.take off ++ ys ++ xs.drop (off + ys.length)) := by
  induction ws generalizing vs xs ys off with
  | nil => cases g; simp only [Ab.splice, List.append_nil, List.length_nil, Nat.add_zero, List.take_append_drop]; exact h
  | cons w ws ih =>
    cases g with
    | cons _ y _ ys hw hws =>
      simp only [Ab.splice, List.length_cons] at hl ⊢
      have h2 := ih (h.set off hw) (off + 1) hws (by simp; omega)
      have hlen := h.length
      have e1 : (xs.set off y).take (off + 1) = xs.take off ++ [y] := by
        rw [List.take_succ_eq_append_getElem (by simp; omega)]
        simp [List.take_set_of_le]
      have e2 : (xs.set off y).drop (off + 1 + ys.length) = xs.drop (off + 1 + ys.length) := by
        rw [List.drop_set_of_lt (by omega)]
      rw [e1, e2] at h2
      simpa [Nat.add_assoc, Nat.add_comm 1] using h2

theorem RepAt.drop {b off vs} (h : RepAt M R b off vs) (k : Nat) : RepAt M R b (off + k) (vs.drop k) := by
  induction k generalizing off vs with
  | zero => exact h
  | succ k ih => cases h with
    | nil => simpa using RepAt.nil b (off + (k + 1))
    | cons _ _ x v vs hm h hs => have := ih hs; rw [show off + (k + 1) = off + 1 + k by omega]; exact this
theorem RepAt.vals {b off vs} (h : RepAt M R b off vs) : ∃ xs, RepL M R vs xs ∧ ∀ j x, xs[j]? = some x → M b (off + j) = some x := by
  induction vs generalizing off with
  | nil => exact ⟨[], .nil, fun j x h => by simp at h⟩
  | cons v vs ih => cases h with
    | cons _ _ x _ _ hm h hs =>
      obtain ⟨xs, hx, hf⟩ := ih hs
      refine ⟨x :: xs, .cons _ _ _ _ h hx, fun j y hj => ?_⟩
      cases j with
      | zero => simp at hj; subst hj; exact hm
      | succ j => simp at hj; have := hf j y hj; rw [show off + (j + 1) = off + 1 + j by omega]; exact this
theorem RepAt.of_vals {b off vs xs} (h : RepL M R vs xs) (hf : ∀ j x, xs[j]? = some x → M b (off + j) = some x) : RepAt M R b off vs := by
  induction vs generalizing off xs with
  | nil => exact .nil _ _
  | cons v vs ih => cases h with
    | cons _ x _ xs h hs => exact .cons _ _ _ _ _ (hf 0 x (by simp)) h (ih hs fun j y hj => by have := hf (j + 1) y (by simpa using hj); rw [show off + 1 + j = off + (j + 1) by omega]; exact this)
theorem RepEl.get {b n off vs} (h : RepEl M R b n off vs) {i : Nat} {v : V} (hi : vs[i]? = some v) : v.cells.length = n ∧ RepAt M R b (off + i * n) v.cells := by
  induction vs generalizing off i with
  | nil => simp at hi
  | cons w vs ih => cases h with
    | cons _ _ _ _ _ hl ha hs =>
      cases i with
      | zero => simp at hi; subst hi; exact ⟨hl, by simpa using ha⟩
      | succ i => simp at hi; have := ih hs hi; rw [show off + (i + 1) * n = off + n + i * n by rw [Nat.add_mul]; omega]; exact this
theorem RepEl.drop {b n off vs} (h : RepEl M R b n off vs) (k : Nat) : RepEl M R b n (off + k * n) (vs.drop k) := by
  induction k generalizing off vs with
  | zero => simpa using h
  | succ k ih => cases h with
    | nil => exact .nil _ _ _
    | cons _ _ _ v vs hl ha hs => have := ih hs; rw [show off + (k + 1) * n = off + n + k * n by rw [Nat.add_mul]; omega]; exact this
theorem RepEl.take {b n off vs} (h : RepEl M R b n off vs) (k : Nat) : RepEl M R b n off (vs.take k) := by
  induction k generalizing off vs with
  | zero => exact .nil _ _ _
  | succ k ih => cases h with
    | nil => exact .nil _ _ _
    | cons _ _ _ v vs hl ha hs => exact .cons _ _ _ _ _ hl ha (ih hs)
theorem RepEl.vals {b n off vs} (h : RepEl M R b n off vs) : ∃ xs, RepL M R (vs.map V.cells).flatten xs ∧ xs.length = vs.length * n ∧ ∀ j x, xs[j]? = some x → M b (off + j) = some x := by
  induction vs generalizing off with
  | nil => exact ⟨[], .nil, by simp, fun j x h => by simp at h⟩
  | cons v vs ih => cases h with
    | cons _ _ _ _ _ hl ha hs =>
      obtain ⟨xs, hx, hxl, hf⟩ := ih hs
      obtain ⟨ys, hy, hg⟩ := ha.vals
      have hyl : ys.length = n := by rw [← hy.length, hl]
      refine ⟨ys ++ xs, by simpa using hy.append hx, by simp [hyl, hxl, Nat.add_mul, Nat.add_comm], fun j x hj => ?_⟩
      by_cases hlt : j < ys.length
      · rw [List.getElem?_append_left hlt] at hj; exact hg j x hj
      · rw [List.getElem?_append_right (by omega)] at hj
        have := hf _ _ hj
        rw [show off + j = off + n + (j - ys.length) by omega]; exact this
theorem RepEl.of_vals {b n off vs xs} (hn : ∀ v ∈ vs, v.cells.length = n) (h : RepL M R (vs.map V.cells).flatten xs) (hf : ∀ j x, xs[j]? = some x → M b (off + j) = some x) : RepEl M R b n off vs := by
  induction vs generalizing off xs with
  | nil => exact .nil _ _ _
  | cons v vs ih =>
    simp only [List.map_cons, List.flatten_cons] at h
    obtain ⟨h1, h2⟩ := h.split
    have hv := hn v (by simp)
    refine .cons _ _ _ _ _ hv (RepAt.of_vals h1 fun j x hj => ?_) (ih (fun u hu => hn u (by simp [hu])) h2 fun j x hj => ?_)
    · rw [List.getElem?_take] at hj; split at hj
      · exact hf j x hj
      · simp at hj
    · rw [List.getElem?_drop] at hj; have := hf _ _ hj; rw [show off + n + j = off + (v.cells.length + j) by omega]; exact this
end

/-- A value of the model, cell by cell. -/
theorem Rep.cells {M R v x} (h : Rep M R v x) (ht : v.oneCell = true ∨ ∃ cs, v = .agg cs) : RepL M R v.cells x.cells.toList := by
  rcases ht with ht | ⟨cs, rfl⟩
  · cases h <;> simp [V.oneCell] at ht <;> (refine .cons _ _ _ _ ?_ .nil)
    all_goals first
      | exact .bool _ | exact .int _ _ | exact .flt _ _ | exact .str _ | exact .nilp | exact .nilmap | exact .nilfn | exact .nili
      | (constructor <;> assumption)
  · cases h with | agg _ vs h => exact h

end Ab

/-  The relation between the abstract machine's store and the model's memory, and how it is kept. -/
namespace Ab
open Go

/-- Cells that nobody writes: tables that the program begins with. -/
class Globs where
  mg : Nat → Nat → Option Value
  /-- .. and the whole blocks of some of them. -/
  pin : Nat → Option (Array Value)
  cov : ∀ g cs, pin g = some cs → ∃ x, mg g 0 = some x
variable [Globs]

def blk (R : Hm) (h : Nat) : Obj → Option Nat
  | .dead | .nilg _ _ => none
  | .box _ _ | .map _ => (R h 0).map (·.1)
  | .grow _ v _ _ _ => (R h v).map (·.1)

def ObjOk (M : Mem) (R : Hm) (w : World) (h : Nat) : Obj → Prop
  | .dead => True
  | .box e cs => ∃ b c n vals, R h 0 = some (b, c, n) ∧ w.heap[b]? = some (.cells vals e (0, 0)) ∧ RepL M R cs vals.toList
  | .grow e v _ sz rows => ∃ b cap vals, R h v = some (b, cap, sz) ∧ w.heap[b]? = some (.cells vals e (0, 0)) ∧ vals.size = cap * sz ∧ rows.length ≤ cap ∧ (∀ r ∈ rows, r.length = sz) ∧
      RepL M R rows.flatten (vals.toList.take (rows.length * sz)) ∧ cap ≤ maxLen ∧ 0 < cap
  | .nilg _ _ => ∃ b n, R h 0 = some (b, 0, n)
  | .map _ => False

/-- The version that stands. -/
def verOf : Obj → Option Nat
  | .nilg _ _ => some 0
  | .grow _ v _ _ _ => some v
  | _ => none

structure Ctx where
  w0 : World
  D : Nat → Nat → Prop
  M0 : Mem

structure Good (M : Mem) (R : Hm) (S : St) (w : World) : Prop where
  mem : ∀ b o x, M b o = some x → w.cell? ⟨b, o, none⟩ = some x
  objs : ∀ h, ObjOk M R w h (S.at h)
  dist : ∀ h h' b, h ≠ h' → blk R h (S.at h) = some b → blk R h' (S.at h') ≠ some b
  sep : ∀ h b o, blk R h (S.at h) = some b → M b o = none
  fresh : ∀ h v x, R h v = some x → h < S.length
  vers : ∀ h v, verOf (S.at h) = some v → ∀ v', v < v' → R h v' = none
  glob : Mem.le Globs.mg M
  pins : ∀ g cs, Globs.pin g = some cs → ∃ e f, w.heap[g]? = some (.cells cs e f)

structure Cxt (c : Ctx) (M : Mem) (R : Hm) (S : St) (w : World) : Prop where
  os : w.os = c.w0.os
  tape : w.tape = c.w0.tape
  output : w.output = c.w0.output
  size : c.w0.heap.size ≤ w.heap.size
  keep : ∀ b, b < c.w0.heap.size → (∀ h, ¬ c.D h b) → w.heap[b]? = c.w0.heap[b]?
  own : ∀ h b, blk R h (S.at h) = some b → c.D h b ∨ c.w0.heap.size ≤ b
  new : ∀ b o x, M b o = some x → c.M0 b o = some x ∨ c.w0.heap.size ≤ b

structure Inv (c : Ctx) (M : Mem) (R : Hm) (S : St) (w : World) : Prop where
  good : Good M R S w
  cxt : Cxt c M R S w

theorem at_lt {S : St} {h : Nat} (hne : S.at h ≠ .dead) : h < S.length := by
  rcases Nat.lt_or_ge h S.length with hl | hl
  · exact hl
  · exact absurd (by simp [St.at, List.getD, List.getElem?_eq_none hl]) hne

theorem at_len (S : St) : S.at S.length = .dead := by simp [St.at, List.getD]
theorem at_append (S : St) (o : Obj) (h : Nat) : St.at (S ++ [o]) h = if h = S.length then o else S.at h := by
  simp only [St.at, List.getD]
  by_cases hh : h = S.length
  · subst hh; simp
  · simp only [hh, if_false]
    rcases Nat.lt_or_ge h S.length with hl | hl
    · rw [List.getElem?_append_left hl]
    · rw [List.getElem?_eq_none (by simp; omega), List.getElem?_eq_none hl]
theorem at_set (S : St) (o : Obj) (k h : Nat) (hk : k < S.length) : St.at (List.set S k o) h = if h = k then o else S.at h := by
  simp only [St.at, List.getD]
  by_cases hh : h = k
  · subst hh; simp [hk]
  · simp only [hh, if_false]
    rw [List.getElem?_set_ne (by omega)]

theorem heap_lt {w : World} {b : Nat} {o : Go.Obj} (h : w.heap[b]? = some o) : b < w.heap.size := by
  rcases Nat.lt_or_ge b w.heap.size with hl | hl
  · exact hl
  · rw [Array.getElem?_eq_none hl] at h; cases h

theorem ObjOk.blk_lt {M R w h o b} (ho : ObjOk M R w h o) (hb : blk R h o = some b) : b < w.heap.size := by
  cases o with
  | dead => simp [blk] at hb
  | nilg => simp [blk] at hb
  | box e cs =>
    obtain ⟨b', c, n, vals, hr, hh, _⟩ := ho
    simp [blk, hr] at hb; subst hb; exact heap_lt hh
  | grow e v ag sz rows =>
    obtain ⟨b', cap, vals, hr, hh, _⟩ := ho
    simp [blk, hr] at hb; subst hb; exact heap_lt hh
  | map es => exact ho.elim

def Obj.live : Obj → Bool
  | .box _ _ | .grow .. | .map _ => true
  | _ => false

theorem ObjOk.blk_some {M R w h o} (ho : ObjOk M R w h o) (hd : o.live = true) : ∃ b, blk R h o = some b := by
  cases o with
  | dead => cases hd
  | nilg => cases hd
  | box e cs => obtain ⟨b', c, n, vals, hr, hh, _⟩ := ho; exact ⟨b', by simp [blk, hr]⟩
  | grow e v ag sz rows => obtain ⟨b', cap, vals, hr, hh, _⟩ := ho; exact ⟨b', by simp [blk, hr]⟩
  | map es => exact ho.elim

theorem blk_mono {R R' : Hm} (hR : R.le R') {h o b} (hb : blk R h o = some b) : blk R' h o = some b := by
  cases o with
  | dead => simp [blk] at hb
  | nilg => simp [blk] at hb
  | box e cs =>
    simp only [blk, Option.map_eq_some_iff] at hb ⊢
    obtain ⟨a, ha, rfl⟩ := hb; exact ⟨a, hR _ _ _ ha, rfl⟩
  | grow e v ag sz rows =>
    simp only [blk, Option.map_eq_some_iff] at hb ⊢
    obtain ⟨a, ha, rfl⟩ := hb; exact ⟨a, hR _ _ _ ha, rfl⟩
  | map es =>
    simp only [blk, Option.map_eq_some_iff] at hb ⊢
    obtain ⟨a, ha, rfl⟩ := hb; exact ⟨a, hR _ _ _ ha, rfl⟩

theorem ObjOk.mono {M M' : Mem} {R R' : Hm} {w w' : World} {h o} (hM : M.le M') (hR : R.le R') (ho : ObjOk M R w h o)
    (hb : ∀ b, blk R h o = some b → w'.heap[b]? = w.heap[b]?) : ObjOk M' R' w' h o := by
  cases o with
  | dead => trivial
  | nilg => obtain ⟨b, n, hr⟩ := ho; exact ⟨b, n, hR _ _ _ hr⟩
  | box e cs =>
    obtain ⟨b', c, n, vals, hr, hh, hl⟩ := ho
    exact ⟨b', c, n, vals, hR _ _ _ hr, by rw [hb b' (by simp [blk, hr])]; exact hh, hl.mono hM hR⟩
  | grow e v ag sz rows =>
    obtain ⟨b', cap, vals, hr, hh, h1, h2, h3, hl, h4⟩ := ho
    exact ⟨b', cap, vals, hR _ _ _ hr, by rw [hb b' (by simp [blk, hr])]; exact hh, h1, h2, h3, hl.mono hM hR, h4⟩
  | map es => exact ho.elim

theorem cell_of_heap {w w' : World} {b o : Nat} (h : w'.heap[b]? = w.heap[b]?) : w'.cell? ⟨b, o, none⟩ = w.cell? ⟨b, o, none⟩ := by
  simp [World.cell?, h]

theorem cell_lt {w : World} {b o : Nat} {x : Value} (h : w.cell? ⟨b, o, none⟩ = some x) : b < w.heap.size := by
  simp only [World.cell?] at h
  split at h
  · rename_i hh; exact heap_lt hh
  · cases h

/-- One object changes, or comes; blocks come; more is known. -/
theorem Inv.upd {c : Ctx} {M R S w} (hi : Inv c M R S w) {M' : Mem} {R' : Hm} {S' : St} {w' : World} (h0 : Nat)
    (hos : w'.os = w.os) (htape : w'.tape = w.tape) (hout : w'.output = w.output) (hsz : w.heap.size ≤ w'.heap.size)
    (hM : M.le M') (hR : R.le R')
    (hblk : ∀ b, b < w.heap.size → blk R h0 (S.at h0) ≠ some b → w'.heap[b]? = w.heap[b]?)
    (hS : ∀ h, h ≠ h0 → S'.at h = S.at h)
    (hnewM : ∀ b o x, M' b o = some x → M b o = some x ∨ (w.heap.size ≤ b ∧ w'.cell? ⟨b, o, none⟩ = some x ∧ blk R' h0 (S'.at h0) ≠ some b))
    (hR' : ∀ h v x, R' h v = some x → R h v = some x ∨ (h = h0 ∧ h0 < S'.length))
    (hlen : S.length ≤ S'.length)
    (hobj : ObjOk M' R' w' h0 (S'.at h0))
    (hb0 : ∀ b, blk R' h0 (S'.at h0) = some b → blk R h0 (S.at h0) = some b ∨ w.heap.size ≤ b)
    (hv0 : ∀ v, verOf (S'.at h0) = some v → ∀ v', v < v' → R' h0 v' = none) : Inv c M' R' S' w' := by
  have hother : ∀ h b, h ≠ h0 → blk R' h (S'.at h) = some b → blk R h (S.at h) = some b := by
    intro h b hne hb
    rw [hS h hne] at hb
    by_cases hd : (S.at h).live = true
    case neg => cases ho : S.at h <;> rw [ho] at hd hb <;> first | (exact absurd rfl hd) | (simp [blk] at hb; done)
    case pos =>
      obtain ⟨b', hb'⟩ := (hi.good.objs h).blk_some hd
      have := blk_mono hR hb'
      rw [this] at hb; cases hb; exact hb'
  have hkeep : ∀ h b, h ≠ h0 → blk R h (S.at h) = some b → w'.heap[b]? = w.heap[b]? := fun h b hne hb =>
    hblk b ((hi.good.objs h).blk_lt hb) fun hb2 => hi.good.dist h h0 b hne hb hb2
  refine ⟨⟨?_, ?_, ?_, ?_, ?_, ?_, Mem.le_trans hi.good.glob hM, fun g cs hp => by
    obtain ⟨e, f, he⟩ := hi.good.pins g cs hp
    obtain ⟨x, hx⟩ := Globs.cov g cs hp
    refine ⟨e, f, ?_⟩
    rw [hblk g (heap_lt he) fun hb2 => by have h2 := hi.good.sep h0 g 0 hb2; rw [hi.good.glob g 0 x hx] at h2; cases h2]
    exact he⟩, ⟨?_, ?_, ?_, ?_, ?_, ?_, ?_⟩⟩
  · intro b o x hx
    rcases hnewM b o x hx with h | ⟨_, h, _⟩
    · have hc := hi.good.mem b o x h
      rw [cell_of_heap (hblk b (cell_lt hc) fun hb2 => by rw [hi.good.sep h0 b o hb2] at h; cases h)]
      exact hc
    · exact h
  · intro h
    by_cases hne : h = h0
    · subst hne; exact hobj
    · rw [hS h hne]; exact (hi.good.objs h).mono hM hR fun b hb => hkeep h b hne hb
  · intro h h' b hne hb hb'
    by_cases e : h = h0
    · subst e
      have h2 := hother h' b (Ne.symm hne) hb'
      rcases hb0 b hb with h3 | h3
      · exact hi.good.dist h h' b hne h3 h2
      · have := (hi.good.objs h').blk_lt h2; omega
    · have h2 := hother h b e hb
      by_cases e' : h' = h0
      · subst e'
        rcases hb0 b hb' with h3 | h3
        · exact hi.good.dist h h' b hne h2 h3
        · have := (hi.good.objs h).blk_lt h2; omega
      · exact hi.good.dist h h' b hne h2 (hother h' b e' hb')
  · intro h b o hb
    cases hm : M' b o with
    | none => rfl
    | some x =>
      rcases hnewM b o x hm with h1 | ⟨h1, _, h3⟩
      · by_cases e : h = h0
        · subst e
          rcases hb0 b hb with h4 | h4
          · rw [hi.good.sep h b o h4] at h1; cases h1
          · have := cell_lt (hi.good.mem b o x h1); omega
        · rw [hi.good.sep h b o (hother h b e hb)] at h1; cases h1
      · by_cases e : h = h0
        · subst e; exact absurd hb h3
        · have := (hi.good.objs h).blk_lt (hother h b e hb); omega
  · intro h v x hx
    rcases hR' h v x hx with h1 | ⟨rfl, h1⟩
    · exact Nat.lt_of_lt_of_le (hi.good.fresh h v x h1) hlen
    · exact h1
  · intro h v hg v' hv
    by_cases e : h = h0
    · subst e; exact hv0 v hg v' hv
    · rw [hS h e] at hg
      cases hr : R' h v' with
      | none => rfl
      | some x =>
        rcases hR' h v' x hr with h1 | h1
        · rw [hi.good.vers h v hg v' hv] at h1; cases h1
        · exact absurd h1.1 e
  · exact hos.trans hi.cxt.os
  · exact htape.trans hi.cxt.tape
  · exact hout.trans hi.cxt.output
  · exact Nat.le_trans hi.cxt.size hsz
  · intro b hb hd
    rw [hblk b (Nat.lt_of_lt_of_le hb hi.cxt.size) fun hb2 => (hi.cxt.own h0 b hb2).elim (hd h0) (fun h => by omega)]
    exact hi.cxt.keep b hb hd
  · intro h b hb
    by_cases e : h = h0
    · subst e
      rcases hb0 b hb with h1 | h1
      · exact hi.cxt.own h b h1
      · exact .inr (Nat.le_trans hi.cxt.size h1)
    · exact hi.cxt.own h b (hother h b e hb)
  · intro b o x hx
    rcases hnewM b o x hx with h1 | ⟨h1, _⟩
    · exact hi.cxt.new b o x h1
    · exact .inr (Nat.le_trans hi.cxt.size h1)

/-- Nothing but the count of draws, or blocks that are nobody's. -/
theorem Inv.world {c : Ctx} {M R S w} (hi : Inv c M R S w) {w' : World}
    (hos : w'.os = w.os) (htape : w'.tape = w.tape) (hout : w'.output = w.output) (hsz : w.heap.size ≤ w'.heap.size)
    (hblk : ∀ b, b < w.heap.size → w'.heap[b]? = w.heap[b]?) : Inv c M R S w' := by
  refine hi.upd S.length hos htape hout hsz (Mem.le_refl M) (Hm.le_refl R) (fun b hb _ => hblk b hb) (fun _ _ => rfl) (fun b o x h => .inl h) (fun h v x hx => .inl hx) (Nat.le_refl _) ?_ ?_ ?_
  · rw [at_len]; trivial
  · rw [at_len]; intro b hb; simp [blk] at hb
  · rw [at_len]; intro v h; cases h

theorem Inv.drew {c : Ctx} {M R S w} (hi : Inv c M R S w) : Inv c M R S w.drew := hi.world rfl rfl rfl (Nat.le_refl _) fun _ _ => rfl

theorem alloc_old (w : World) (o : Go.Obj) (b : Nat) (h : b < w.heap.size) : (w.alloc o).heap[b]? = w.heap[b]? := by
  show (w.heap.push o)[b]? = _
  rw [Array.getElem?_push, if_neg (by omega)]
theorem alloc_new (w : World) (o : Go.Obj) : (w.alloc o).heap[w.heap.size]? = some o := by
  show (w.heap.push o)[w.heap.size]? = _
  simp

/-- A handle's first block. -/
def Hm.put (R : Hm) (h v : Nat) (x : Nat × Nat × Nat) : Hm := fun h' v' => if h' = h ∧ v' = v then some x else R h' v'
theorem Hm.put_same (R : Hm) (h v x) : R.put h v x h v = some x := by simp [Hm.put]
theorem Hm.le_put (R : Hm) (h v x) (hn : R h v = none) : R.le (R.put h v x) := by
  intro h' v' y hy
  simp only [Hm.put]
  split
  · rename_i e; obtain ⟨rfl, rfl⟩ := e; rw [hn] at hy; cases hy
  · exact hy

theorem Good.fresh_none {M R S w} (g : Good M R S w) (h v : Nat) (hl : S.length ≤ h) : R h v = none := by
  cases hr : R h v with
  | none => rfl
  | some x => exact absurd (g.fresh h v x hr) (by omega)

/-- A new box. -/
theorem Inv.newBox {c : Ctx} {M R S w} (hi : Inv c M R S w) (cs : List V) (vals : Array Value) (e : TypeId) (hc : RepL M R cs vals.toList) :
    R.le (R.put S.length 0 (w.heap.size, 0, 0)) ∧ Inv c M (R.put S.length 0 (w.heap.size, 0, 0)) (S ++ [.box e cs]) (w.alloc (.cells vals e)) := by
  have hn := hi.good.fresh_none S.length 0 (Nat.le_refl _)
  have hR := Hm.le_put R S.length 0 (w.heap.size, 0, 0) hn
  refine ⟨hR, hi.upd S.length rfl rfl rfl (by simp) (Mem.le_refl M) hR (fun b hb _ => alloc_old w _ b hb) ?_ (fun b o x h => .inl h) ?_ (by simp) ?_ ?_ ?_⟩
  · intro h hne; rw [at_append, if_neg hne]
  · intro h v x hx
    simp only [Hm.put] at hx
    split at hx
    · rename_i e'; exact .inr ⟨e'.1, by simp⟩
    · exact .inl hx
  · rw [at_append, if_pos rfl]
    exact ⟨w.heap.size, 0, 0, vals, Hm.put_same _ _ _ _, alloc_new w _, hc.mono (Mem.le_refl M) hR⟩
  · rw [at_append, if_pos rfl]
    intro b hb
    simp [blk, Hm.put_same] at hb
    exact .inr (by omega)
  · rw [at_append, if_pos rfl]
    intro v h; cases h

end Ab

/-  Operations without memory: what the machine says is what the model does. -/
namespace Ab
open Go
variable [Globs]

def VOk (P : Program) (c : Ctx) (M : Mem) (R : Hm) (sem : Sem Value) (w : World) (v : V) (s : St) : Prop :=
  ∃ x w' M' R', sem.run P w = .ok x w' ∧ M.le M' ∧ R.le R' ∧ Inv c M' R' s w' ∧ Rep M' R' v x

theorem VOk.pure {P c M R S w v x} {sem : Sem Value} (hi : Inv c M R S w) (hr : sem.run P w = .ok x w) (hv : Rep M R v x) : VOk P c M R sem w v S :=
  ⟨x, w, M, R, hr, Mem.le_refl M, Hm.le_refl R, hi, hv⟩

def RepEnv (M : Mem) (R : Hm) (e : Env) (tmps : Array Value) : Prop := ∀ i, Rep M R (e.get i) (tmps.getD i Go.undef)

theorem RepEnv.mono {M M' R R' e tmps} (h : RepEnv M R e tmps) (hM : M.le M') (hR : R.le R') : RepEnv M' R' e tmps := fun i => (h i).mono hM hR

mutual
theorem valV_rep (M : Mem) (R : Hm) : ∀ {x : Value} {v : V}, valV x = some v → Rep M R v x
  | .bool b, v, h => by simp only [valV, Option.some.injEq] at h; subst h; exact .bool b
  | .int k n, v, h => by simp only [valV, Option.some.injEq] at h; subst h; exact .int k n
  | .float k n, v, h => by simp only [valV, Option.some.injEq] at h; subst h; exact .flt k n
  | .complex _ _ _, v, h => by simp [valV] at h
  | .string s, v, h => by simp only [valV, Option.some.injEq] at h; subst h; exact .str s
  | .pointer none, v, h => by simp only [valV, Option.some.injEq] at h; subst h; exact .nilp
  | .pointer (some _), v, h => by simp [valV] at h
  | .slice a l c, v, h => by
    unfold valV at h
    split at h <;> first | (cases h; done) | skip
    all_goals (first | (rename_i he; cases he) | skip)
    all_goals first
      | (simp only [Option.some.injEq] at h; subst h; exact .sl0 true none 0 (fun _ => ⟨rfl, rfl⟩))
      | (simp at h)
  | .map none, v, h => by simp only [valV, Option.some.injEq] at h; subst h; exact .nilmap
  | .map (some _), v, h => by simp [valV] at h
  | .chan _, v, h => by simp [valV] at h
  | .func _ _ _, v, h => by simp [valV] at h
  | .nilFunc, v, h => by simp only [valV, Option.some.injEq] at h; subst h; exact .nilfn
  | .iface _ _, v, h => by simp [valV] at h
  | .nilIface, v, h => by simp only [valV, Option.some.injEq] at h; subst h; exact .nili
  | .agg cs, v, h => by
    simp only [valV, Option.map_eq_some_iff] at h
    obtain ⟨vs, hv, rfl⟩ := h
    exact .agg vs cs.toList (valVs_rep M R hv)
  | .tuple _, v, h => by simp [valV] at h
theorem valVs_rep (M : Mem) (R : Hm) : ∀ {xs : List Value} {vs : List V}, valVs xs = some vs → RepL M R vs xs
  | [], vs, h => by simp only [valVs, Option.some.injEq] at h; subst h; exact .nil
  | x :: xs, vs, h => by
    simp only [valVs] at h
    cases hx : valV x with
    | none => simp [hx] at h
    | some v =>
      simp only [hx, Option.map_eq_some_iff] at h
      obtain ⟨ws, hw, rfl⟩ := h
      exact .cons _ _ _ _ (valV_rep M R hx) (valVs_rep M R hw)
end

theorem opd_rep {M R e} {a : Act} (he : RepEnv M R e a.tmps) {x : Operand} {y : Opd} (h : trOpd x = some y) : Rep M R (y.get e) (a.eval x) := by
  cases x with
  | tmp t => simp only [trOpd, Option.some.injEq] at h; subst h; exact he t
  | const v =>
    simp only [trOpd, Option.map_eq_some_iff] at h
    obtain ⟨u, hu, rfl⟩ := h
    exact valV_rep M R hu
  | global g => simp [trOpd] at h
  | func f => simp only [trOpd, Option.some.injEq] at h; subst h; exact .fn f [] [] [] [] .nil .nil

theorem opds_rep {M R e} {a : Act} (he : RepEnv M R e a.tmps) : ∀ {xs : List Operand} {ys : List Opd}, trOpds xs = some ys → RepL M R (ys.map (·.get e)) (xs.map a.eval)
  | [], ys, h => by simp only [trOpds, Option.some.injEq] at h; subst h; exact .nil
  | x :: xs, ys, h => by
    simp only [trOpds] at h
    cases hx : trOpd x with
    | none => simp [hx] at h
    | some y =>
      simp only [hx, Option.map_eq_some_iff] at h
      obtain ⟨zs, hz, rfl⟩ := h
      exact .cons _ _ _ _ (opd_rep he hx) (opds_rep he hz)

section inv
variable {M : Mem} {R : Hm} {x : Value}
theorem Rep.bool_inv {b} (h : Rep M R (.bool b) x) : x = .bool b := by cases h; rfl
theorem Rep.int_inv {k n} (h : Rep M R (.int k n) x) : x = .int k n := by cases h; rfl
theorem Rep.flt_inv {k n} (h : Rep M R (.flt k n) x) : x = .float k n := by cases h; rfl
theorem Rep.str_inv {l} (h : Rep M R (.str l) x) : ∃ s : ByteArray, x = .string s ∧ l = s.data.toList := by cases h; exact ⟨_, rfl, rfl⟩
end inv

/-! binary operations -/
theorem binOp_ints {op : BinOp} (hs : op ≠ .shl ∧ op ≠ .shr) (t : TypeId) (k : IntKind) (x y : Int) :
    binOp op t (.int k x) (.int k y) = (match op with
      | .add | .sub | .mul => Op.intArith op k x y
      | .quo | .rem => Op.intDiv op k x y
      | .and | .or | .xor | .andNot => Op.intBits op k x y
      | _ => Op.intCmp op x y) := by
  cases op <;> first
    | (exact absurd rfl hs.1)
    | (exact absurd rfl hs.2)
    | (simp only [binOp, ne_eq, not_true_eq_false, if_false])

theorem intBin_ok {P : Program} {w : World} {op : BinOp} {k : IntKind} {x y : Int} {v : V} (h : intBin op k x y = some v)
    (t : TypeId) (hs : op ≠ .shl ∧ op ≠ .shr) : ∃ z, (binOp op t (.int k x) (.int k y)).run P w = .ok z w ∧ ∀ M R, Rep M R v z := by
  rw [binOp_ints hs]
  cases op <;> simp only [intBin] at h ⊢
  case quo =>
    split at h
    · cases h
    · rename_i hy
      cases h
      refine ⟨_, ?_, fun M R => .int _ _⟩
      simp only [Op.intDiv, hy, if_false]; rfl
  case rem =>
    split at h
    · cases h
    · rename_i hy
      cases h
      refine ⟨_, ?_, fun M R => .int _ _⟩
      simp only [Op.intDiv, hy, if_false]; rfl
  all_goals first
    | (cases h; done)
    | (cases h; exact ⟨_, rfl, fun M R => .int _ _⟩)
    | (cases h; exact ⟨_, rfl, fun M R => .bool _⟩)
  all_goals exact absurd rfl (by first | exact hs.1 | exact hs.2)

theorem shiftBin_ok {P : Program} {w : World} {op : BinOp} {k k' : IntKind} {x y : Int} {v : V} (h : shiftBin op k x y = some v)
    (t : TypeId) : ∃ z, (binOp op t (.int k x) (.int k' y)).run P w = .ok z w ∧ ∀ M R, Rep M R v z := by
  simp only [shiftBin] at h
  split at h
  · cases h
  · rename_i hy
    cases op <;> simp only at h <;> first | (cases h; done) | skip
    all_goals
      cases h
      refine ⟨_, ?_, fun M R => .int _ _⟩
      simp only [binOp, Op.shift, hy, if_false]; rfl

theorem strBin_ok {P : Program} {w : World} {op : BinOp} {s s' : ByteArray} {v : V} (h : strBin op s.data.toList s'.data.toList = some v)
    (t : TypeId) : ∃ z, (binOp op t (.string s) (.string s')).run P w = .ok z w ∧ ∀ M R, Rep M R v z := by
  cases op <;> simp only [strBin] at h
  case add =>
    split at h
    · rename_i hl
      cases h
      have hl' : ¬ ((s.size + s'.size : Nat) : Int) > IntKind.i64.max := by
        simp only [ByteArray.size, Array.length_toList] at hl ⊢
        simp only [IntKind.max_i64]
        omega
      refine ⟨.string (s ++ s'), ?_, fun M R => ?_⟩
      · simp only [binOp, Op.stringOp, hl', if_false]; rfl
      · have := Rep.str (M := M) (R := R) (s ++ s')
        simpa using this
    · cases h
  all_goals first
    | (cases h; done)
    | (cases h
       refine ⟨_, ?_, fun M R => .bool _⟩
       simp only [binOp, Op.stringOp, ByteArray.toList_eq]; rfl)

theorem fltBin_ok {P : Program} {w : World} {op : BinOp} {k : FloatKind} {x y : Nat} {v : V} (h : fltBin op k x y = some v)
    (t : TypeId) : ∃ z, (binOp op t (.float k x) (.float k y)).run P w = .ok z w ∧ ∀ M R, Rep M R v z := by
  cases op <;> simp only [fltBin] at h <;> first | (cases h; done) | skip
  all_goals
    cases h
    refine ⟨_, ?_, fun M R => .bool _⟩
    simp only [binOp, ne_eq, not_true_eq_false, if_false, Op.floatCmp]; rfl

end Ab

/-  Comparing, taking apart: operations that read their operands alone. -/
namespace Ab
open Go
variable [Globs]

theorem run_typeInfo {P : Program} {t : TypeId} {i : TypeInfo} (h : P.info? t = some i) (w : World) : (typeInfo t).run P w = .ok i w := by
  simp [typeInfo, h]
theorem run_sizeOf {P : Program} {t : TypeId} {n : Nat} (h : szOf P t = some n) (w : World) : (Go.sizeOf t).run P w = .ok n w := by
  simp only [szOf, Option.map_eq_some_iff] at h
  obtain ⟨i, hi, rfl⟩ := h
  simp [Go.sizeOf, typeInfo, hi]
theorem run_isAgg {P : Program} {t : TypeId} {b : Bool} (h : aggT P t = some b) (w : World) : (isAgg t).run P w = .ok b w := by
  unfold aggT at h
  cases hu : P.underlying t with
  | none => simp [hu] at h
  | some d =>
    simp only [isAgg, Sem.run_bind, run_underlying hu, Result.andThen_ok]
    cases d <;> simp [hu] at h <;> subst h <;> rfl
theorem run_zeroValue {P : Program} {t : TypeId} {z : V} (h : zeroOf P t = some z) (w : World) : ∃ x, (zeroValue t).run P w = .ok x w ∧ valV x = some z ∧ ∃ i, P.info? t = some i ∧ i.zero = some x := by
  unfold zeroOf at h
  split at h
  · rename_i i hi
    split at h
    · rename_i x hx
      exact ⟨x, by simp [zeroValue, typeInfo, hi, hx], h, i, hi, hx⟩
    · cases h
  · cases h

/-! a part of an aggregate -/
theorem takeN_some {cs r : List V} {off n : Nat} (h : takeN cs off n = some r) : off + n ≤ cs.length ∧ r = (cs.drop off).take n := by
  unfold takeN at h
  split at h
  · cases h; exact ⟨‹_›, rfl⟩
  · cases h

theorem run_part {P : Program} {M R w} {t : TypeId} {ag : Bool} {n : Nat} (ha : aggT P t = some ag) (hn : szOf P t = some n)
    {cs r : List V} {vs : List Value} {off : Nat} {v : V} (hr : RepL M R cs vs) (ht : takeN cs off (bif ag then n else 1) = some r) (hv : mkLoad ag r = some v) :
    ∃ x, (part t vs.toArray off).run P w = .ok x w ∧ Rep M R v x := by
  obtain ⟨hl, rfl⟩ := takeN_some ht
  cases ag with
  | true =>
    simp only [mkLoad, cond_true, Option.some.injEq] at hv hl; subst hv
    refine ⟨.agg ((vs.drop off).take n).toArray, ?_, .agg _ _ ((hr.drop off).take n)⟩
    simp only [part, Sem.run_bind, run_isAgg ha, Result.andThen_ok, if_true, run_sizeOf hn, Sem.run_pure]
    congr 2
    simp [List.drop_take]
  | false =>
    simp only [mkLoad, cond_false] at hv hl
    obtain ⟨x, hx, hrep⟩ := hr.get (i := off) (v := v) (by
      rw [List.getElem?_take] at hv
      simpa using hv)
    refine ⟨x, ?_, hrep⟩
    simp only [part, Sem.run_bind, run_isAgg ha, Result.andThen_ok, Bool.false_eq_true, if_false]
    rw [show (vs.toArray)[off]? = some x by simpa using hx]
    rfl

/-! equality, cell by cell -/
theorem cellsEq_len {ks : List Leaf} {xs ys : List V} {r : Bool} (h : cellsEq ks xs ys = some r) : xs.length = ks.length ∧ ys.length = ks.length := by
  induction ks generalizing xs ys r with
  | nil => cases xs <;> cases ys <;> simp [cellsEq] at h <;> simp
  | cons k ks ih =>
    cases xs <;> cases ys <;> simp only [cellsEq] at h <;> first | (cases h; done) | skip
    split at h
    · have := ih h; simp [this.1, this.2]
    · split at h
      · rename_i hh; have := ih hh; simp [this.1, this.2]
      · cases h
    · cases h

theorem cellsEq_append {ks ls : List Leaf} {xs ys xs' ys' : List V} {r : Bool} (hl : xs.length = ks.length) (hl' : ys.length = ks.length)
    (h : cellsEq (ks ++ ls) (xs ++ xs') (ys ++ ys') = some r) : ∃ a b, cellsEq ks xs ys = some a ∧ cellsEq ls xs' ys' = some b ∧ r = (a && b) := by
  induction ks generalizing xs ys r with
  | nil =>
    obtain rfl := List.eq_nil_of_length_eq_zero hl
    obtain rfl := List.eq_nil_of_length_eq_zero hl'
    exact ⟨true, r, rfl, by simpa using h, by simp⟩
  | cons k ks ih =>
    cases xs with
    | nil => simp at hl
    | cons x xs =>
      cases ys with
      | nil => simp at hl'
      | cons y ys =>
        simp only [List.cons_append, cellsEq] at h ⊢
        cases hc : cellEq k x y with
        | none => simp [hc] at h
        | some t =>
          simp only [hc] at h ⊢
          cases t with
          | true =>
            obtain ⟨a, b, h1, h2, h3⟩ := ih (by simpa using hl) (by simpa using hl') h
            exact ⟨a, b, h1, h2, h3⟩
          | false =>
            simp only at h
            split at h
            · rename_i q hq
              cases h
              obtain ⟨a, b, h1, h2, h3⟩ := ih (by simpa using hl) (by simpa using hl') hq
              exact ⟨false, b, by simp [h1], h2, by simp⟩
            · cases h

theorem take_drop_mid {α : Type} (l : List α) (o n : Nat) : l.drop o = (l.drop o).take n ++ l.drop (o + n) := by
  rw [← List.drop_drop, List.take_append_drop]

theorem flatK_fold_none (P : Program) (d : Nat) (fs : List Field) :
    fs.foldl (fun acc f => match acc, flatK P d f.type, szOf P f.type with
        | some ks, some ls, some n => bif f.name != "_" && Nat.beq f.offset ks.length && Nat.beq n ls.length then some (ks ++ ls) else none
        | _, _, _ => none) none = none := by
  induction fs with
  | nil => rfl
  | cons f fs ih => simpa using ih

theorem flatK_agg {P : Program} {d t ks} (h : flatK P d t = some ks) : ∃ ag, aggT P t = some ag := by
  cases d with
  | zero => simp [flatK] at h
  | succ d =>
    unfold flatK at h
    unfold aggT
    cases hu : P.underlying t with
    | none => simp [hu] at h
    | some u => cases u <;> simp

def FlatAt (P : Program) (w : World) (d k : Nat) : Prop := ∀ (t : TypeId) (ks : List Leaf) (n : Nat), flatK P d t = some ks → szOf P t = some n → n = ks.length →
    ∀ (M : Mem) (R : Hm) (xs ys : List V) (as bs : List Value) (off : Nat) (r : Bool), RepL M R xs as → RepL M R ys bs → off + n ≤ xs.length → off + n ≤ ys.length →
      cellsEq ks ((xs.drop off).take n) ((ys.drop off).take n) = some r →
      ∃ a b, (part t as.toArray off).run P w = .ok a w ∧ (part t bs.toArray off).run P w = .ok b w ∧ (Op.equalIn k t a b).run P w = .ok r w

theorem fields_flat (P : Program) (w : World) (d k : Nat) (ih : FlatAt P w d k) {M : Mem} {R : Hm} {X Y : List V} {pa pb : List Value} (hpa : RepL M R X pa) (hpb : RepL M R Y pb) :
    ∀ (l : List Field) (acc : List Leaf) (ks : List Leaf), l.foldl (fun acc f => match acc, flatK P d f.type, szOf P f.type with
        | some ks, some ls, some n => bif f.name != "_" && Nat.beq f.offset ks.length && Nat.beq n ls.length then some (ks ++ ls) else none
        | _, _, _ => none) (some acc) = some ks →
      acc.length ≤ X.length → acc.length ≤ Y.length → ∀ (q : Bool) (rest : List Leaf), ks = acc ++ rest → cellsEq rest (X.drop acc.length) (Y.drop acc.length) = some q →
        (Op.eqFields k pa.toArray pb.toArray l).run P w = .ok q w := by
  intro l
  induction l with
  | nil =>
    intro acc ks hk hX hY q rest hr hq
    simp only [List.foldl_nil, Option.some.injEq] at hk
    subst hk
    have : rest = [] := by simpa using hr.symm
    subst this
    have := cellsEq_len hq
    have e1 := List.eq_nil_of_length_eq_zero this.1
    have e2 := List.eq_nil_of_length_eq_zero this.2
    rw [e1, e2] at hq
    simp only [cellsEq, Option.some.injEq] at hq
    subst hq
    rfl
  | cons f l ihl =>
    intro acc ks hk hX hY q rest hr hq
    simp only [List.foldl_cons] at hk
    cases hf : flatK P d f.type with
    | none => rw [hf] at hk; simp only at hk; rw [flatK_fold_none] at hk; cases hk
    | some ls =>
      cases hz : szOf P f.type with
      | none => rw [hf, hz] at hk; simp only at hk; rw [flatK_fold_none] at hk; cases hk
      | some m =>
        rw [hf, hz] at hk
        simp only at hk
        cases hcond : (f.name != "_" && Nat.beq f.offset acc.length && Nat.beq m ls.length) with
        | false => rw [hcond] at hk; simp only [cond_false] at hk; rw [flatK_fold_none] at hk; cases hk
        | true =>
          rw [hcond] at hk
          simp only [cond_true] at hk
          simp only [Bool.and_eq_true, bne_iff_ne] at hcond
          obtain ⟨⟨hname, hoff⟩, hm⟩ := hcond
          have hoff := Nat.eq_of_beq_eq_true hoff
          have hm := Nat.eq_of_beq_eq_true hm
          -- what is left begins with this field's cells
          obtain ⟨rest', hrest'⟩ : ∃ rest', ks = (acc ++ ls) ++ rest' := by
            clear ihl hq hr
            generalize acc ++ ls = acc' at hk
            induction l generalizing acc' with
            | nil => simp only [List.foldl_nil, Option.some.injEq] at hk; exact ⟨[], by simp [hk]⟩
            | cons g l ih2 =>
              simp only [List.foldl_cons] at hk
              split at hk
              · rename_i a b c h1 h2 h3
                cases h1
                cases hb : (g.name != "_" && Nat.beq g.offset acc'.length && Nat.beq c b.length) with
                | false => rw [hb] at hk; simp only [cond_false] at hk; rw [flatK_fold_none] at hk; cases hk
                | true =>
                  rw [hb] at hk; simp only [cond_true] at hk
                  obtain ⟨r', hr'⟩ := ih2 _ hk
                  exact ⟨b ++ r', by rw [hr']; simp⟩
              · rw [flatK_fold_none] at hk; cases hk
          have hre : rest = ls ++ rest' := by
            rw [hr, List.append_assoc] at hrest'
            exact List.append_cancel_left hrest'
          subst hre
          have hlen := cellsEq_len hq
          simp only [List.length_append, List.length_drop] at hlen
          rw [take_drop_mid X acc.length m, take_drop_mid Y acc.length m] at hq
          obtain ⟨qa, qb, h1, h2, h3⟩ := cellsEq_append (by simp; omega) (by simp; omega) hq
          obtain ⟨va, vb, p1, p2, p3⟩ := ih f.type ls m hf hz hm M R X Y pa pb acc.length qa hpa hpb (by omega) (by omega) h1
          simp only [Op.eqFields, hname, ne_eq, not_false_eq_true, if_true, Sem.run_bind, hoff, p1, p2, p3, Result.andThen_ok]
          cases qa with
          | false => subst h3; simp
          | true =>
            simp only [Bool.not_true, Bool.false_eq_true, if_false]
            rw [h3, Bool.true_and]
            exact ihl (acc ++ ls) ks hk (by simp; omega) (by simp; omega) qb rest' hrest' (by rw [List.length_append, ← hm]; exact h2)

/-- The value that lies at a place among cells, by type. -/
theorem equalIn_flat (P : Program) (w : World) : ∀ (d k : Nat) (t : TypeId) (ks : List Leaf) (n : Nat), flatK P d t = some ks → szOf P t = some n → n = ks.length → d ≤ k →
    ∀ (M : Mem) (R : Hm) (xs ys : List V) (as bs : List Value) (off : Nat) (r : Bool), RepL M R xs as → RepL M R ys bs → off + n ≤ xs.length → off + n ≤ ys.length →
      cellsEq ks ((xs.drop off).take n) ((ys.drop off).take n) = some r →
      ∃ a b, (part t as.toArray off).run P w = .ok a w ∧ (part t bs.toArray off).run P w = .ok b w ∧ (Op.equalIn k t a b).run P w = .ok r w := by
  intro d
  induction d with
  | zero => intro k t ks n h; simp [flatK] at h
  | succ d ih =>
    intro k t ks n h hn hnl hdk M R xs ys as bs off r hx hy hlx hly hc
    obtain ⟨k, rfl⟩ : ∃ j, k = j + 1 := ⟨k - 1, by omega⟩
    obtain ⟨ag, hag⟩ := flatK_agg h
    unfold flatK at h
    cases hu : P.underlying t with
    | none => simp [hu] at h
    | some u =>
      simp only [hu] at h
      have scalar : ∀ (l : Leaf), ks = [l] → ag = false → ∃ va vb a b, cellEq l va vb = some r ∧ Rep M R va a ∧ Rep M R vb b ∧
          (part t as.toArray off).run P w = .ok a w ∧ (part t bs.toArray off).run P w = .ok b w := by
        intro l hl hf
        subst hl
        have hn1 : n = 1 := by simpa using hnl
        subst hn1
        subst hf
        have lx : off < xs.length := by omega
        have ly : off < ys.length := by omega
        have ex : (xs.drop off).take 1 = [xs[off]] := by
          rw [List.drop_eq_getElem_cons lx]; rfl
        have ey : (ys.drop off).take 1 = [ys[off]] := by
          rw [List.drop_eq_getElem_cons ly]; rfl
        rw [ex, ey] at hc
        obtain ⟨a, ha, hra⟩ := run_part (P := P) (w := w) hag hn hx (off := off) (v := xs[off]) (r := [xs[off]]) (by simp [takeN, ex]; omega) rfl
        obtain ⟨b, hb, hrb⟩ := run_part (P := P) (w := w) hag hn hy (off := off) (v := ys[off]) (r := [ys[off]]) (by simp [takeN, ey]; omega) rfl
        refine ⟨xs[off], ys[off], a, b, ?_, hra, hrb, ha, hb⟩
        simp only [cellsEq] at hc
        split at hc
        · rename_i hh; rw [hh]; exact hc
        · rename_i hh; rw [hh]; exact hc
        · cases hc
      cases u with
      | bool =>
        simp only [Option.some.injEq] at h
        obtain ⟨va, vb, a, b, h1, h2, h3, h4, h5⟩ := scalar _ h.symm (by simpa [aggT, hu] using hag.symm)
        refine ⟨a, b, h4, h5, ?_⟩
        cases va <;> cases vb <;> simp [cellEq] at h1
        subst h1
        rw [h2.bool_inv, h3.bool_inv]
        exact run_equalIn_bool' w k t _ _ hu
      | int kk =>
        simp only [Option.some.injEq] at h
        obtain ⟨va, vb, a, b, h1, h2, h3, h4, h5⟩ := scalar _ h.symm (by simpa [aggT, hu] using hag.symm)
        refine ⟨a, b, h4, h5, ?_⟩
        cases va <;> cases vb <;> simp [cellEq] at h1
        obtain ⟨rfl, rfl⟩ := h1
        rw [h2.int_inv, h3.int_inv]
        exact run_equalIn_int w k t _ _ _ _ hu
      | string =>
        simp only [Option.some.injEq] at h
        obtain ⟨va, vb, a, b, h1, h2, h3, h4, h5⟩ := scalar _ h.symm (by simpa [aggT, hu] using hag.symm)
        refine ⟨a, b, h4, h5, ?_⟩
        cases va <;> cases vb <;> simp [cellEq] at h1
        subst h1
        obtain ⟨s, rfl, rfl⟩ := h2.str_inv
        obtain ⟨s', rfl, rfl⟩ := h3.str_inv
        rw [run_equalIn_string w k t _ _ hu, ByteArray.toList_eq, ByteArray.toList_eq]
      | struct fs =>
        have hsi : P.stoodInHeld t = false := by
          cases hh : P.stoodInHeld t
          · rfl
          · simp [hh] at h
        simp only [hsi, cond_false] at h
        have htrue : ag = true := by simpa [aggT, hu] using hag.symm
        subst htrue
        obtain ⟨a, ha, hra⟩ := run_part (P := P) (w := w) hag hn hx (off := off) (v := .agg ((xs.drop off).take n)) (r := (xs.drop off).take n) (by simp only [takeN, cond_true, if_pos hlx]) rfl
        obtain ⟨b, hb, hrb⟩ := run_part (P := P) (w := w) hag hn hy (off := off) (v := .agg ((ys.drop off).take n)) (r := (ys.drop off).take n) (by simp only [takeN, cond_true, if_pos hly]) rfl
        refine ⟨a, b, ha, hb, ?_⟩
        cases hra with
        | agg _ pa hpa =>
          cases hrb with
          | agg _ pb hpb =>
            have hfs : P.underlying t = some (.struct (P.fieldsOf t)) := by simp [Program.fieldsOf, hu]
            have hfe : P.fieldsOf t = fs := by simp [Program.fieldsOf, hu]
            rw [run_equalIn_struct w k t _ _ hfs hsi, hfe]
            generalize (xs.drop off).take n = X at hc hpa
            generalize (ys.drop off).take n = Y at hc hpb
            exact fields_flat P w d k (fun t ks n h1 h2 h3 M R xs ys as bs off r => ih k t ks n h1 h2 h3 (by omega) M R xs ys as bs off r) hpa hpb fs.toList [] ks h (by simp) (by simp) r ks rfl (by simpa using hc)
      | _ => simp at h

section
variable {P : Program} {t : TypeId} (d : Nat) (w : World)
theorem eqPtr_nn {e} (hu : P.underlying t = some (.pointer e)) (d : Nat) (w : World) : (Op.equalIn (d + 1) t (.pointer none) (.pointer none)).run P w = .ok true w := by simp [Op.equalIn, run_underlying hu]
theorem eqPtr_ns {e} (hu : P.underlying t = some (.pointer e)) (d : Nat) (w : World) (a : Addr) : (Op.equalIn (d + 1) t (.pointer none) (.pointer (some a))).run P w = .ok false w := by simp [Op.equalIn, run_underlying hu]
theorem eqPtr_sn {e} (hu : P.underlying t = some (.pointer e)) (d : Nat) (w : World) (a : Addr) : (Op.equalIn (d + 1) t (.pointer (some a)) (.pointer none)).run P w = .ok false w := by simp [Op.equalIn, run_underlying hu]
theorem equ_nn (hu : P.underlying t = some .unsafePointer) (d : Nat) (w : World) : (Op.equalIn (d + 1) t (.pointer none) (.pointer none)).run P w = .ok true w := by simp [Op.equalIn, run_underlying hu, samePointer]
theorem equ_ns (hu : P.underlying t = some .unsafePointer) (d : Nat) (w : World) (a : Addr) : (Op.equalIn (d + 1) t (.pointer none) (.pointer (some a))).run P w = .ok false w := by simp [Op.equalIn, run_underlying hu, samePointer]
theorem equ_sn (hu : P.underlying t = some .unsafePointer) (d : Nat) (w : World) (a : Addr) : (Op.equalIn (d + 1) t (.pointer (some a)) (.pointer none)).run P w = .ok false w := by simp [Op.equalIn, run_underlying hu, samePointer]
theorem eqMap_nn {a b} (hu : P.underlying t = some (.map a b)) (d : Nat) (w : World) : (Op.equalIn (d + 1) t (.map none) (.map none)).run P w = .ok true w := by simp [Op.equalIn, run_underlying hu]
theorem eqMap_ns {a b} (hu : P.underlying t = some (.map a b)) (d : Nat) (w : World) (r : Nat) : (Op.equalIn (d + 1) t (.map none) (.map (some r))).run P w = .ok false w := by simp [Op.equalIn, run_underlying hu]
theorem eqMap_sn {a b} (hu : P.underlying t = some (.map a b)) (d : Nat) (w : World) (r : Nat) : (Op.equalIn (d + 1) t (.map (some r)) (.map none)).run P w = .ok false w := by simp [Op.equalIn, run_underlying hu]
end

theorem eqPtr_same {P : Program} {t e : TypeId} {j : TypeInfo} (hu : P.underlying t = some (.pointer e)) (hj : P.info? e = some j) (d : Nat) (w : World) (a : Addr) : (Op.equalIn (d + 1) t (.pointer (some a)) (.pointer (some a))).run P w = .ok true w := by
  simp [Op.equalIn, run_underlying hu, Go.sizeOf, typeInfo, hj, run_sameAddr_same]

theorem eqV_ok {P : Program} {M R w} {neg : Bool} {t : TypeId} {k : EqK} (hk : eqK P t = some k) {op : BinOp} (hop : op = (bif neg then .neq else .eql)) {vx vy : V} {x y : Value} (ox oy : Operand)
    (hx : Rep M R vx x) (hy : Rep M R vy y) {r : Bool} (h : eqV k vx vy = some r) :
    (do eqGuard op t ox oy x y; binOp op t x y : Sem Value).run P w = .ok (.bool (bif neg then !r else r)) w := by
  have main : (Op.equalIn 10000 t x y).run P w = .ok r w ∧ (eqGuard op t ox oy x y).run P w = .ok () w ∧
      binOp .eql t x y = (do pure (.bool (← Op.equal t x y))) ∧ binOp .neq t x y = (do pure (.bool (!(← Op.equal t x y)))) := by
    unfold eqK at hk
    cases hu : P.underlying t with
    | none => simp [hu] at hk
    | some u =>
      simp only [hu] at hk
      cases u with
      | bool =>
        cases hk
        cases vx <;> cases vy <;> simp only [eqV] at h <;> first | (cases h; done) | skip
        cases h
        rw [hx.bool_inv, hy.bool_inv]
        exact ⟨run_equalIn_bool' w 9999 t _ _ hu, by cases op <;> rfl, rfl, rfl⟩
      | pointer el =>
       simp only at hk
       split at hk
       · rename_i n hn
         cases hk
         have hinfo : ∃ j, P.info? el = some j := by
           unfold szOf at hn
           cases hj : P.info? el with
           | none => rw [hj] at hn; cases hn
           | some j => exact ⟨j, rfl⟩
         obtain ⟨j, hj⟩ := hinfo
         cases vx <;> cases vy <;> simp only [eqV] at h <;> first | (cases h; done) | skip
         case ptr.ptr h1 o1 h2 o2 =>
           split at h
           · rename_i hc
             obtain ⟨rfl, rfl⟩ := hc
             cases h
             cases hx with
             | ptr _ _ b c n hr => cases hy with
               | ptr _ _ b' c' n' hr' =>
                 rw [hr] at hr'; cases hr'
                 refine ⟨?_, by cases op <;> rfl, rfl, rfl⟩
                 exact eqPtr_same hu hj 9999 w _
           · cases h
         all_goals
          cases h
          cases hx
          cases hy
          refine ⟨?_, by cases op <;> rfl, rfl, rfl⟩
          first | exact eqPtr_nn hu 9999 w | exact eqPtr_ns hu 9999 w _ | exact eqPtr_sn hu 9999 w _
       · cases hk
         cases vx <;> cases vy <;> simp only [eqV] at h <;> first | (cases h; done) | skip
         all_goals
          cases h
          cases hx
          cases hy
          refine ⟨?_, by cases op <;> rfl, rfl, rfl⟩
          first | exact eqPtr_nn hu 9999 w | exact eqPtr_ns hu 9999 w _ | exact eqPtr_sn hu 9999 w _
      | unsafePointer =>
        cases hk
        cases vx <;> cases vy <;> simp only [eqV] at h <;> first | (cases h; done) | skip
        all_goals
          cases h
          cases hx
          cases hy
          refine ⟨?_, by cases op <;> rfl, rfl, rfl⟩
          first | exact equ_nn hu 9999 w | exact equ_ns hu 9999 w _ | exact equ_sn hu 9999 w _
      | map a b =>
        cases hk
        cases vx <;> cases vy <;> simp only [eqV] at h <;> first | (cases h; done) | skip
        all_goals
          cases h
          cases hx
          cases hy
          refine ⟨?_, by cases op <;> rfl, rfl, rfl⟩
          first | exact eqMap_nn hu 9999 w | exact eqMap_ns hu 9999 w _ | exact eqMap_sn hu 9999 w _
      | struct fs =>
        cases hg : P.eqGuardType P.depth t with
        | true => simp [hg] at hk
        | false =>
          simp only [hg, cond_false, Option.map_eq_some_iff] at hk
          obtain ⟨ks, hks, rfl⟩ := hk
          cases vx <;> cases vy <;> simp only [eqV] at h <;> first | (cases h; done) | skip
          rename_i cx cy
          cases hx with
          | agg _ pa hpa =>
            cases hy with
            | agg _ pb hpb =>
              refine ⟨?_, run_eqGuard_agg w op t ox oy _ _ hg, rfl, rfl⟩
              have hlen := cellsEq_len h
              have hfs : P.underlying t = some (.struct (P.fieldsOf t)) := by simp [Program.fieldsOf, hu]
              have hfe : P.fieldsOf t = fs := by simp [Program.fieldsOf, hu]
              have hks' := hks
              unfold flatK at hks'
              simp only [hu] at hks'
              have hsi : P.stoodInHeld t = false := by
                cases hh : P.stoodInHeld t
                · rfl
                · simp [hh] at hks'
              simp only [hsi, cond_false] at hks'
              rw [run_equalIn_struct w 9999 t _ _ hfs hsi, hfe]
              exact fields_flat P w 5 9999 (fun t ks n h1 h2 h3 M R xs ys as bs off r => equalIn_flat P w 5 9999 t ks n h1 h2 h3 (by omega) M R xs ys as bs off r) hpa hpb fs.toList [] ks hks' (by simp) (by simp) r ks rfl (by simpa using h)
      | _ => cases hk
  obtain ⟨h1, h2, h3, h4⟩ := main
  simp only [Sem.run_bind, h2, Result.andThen_ok]
  cases neg with
  | false =>
    simp only [cond_false] at hop ⊢
    subst hop
    rw [h3]
    simp [Op.equal, Op.maxDepth, h1]
  | true =>
    simp only [cond_true] at hop ⊢
    subst hop
    rw [h4]
    simp [Op.equal, Op.maxDepth, h1]

end Ab

/-  Building values; slicing; addresses. -/
namespace Ab
open Go
variable [Globs]

theorem valV_cells {x : Value} {v : V} (h : valV x = some v) : v.oneCell = true ∨ ∃ cs, v = .agg cs := by
  unfold valV at h
  split at h <;> first
    | (cases h; exact .inl rfl)
    | (simp only [Option.map_eq_some_iff] at h; obtain ⟨a, _, rfl⟩ := h; exact .inr ⟨a, rfl⟩)
    | (cases h; done)

theorem zero_rep {P : Program} {t : TypeId} {z : V} (h : zeroOf P t = some z) (w : World) (M : Mem) (R : Hm) :
    ∃ x, (zeroValue t).run P w = .ok x w ∧ Rep M R z x ∧ RepL M R z.cells x.cells.toList ∧ ∃ i, P.info? t = some i ∧ i.zero = some x := by
  obtain ⟨x, h1, h2, h3⟩ := run_zeroValue h w
  have hr := valV_rep M R h2
  exact ⟨x, h1, hr, hr.cells (valV_cells h2), h3⟩

theorem oneCells {v : V} (h : v.cells.all V.oneCell = true) : v.oneCell = true ∨ ∃ cs, v = .agg cs := by
  cases v <;> first
    | exact .inr ⟨_, rfl⟩
    | (refine .inl ?_; simpa [V.cells] using h)

theorem Rep.cells' {M R v x} (h : Rep M R v x) (hv : v.cells.all V.oneCell = true) : RepL M R v.cells x.cells.toList := h.cells (oneCells hv)

/-! parts laid over cells -/
theorem splice_fold {M R} : ∀ (ws : List V) (ys : List Value) (vs : List V) (arr : Array Value) (o j : Nat), RepL M R vs arr.toList → RepL M R ws ys →
    RepL M R (splice vs (o + j) ws) ((ys.zipIdx j).foldl (fun (cs : Array Value) (p : Value × Nat) => cs.setIfInBounds (o + p.2) p.1) arr).toList
  | [], _, vs, arr, o, j, h, .nil => by simpa [splice] using h
  | w :: ws, _, vs, arr, o, j, h, .cons _ y _ ys hw hs => by
    simp only [splice, List.zipIdx_cons, List.foldl_cons]
    have := splice_fold ws ys (vs.set (o + j) w) (arr.setIfInBounds (o + j) y) o (j + 1) (by simpa using h.set (o + j) hw) hs
    rw [show o + j + 1 = o + (j + 1) by omega]
    exact this

theorem splice_len (vs : List V) (o : Nat) (ws : List V) : (splice vs o ws).length = vs.length := by
  induction ws generalizing vs o with
  | nil => rfl
  | cons w ws ih => simp [splice, ih]

theorem fill_ok {M R} {place : Nat → Option (Nat × Nat)} : ∀ (ps : List (Nat × Value)) (qs : List (Nat × Nat × V)) (zs cs : List V) (arr : Array Value),
    RepL M R zs arr.toList → fillV zs qs = some cs →
    (∀ i : Nat, match ps[i]?, qs[i]? with
      | some p, some q => place p.1 = some (q.1, q.2.1) ∧ Rep M R q.2.2 p.2
      | none, none => True
      | _, _ => False) →
    ∃ out, Instr.fill place arr ps = some out ∧ RepL M R cs out.toList
  | [], [], zs, cs, arr, hz, hf, _ => by
    simp only [fillV, Option.some.injEq] at hf; subst hf
    exact ⟨arr, rfl, hz⟩
  | [], q :: qs, zs, cs, arr, hz, hf, h => by have := h 0; simp at this
  | p :: ps, [], zs, cs, arr, hz, hf, h => by have := h 0; simp at this
  | (i, x) :: ps, (off, n, v) :: qs, zs, cs, arr, hz, hf, h => by
    have h0 := h 0
    simp only [List.getElem?_cons_zero] at h0
    obtain ⟨hp, hr⟩ := h0
    simp only [fillV] at hf
    split at hf
    · rename_i hl
      have hc := hr.cells' hl.2.2
      have hsz : x.cells.size = n := by
        have := hc.length; simp only [Array.length_toList] at this; omega
      have hal := hz.length
      simp only [Array.length_toList] at hal
      simp only [Instr.fill, hp]
      rw [if_neg (by simp; omega)]
      have hs := splice_fold v.cells x.cells.toList zs arr off 0 hz hc
      rw [Nat.add_zero] at hs
      obtain ⟨out, h1, h2⟩ := fill_ok ps qs _ cs _ hs hf (fun i => by have := h (i + 1); simpa using this)
      refine ⟨out, ?_, h2⟩
      rw [← h1]
      congr 1
      rw [← Array.foldl_toList]
      simp
    · cases hf

theorem fieldPlaces_run {P : Program} (w : World) : ∀ (fs : List Field) (pl : List (Nat × Nat)), fieldPlaces P fs = some pl →
    (fs.mapM (fun f => do pure (f.offset, ← Go.sizeOf f.type)) : Sem (List (Nat × Nat))).run P w = .ok pl w
  | [], pl, h => by simp only [fieldPlaces, Option.some.injEq] at h; subst h; rfl
  | f :: fs, pl, h => by
    simp only [fieldPlaces] at h
    cases hz : szOf P f.type with
    | none => simp [hz] at h
    | some n =>
      simp only [hz, Option.map_eq_some_iff] at h
      obtain ⟨r, hr, rfl⟩ := h
      have := fieldPlaces_run w fs r hr
      rw [List.mapM_cons]
      simp only [Sem.run_bind, run_sizeOf hz, Result.andThen_ok, Sem.run_pure, this]

theorem trParts_rep {M R e} {a : Act} (he : RepEnv M R e a.tmps) {place : Nat → Option (Nat × Nat)} : ∀ (ps : List (Nat × Operand)) (qs : List (Nat × Nat × Opd)), trParts place ps = some qs →
    ∀ i : Nat, match (ps.map fun p => (p.1, a.eval p.2))[i]?, (qs.map fun q => (q.1, q.2.1, q.2.2.get e))[i]? with
      | some p, some q => place p.1 = some (q.1, q.2.1) ∧ Rep M R q.2.2 p.2
      | none, none => True
      | _, _ => False
  | [], qs, h => by simp only [trParts, Option.some.injEq] at h; subst h; intro i; simp
  | (j, x) :: ps, qs, h => by
    simp only [trParts] at h
    cases hp : place j with
    | none => simp [hp] at h
    | some on =>
      obtain ⟨o, n⟩ := on
      cases hx : trOpd x with
      | none => simp [hp, hx] at h
      | some y =>
        simp only [hp, hx, Option.map_eq_some_iff] at h
        obtain ⟨r, hr, rfl⟩ := h
        intro i
        cases i with
        | zero => simp only [List.map_cons, List.getElem?_cons_zero]; exact ⟨hp, opd_rep he hx⟩
        | succ i => simpa using trParts_rep he ps r hr i

end Ab

/-  Operations with memory. -/
namespace Ab
open Go
variable [Globs]

theorem flatten_take {α : Type} {sz : Nat} : ∀ (rows : List (List α)) (i : Nat) (r : List α), (∀ r ∈ rows, r.length = sz) → rows[i]? = some r →
    (rows.flatten.drop (i * sz)).take sz = r
  | [], i, r, _, h => by simp at h
  | x :: rows, 0, r, hl, h => by
    simp at h; subst h
    simp [hl x (by simp)]
  | x :: rows, i + 1, r, hl, h => by
    simp at h
    have := flatten_take rows i r (fun r hr => hl r (by simp [hr])) h
    rw [List.flatten_cons, Nat.add_mul, Nat.one_mul, Nat.add_comm, ← List.drop_drop, List.drop_left' (hl x (by simp))]
    exact this

theorem flatten_len {α : Type} {sz : Nat} : ∀ (rows : List (List α)), (∀ r ∈ rows, r.length = sz) → rows.flatten.length = rows.length * sz
  | [], _ => by simp
  | x :: rows, hl => by
    simp [flatten_len rows (fun r hr => hl r (by simp [hr])), hl x (by simp), Nat.add_mul, Nat.add_comm]

theorem splice_append {α : Type} (a b : List V) (off : Nat) (ws : List V) (h : off + ws.length ≤ b.length) : splice (a ++ b) (a.length + off) ws = a ++ splice b off ws := by
  induction ws generalizing b off with
  | nil => rfl
  | cons w ws ih =>
    simp only [splice, List.length_cons] at h ⊢
    rw [List.set_append_right _ _ (by omega), Nat.add_sub_cancel_left, Nat.add_assoc]
    exact ih (b.set off w) (off + 1) (by simp; omega)

theorem splice_append_left (a b : List V) (off : Nat) (ws : List V) (h : off + ws.length ≤ a.length) : splice (a ++ b) off ws = splice a off ws ++ b := by
  induction ws generalizing a off with
  | nil => rfl
  | cons w ws ih =>
    simp only [splice, List.length_cons] at h ⊢
    rw [List.set_append_left _ _ (by omega)]
    exact ih (a.set off w) (off + 1) (by simp; omega)

theorem flatten_splice {sz : Nat} : ∀ (rows : List (List V)) (i : Nat) (r : List V) (off : Nat) (ws : List V), (∀ r ∈ rows, r.length = sz) → rows[i]? = some r → off + ws.length ≤ r.length →
    (rows.set i (splice r off ws)).flatten = splice rows.flatten (i * sz + off) ws
  | [], i, r, off, ws, _, h, _ => by simp at h
  | x :: rows, 0, r, off, ws, hl, h, ho => by
    simp at h; subst h
    simp only [List.set_cons_zero, List.flatten_cons, Nat.zero_mul, Nat.zero_add]
    exact (splice_append_left _ _ _ _ ho).symm
  | x :: rows, i + 1, r, off, ws, hl, h, ho => by
    simp at h
    have ih := flatten_splice rows i r off ws (fun r hr => hl r (by simp [hr])) h ho
    simp only [List.set_cons_succ, List.flatten_cons, ih]
    have hx := hl x (by simp)
    rw [show (i + 1) * sz + off = x.length + (i * sz + off) by rw [hx, Nat.add_mul]; omega]
    refine (splice_append (α := V) _ _ _ _ ?_).symm
    have hr := hl r (by simp [List.mem_of_getElem? h])
    have hlen := flatten_len rows (fun r hr => hl r (by simp [hr]))
    have hi : i < rows.length := by
      rcases Nat.lt_or_ge i rows.length with h1 | h1
      · exact h1
      · rw [List.getElem?_eq_none h1] at h; cases h
    have : (i + 1) * sz ≤ rows.length * sz := Nat.mul_le_mul_right _ hi
    rw [Nat.add_mul] at this
    omega

theorem cells_get {w : World} {b : Nat} {vals : Array Value} {e : TypeId} {f : Nat × Nat} (h : w.heap[b]? = some (.cells vals e f)) (o : Nat) : w.cell? ⟨b, o, none⟩ = vals.toList[o]? := by
  simp [World.cell?, h]

/-- What is loaded lies there. -/
theorem load_cells {c M R S w} (hi : Inv c M R S w) {v : V} {x : Value} {n : Nat} {cs : List V} (hv : Rep M R v x) (hl : loadN S v n = some cs) :
    ∃ b off vals, x = .pointer (some ⟨b, off, none⟩) ∧ RepL M R cs vals ∧ cs.length = n ∧ ∀ j u, vals[j]? = some u → w.cell? ⟨b, off + j, none⟩ = some u := by
  cases v <;> simp only [loadN] at hl <;> first | (cases hl; done) | skip
  case ptr h off =>
    split at hl
    · rename_i all hat
      have ho := hi.good.objs h
      rw [hat] at ho
      obtain ⟨b, c', m, vals, hr, hh, hrl⟩ := ho
      obtain ⟨hle, rfl⟩ := takeN_some hl
      cases hv with
      | ptr _ _ b' c'' m' hr' =>
        rw [hr] at hr'; cases hr'
        refine ⟨b, off, (vals.toList.drop off).take n, rfl, (hrl.drop off).take n, by simp; omega, fun j u hj => ?_⟩
        rw [List.getElem?_take] at hj
        split at hj
        · rw [List.getElem?_drop] at hj
          rw [cells_get hh]; exact hj
        · cases hj
    · cases hl
  case gptr h ver i m off =>
    split at hl
    · rename_i v0 ag sz rows hat
      split at hl
      · rename_i hvm
        obtain ⟨rfl, rfl⟩ := hvm
        have ho := hi.good.objs h
        rw [hat] at ho
        obtain ⟨b, cap, vals, hr, hh, h1, h2, h3, hrl, _⟩ := ho
        cases hri : rows[i]? with
        | none => simp [hri] at hl
        | some r =>
          simp only [hri, Option.bind_some] at hl
          obtain ⟨hle, rfl⟩ := takeN_some hl
          cases hv with
          | gptr _ _ _ _ _ b' c'' hr' =>
            rw [hr] at hr'; cases hr'
            have hrow := flatten_take rows i r h3 hri
            have hrlen := h3 r (List.mem_of_getElem? hri)
            refine ⟨b, i * m + off, ((((vals.toList.take (rows.length * m)).drop (i * m)).take m).drop off).take n, rfl, ?_, by simp; omega, fun j u hj => ?_⟩
            · have := (((hrl.drop (i * m)).take m).drop off).take n
              rw [hrow] at this; exact this
            · rw [List.getElem?_take] at hj
              split at hj
              · rw [List.getElem?_drop, List.getElem?_take] at hj
                split at hj
                · rw [List.getElem?_drop, List.getElem?_take] at hj
                  split at hj
                  · rw [cells_get hh, Nat.add_assoc]; exact hj
                  · cases hj
                · cases hj
              · cases hj
      · cases hl
    · cases hl
  case ro all =>
    obtain ⟨hle, rfl⟩ := takeN_some hl
    cases hv with
    | ro _ b off ha =>
      obtain ⟨vals, hrl, hf⟩ := ha.vals
      refine ⟨b, off, vals.take n, rfl, by simpa using hrl.take n, by simp; omega, fun j u hj => ?_⟩
      rw [List.getElem?_take] at hj
      split at hj
      · exact hi.good.mem _ _ _ (hf j u hj)
      · cases hj

theorem addr_add (b off k : Nat) : (⟨b, off, none⟩ : Addr).add k = ⟨b, off + k, none⟩ := by
  unfold Addr.add
  split
  · rename_i h; subst h; rfl
  · rfl

theorem run_loadVar {P : Program} {c M R S w} (hi : Inv c M R S w) {t : TypeId} {ag : Bool} {n : Nat} (ha : aggT P t = some ag) (hn : szOf P t = some n)
    {v : V} {x : Value} {cs : List V} {u : V} (hv : Rep M R v x) (hl : loadN S v (bif ag then n else 1) = some cs) (hm : mkLoad ag cs = some u) :
    ∃ b off y, x = .pointer (some ⟨b, off, none⟩) ∧ (loadVar t ⟨b, off, none⟩).run P w = .ok y w ∧ Rep M R u y := by
  obtain ⟨b, off, vals, rfl, hrl, hlen, hf⟩ := load_cells hi hv hl
  cases ag with
  | true =>
    simp only [mkLoad, cond_true, Option.some.injEq] at hm hlen; subst hm
    refine ⟨b, off, .agg vals.toArray, rfl, ?_, .agg _ _ hrl⟩
    have := run_loadCells_list (P := P) w ⟨b, off, none⟩ vals (fun j u hj => by rw [addr_add]; exact hf j u hj)
    rw [← hrl.length, hlen] at this
    simp only [loadVar, Sem.run_bind, run_isAgg ha, Result.andThen_ok, if_true, run_sizeOf hn, this, Sem.run_pure]
  | false =>
    simp only [mkLoad, cond_false] at hm hlen
    obtain ⟨y, hy, hr⟩ := hrl.get hm
    refine ⟨b, off, y, rfl, ?_, hr⟩
    have := hf 0 y hy
    simp only [Nat.add_zero] at this
    simp only [loadVar, Sem.run_bind, run_isAgg ha, Result.andThen_ok, Bool.false_eq_true, if_false, run_load, this]

theorem op_load {P : Program} {c M R S w} (hi : Inv c M R S w) {t : TypeId} {ag : Bool} {n : Nat} (ha : aggT P t = some ag) (hn : szOf P t = some n)
    {v : V} {x : Value} {cs : List V} {u : V} (hv : Rep M R v x) (hl : loadN S v (bif ag then n else 1) = some cs) (hm : mkLoad ag cs = some u) : VOk P c M R (Instr.loadAt t x) w u S := by
  obtain ⟨b, off, y, rfl, hr, hu⟩ := run_loadVar hi ha hn hv hl hm
  exact VOk.pure hi (by simp only [Instr.loadAt, Instr.sureAddr, Sem.run_bind, Sem.run_pure, Result.andThen_ok, hr]) hu

theorem op_alloc {P : Program} {c M R S w} (hi : Inv c M R S w) {t : TypeId} {z : V} (hz : zeroOf P t = some z) : VOk P c M R (Instr.alloc t true (.tuple #[])) w (.ptr S.length 0) (S ++ [.box t z.cells]) := by
  obtain ⟨x, h1, _, h2, _⟩ := zero_rep hz w M R
  obtain ⟨hR, hinv⟩ := hi.newBox z.cells x.cells t h2
  refine ⟨.pointer (some ⟨w.heap.size, 0, none⟩), _, M, _, ?_, Mem.le_refl M, hR, hinv, .ptr _ _ _ _ _ (Hm.put_same _ _ _ _)⟩
  simp only [Instr.alloc, Sem.run_bind, h1, Result.andThen_ok, newVar, newRow, run_newObj, Sem.run_pure]
  rfl

theorem op_box {P : Program} {c M R S w} (hi : Inv c M R S w) {t : TypeId} {v : V} {x : Value} (hv : Rep M R v x) (ho : v.cells.all V.oneCell = true) :
    VOk P c M R (Instr.box t x) w (.ptr S.length 0) (S ++ [.box t v.cells]) := by
  obtain ⟨hR, hinv⟩ := hi.newBox v.cells x.cells t (hv.cells' ho)
  refine ⟨.pointer (some ⟨w.heap.size, 0, none⟩), _, M, _, ?_, Mem.le_refl M, hR, hinv, .ptr _ _ _ _ _ (Hm.put_same _ _ _ _)⟩
  simp only [Instr.box, Sem.run_bind, Result.andThen_ok, newVar, newRow, run_newObj, Sem.run_pure]
  rfl

theorem op_build_struct {P : Program} {c M R S w e} {a : Act} (hi : Inv c M R S w) (he : RepEnv M R e a.tmps) {t : TypeId} {z : V} {fs : Array Field} {pl : List (Nat × Nat)} {ps : Array (Nat × Operand)} {qs : List (Nat × Nat × Opd)} {cs : List V}
    (hz : zeroOf P t = some z) (hu : P.underlying t = some (.struct fs)) (hpl : fieldPlaces P fs.toList = some pl) (hq : trParts (fun i => pl[i]?) ps.toList = some qs)
    (hf : fillV z.cells (qs.map fun p => (p.1, p.2.1, p.2.2.get e)) = some cs) : VOk P c M R (Instr.build t (ps.map fun (i, x) => (i, a.eval x))) w (.agg cs) S := by
  obtain ⟨x, h1, _, h2, _⟩ := zero_rep hz w M R
  obtain ⟨out, h3, h4⟩ := fill_ok (ps.toList.map fun p => (p.1, a.eval p.2)) _ z.cells cs x.cells h2 hf (trParts_rep he ps.toList qs hq)
  have hmap : (fs.mapM (fun f => do pure (f.offset, ← Go.sizeOf f.type)) : Sem (Array (Nat × Nat))).run P w = .ok pl.toArray w := by
    have := fieldPlaces_run w fs.toList pl hpl
    rw [Array.mapM_eq_mapM_toList, Sem.run_map, this]
    rfl
  refine VOk.pure hi ?_ (by have := Rep.agg (M := M) (R := R) cs out.toList h4; simpa using this)
  simp only [Instr.build, Sem.run_bind, h1, Result.andThen_ok, run_underlying hu, hmap]
  have e1 : (fun i : Nat => (pl.toArray)[i]?) = fun i => pl[i]? := by funext i; simp
  simp only [Array.toList_map, e1]
  rw [show (List.map (fun (x : Nat × Operand) => match x with | (i, x) => (i, a.eval x)) ps.toList) = ps.toList.map (fun p => (p.1, a.eval p.2)) from rfl, h3]
  simp

theorem op_build_array {P : Program} {c M R S w e} {a : Act} (hi : Inv c M R S w) (he : RepEnv M R e a.tmps) {t : TypeId} {z : V} {k : Nat} {et : TypeId} {n : Nat} {ps : Array (Nat × Operand)} {qs : List (Nat × Nat × Opd)} {cs : List V}
    (hz : zeroOf P t = some z) (hu : P.underlying t = some (.array k et)) (hn : szOf P et = some n) (hq : trParts (fun i => some (i * n, n)) ps.toList = some qs)
    (hf : fillV z.cells (qs.map fun p => (p.1, p.2.1, p.2.2.get e)) = some cs) : VOk P c M R (Instr.build t (ps.map fun (i, x) => (i, a.eval x))) w (.agg cs) S := by
  obtain ⟨x, h1, _, h2, _⟩ := zero_rep hz w M R
  obtain ⟨out, h3, h4⟩ := fill_ok (place := fun i => some (i * n, n)) (ps.toList.map fun p => (p.1, a.eval p.2)) _ z.cells cs x.cells h2 hf (trParts_rep he ps.toList qs hq)
  refine VOk.pure hi ?_ (by have := Rep.agg (M := M) (R := R) cs out.toList h4; simpa using this)
  simp only [Instr.build, Sem.run_bind, h1, Result.andThen_ok, run_underlying hu, run_sizeOf hn]
  simp only [Array.toList_map]
  rw [show (List.map (fun (x : Nat × Operand) => match x with | (i, x) => (i, a.eval x)) ps.toList) = ps.toList.map (fun p => (p.1, a.eval p.2)) from rfl, h3]
  simp

end Ab

/-  Operations that write, and that lay new data. -/
namespace Ab
open Go
variable [Globs]

theorem rep_oneCell {M R v x} (h : Rep M R v x) (hv : v.oneCell = true) : x.oneCell' = true := by
  cases h <;> first | rfl | (simp [V.oneCell] at hv)

theorem repL_oneCell {M R vs xs} (h : RepL M R vs xs) (hv : vs.all V.oneCell = true) : ∀ x ∈ xs, x.oneCell' = true := by
  induction vs generalizing xs with
  | nil => cases h; simp
  | cons v vs ih =>
    cases h with
    | cons _ x _ xs h hs =>
      simp only [List.all_cons, Bool.and_eq_true] at hv
      intro y hy
      simp only [List.mem_cons] at hy
      rcases hy with rfl | hy
      · exact rep_oneCell h hv.1
      · exact ih hs hv.2 y hy

def UOk (P : Program) (c : Ctx) (M : Mem) (R : Hm) (sem : Sem Unit) (w : World) (s : St) : Prop :=
  ∃ w', sem.run P w = .ok () w' ∧ Inv c M R s w'

theorem setRow_os (w : World) (g : Nat) (a : Array Value) : (w.setRow g a).os = w.os ∧ (w.setRow g a).tape = w.tape ∧ (w.setRow g a).output = w.output ∧ (w.setRow g a).heap.size = w.heap.size := by
  refine ⟨rfl, rfl, rfl, ?_⟩
  simp

/-- A handle's cells are written. -/
theorem Inv.setRow {c M R S w} (hi : Inv c M R S w) {h b : Nat} {o : Obj} {cur : Array Value} {e : TypeId} (hb : blk R h (S.at h) = some b) (hh : w.heap[b]? = some (.cells cur e (0, 0)))
    (news : Array Value) (hlive : S.at h ≠ .dead)
    (hobj : ∀ w', w'.heap[b]? = some (.cells news e (0, 0)) → ObjOk M R w' h o) (hbo : blk R h o = some b)
    (hver : ∀ v, verOf o = some v → verOf (S.at h) = some v) : Inv c M R (S.set h o) (w.setRow b news) := by
  have hlt := at_lt hlive
  obtain ⟨h1, h2, h3, h4⟩ := setRow_os w b news
  refine hi.upd h h1 h2 h3 (by omega) (Mem.le_refl M) (Hm.le_refl R) ?_ ?_ (fun _ _ _ h => .inl h) (fun _ _ _ h => .inl h) (by simp) ?_ ?_ ?_
  · intro b' _ hne
    exact setRow_other w b b' news (fun e => hne (by rw [e]; exact hb))
  · intro h' hne; rw [at_set S o h h' hlt, if_neg hne]
  · rw [at_set S o h h hlt, if_pos rfl]
    exact hobj _ (setRow_heap w b cur news e _ hh)
  · rw [at_set S o h h hlt, if_pos rfl]
    intro b' hb'
    rw [hbo] at hb'; cases hb'
    exact .inl hb
  · rw [at_set S o h h hlt, if_pos rfl]
    intro v ho
    exact hi.good.vers h v (hver v ho)

theorem op_store {P : Program} {c M R S w} (hi : Inv c M R S w) {t : TypeId} {n : Nat} (hn : szOf P t = some n) {va : V} {xa : Value} {v : V} {x : Value} {s' : St}
    (ha : Rep M R va xa) (hv : Rep M R v x) (hlen : v.cells.length = n) (hs : storeN S va v.cells = some s') : UOk P c M R (Instr.storeAt t xa x) w s' := by
  unfold storeN at hs
  split at hs
  · rename_i hall
    have hc := hv.cells' hall
    have hxl : x.cells.size = n := by have := hc.length; simp only [Array.length_toList] at this; omega
    have h1 := repL_oneCell hc hall
    -- the model's run, once the row is known
    have run : ∀ (b off : Nat) (cur : Array Value) (e : TypeId), xa = .pointer (some ⟨b, off, none⟩) → w.heap[b]? = some (.cells cur e (0, 0)) → off + x.cells.size ≤ cur.size →
        (Instr.storeAt t xa x).run P w = .ok () (w.setRow b (cur.toList.take off ++ x.cells.toList ++ cur.toList.drop (off + x.cells.toList.length)).toArray) := by
      intro b off cur e hxa hh hle
      subst hxa
      have := run_storeCells_at P b off e x.cells.toList 0 cur w hh (by simpa using hle) h1
      simp only [Nat.add_zero] at this
      simp only [Instr.storeAt, Instr.sureAddr, Sem.run_bind, Sem.run_pure, Result.andThen_ok, storeVar, run_sizeOf hn, hxl]
      rw [if_neg (by simp)]
      exact this
    cases va <;> simp only at hs <;> first | (cases hs; done) | skip
    case ptr h off =>
      split at hs
      · rename_i all hat
        split at hs
        · rename_i hle
          cases hs
          have ho := hi.good.objs h
          rw [hat] at ho
          obtain ⟨b, c', m, vals, hr, hh, hrl⟩ := ho
          cases ha with
          | ptr _ _ b' c'' m' hr' =>
            rw [hr] at hr'; cases hr'
            have hal := hrl.length
            simp only [Array.length_toList] at hal
            refine ⟨_, run b off vals _ rfl hh (by omega), ?_⟩
            refine hi.setRow (by rw [hat]; simp [blk, hr]) hh _ (by rw [hat]; simp) (fun w' hw' => ?_) (by simp [blk, hr]) (fun _ h => by cases h)
            exact ⟨b, c', m, _, hr, hw', by simpa using hrl.splice off hc (by omega)⟩
        · cases hs
      · cases hs
    case gptr h ver i m off =>
      split at hs
      · rename_i v0 ag sz rows hat
        split at hs
        · rename_i hvm
          obtain ⟨rfl, rfl⟩ := hvm
          split at hs
          · rename_i r hri
            split at hs
            · rename_i hle
              cases hs
              have ho := hi.good.objs h
              rw [hat] at ho
              obtain ⟨b, cap, vals, hr, hh, h4, h5, h6, hrl, h7⟩ := ho
              cases ha with
              | gptr _ _ _ _ _ b' c'' hr' =>
                rw [hr] at hr'; cases hr'
                have hrlen := h6 r (List.mem_of_getElem? hri)
                have hil : i < rows.length := by
                  rcases Nat.lt_or_ge i rows.length with h1 | h1
                  · exact h1
                  · rw [List.getElem?_eq_none h1] at hri; cases hri
                have hmul : (i + 1) * m ≤ rows.length * m := Nat.mul_le_mul_right _ hil
                have hmul2 : rows.length * m ≤ cap * m := Nat.mul_le_mul_right _ h5
                rw [Nat.add_mul] at hmul
                have hflat := flatten_len rows h6
                refine ⟨_, run b (i * m + off) vals _ rfl hh (by omega), ?_⟩
                refine hi.setRow (by rw [hat]; simp [blk, hr]) hh _ (by rw [hat]; simp) (fun w' hw' => ?_) (by simp [blk, hr]) (fun _ h => by rw [hat]; exact h)
                refine ⟨b, cap, _, hr, hw', by simp; omega, by simpa using h5, ?_, ?_, h7⟩
                · intro q hq
                  rcases List.mem_or_eq_of_mem_set hq with hq | hq
                  · exact h6 q hq
                  · subst hq; rw [splice_len]; exact hrlen
                · have := hrl.splice (i * m + off) hc (by rw [hflat]; omega)
                  rw [flatten_splice rows i r off v.cells h6 hri hle, List.length_set]
                  refine cast (congrArg (RepL M R _) ?_) this
                  simp only [Array.length_toList]
                  rw [List.take_take, Nat.min_eq_left (by omega)]
                  apply List.ext_getElem?
                  intro j
                  simp only [List.getElem?_append, List.length_take, List.length_append, Array.length_toList, List.getElem?_take, List.getElem?_drop]
                  repeat' split
                  all_goals first
                    | rfl
                    | omega
                    | (simp; omega)
                    | skip
            · cases hs
          · cases hs
        · cases hs
      · cases hs
  · cases hs

end Ab

/-  New data: literals; appending. -/
namespace Ab
open Go
variable [Globs]

def Mem.put (M : Mem) (b : Nat) (vals : List Value) : Mem := fun b' o => if b' = b then vals[o]? else M b' o
theorem Mem.le_put {M : Mem} {b : Nat} (vals : List Value) (h : ∀ o, M b o = none) : M.le (M.put b vals) := by
  intro b' o x hx
  simp only [Mem.put]
  split
  · rename_i e; subst e; rw [h] at hx; cases hx
  · exact hx
theorem Good.mem_new {M R S w} (g : Good M R S w) (b : Nat) (hb : w.heap.size ≤ b) (o : Nat) : M b o = none := by
  cases hm : M b o with
  | none => rfl
  | some x => have := cell_lt (g.mem b o x hm); omega

/-- A new block of data that nobody will write. -/
theorem Inv.newData {c M R S w} (hi : Inv c M R S w) (vals : Array Value) (e : TypeId) : M.le (M.put w.heap.size vals.toList) ∧ Inv c (M.put w.heap.size vals.toList) R S (w.alloc (.cells vals e)) := by
  have hM := Mem.le_put vals.toList (hi.good.mem_new w.heap.size (Nat.le_refl _))
  refine ⟨hM, hi.upd S.length rfl rfl rfl (by simp) hM (Hm.le_refl R) (fun b hb _ => alloc_old w _ b hb) (fun _ _ => rfl) ?_ (fun _ _ _ h => .inl h) (Nat.le_refl _) ?_ ?_ ?_⟩
  · intro b o x hx
    simp only [Mem.put] at hx
    split at hx
    · rename_i e'; subst e'
      refine .inr ⟨Nat.le_refl _, ?_, by rw [at_len]; simp [blk]⟩
      rw [cells_get (alloc_new w _)]; exact hx
    · exact .inl hx
  · rw [at_len]; trivial
  · rw [at_len]; intro b hb; simp [blk] at hb
  · rw [at_len]; intro v h; cases h

theorem splice_self : ∀ (ws : List V) (a b : List V), splice (a ++ ws ++ b) a.length ws = a ++ ws ++ b := by
  intro ws
  induction ws with
  | nil => intro a b; rfl
  | cons w ws ih =>
    intro a b
    simp only [splice]
    have : (a ++ w :: ws ++ b).set a.length w = a ++ w :: ws ++ b := by
      simp [List.set_append]
    rw [this]
    have := ih (a ++ [w]) b
    simpa using this

theorem splice_full (r ws : List V) (h : ws.length = r.length) : splice r 0 ws = ws := by
  have key : ∀ (ws r a : List V), ws.length = r.length → splice (a ++ r) a.length ws = a ++ ws := by
    intro ws
    induction ws with
    | nil => intro r a h; obtain rfl := List.eq_nil_of_length_eq_zero h.symm; rfl
    | cons w ws ih =>
      intro r a h
      cases r with
      | nil => cases h
      | cons q r =>
        simp only [splice]
        rw [List.set_append_right _ _ (Nat.le_refl _), Nat.sub_self, List.set_cons_zero]
        have := ih r (a ++ [w]) (by simpa using h)
        simpa using this
  simpa using key ws r [] h

theorem fillRows_flat {k : Nat} : ∀ (qs : List (Nat × V)) (zs xs : List V), fillRows k zs qs = some xs → (∀ v ∈ zs, v.cells.length = k) →
    fillV (zs.map V.cells).flatten (qs.map fun q => (q.1 * k, k, q.2)) = some (xs.map V.cells).flatten ∧ (∀ v ∈ xs, v.cells.length = k) ∧ xs.length = zs.length
  | [], zs, xs, h, hz => by simp only [fillRows, Option.some.injEq] at h; subst h; exact ⟨rfl, hz, rfl⟩
  | (i, v) :: qs, zs, xs, h, hz => by
    simp only [fillRows] at h
    split at h
    · rename_i hc
      obtain ⟨hil, hvl, hone⟩ := hc
      obtain ⟨h1, h2, h3⟩ := fillRows_flat qs (zs.set i v) xs h (by
        intro u hu
        rcases List.mem_or_eq_of_mem_set hu with hu | hu
        · exact hz u hu
        · subst hu; exact hvl)
      refine ⟨?_, h2, by simpa using h3⟩
      simp only [List.map_cons, fillV]
      have hlen : ((zs.map V.cells).flatten).length = zs.length * k := by
        have := flatten_len (zs.map V.cells) (sz := k) (by intro r hr; simp only [List.mem_map] at hr; obtain ⟨u, hu, rfl⟩ := hr; exact hz u hu)
        simpa using this
      have hmul : (i + 1) * k ≤ zs.length * k := Nat.mul_le_mul_right _ hil
      rw [Nat.add_mul] at hmul
      rw [if_pos ⟨hvl, by omega, hone⟩, ← h1]
      congr 1
      have hrow : (zs.map V.cells)[i]? = some zs[i].cells := by simp [hil]
      have hzl := hz zs[i] (by simp)
      have := flatten_splice (zs.map V.cells) i zs[i].cells 0 v.cells (sz := k) (by intro r hr; simp only [List.mem_map] at hr; obtain ⟨u, hu, rfl⟩ := hr; exact hz u hu) hrow (by omega)
      rw [splice_full _ _ (by omega), Nat.add_zero] at this
      rw [← this, List.map_set]
    · cases h

theorem trParts1_rep {M R e} {a : Act} (he : RepEnv M R e a.tmps) (k : Nat) : ∀ (ps : List (Nat × Operand)) (qs : List (Nat × Opd)), trParts1 ps = some qs →
    ∀ i : Nat, match (ps.map fun p => (p.1, a.eval p.2))[i]?, ((qs.map fun p => (p.1, p.2.get e)).map fun q => (q.1 * k, k, q.2))[i]? with
      | some p, some q => some (p.1 * k, k) = some (q.1, q.2.1) ∧ Rep M R q.2.2 p.2
      | none, none => True
      | _, _ => False
  | [], qs, h => by simp only [trParts1, Option.some.injEq] at h; subst h; intro i; simp
  | (j, x) :: ps, qs, h => by
    simp only [trParts1] at h
    cases hx : trOpd x with
    | none => simp [hx] at h
    | some y =>
      simp only [hx, Option.map_eq_some_iff] at h
      obtain ⟨r, hr, rfl⟩ := h
      intro i
      cases i with
      | zero => simp only [List.map_cons, List.getElem?_cons_zero]; exact ⟨trivial, opd_rep he hx⟩
      | succ i => simpa using trParts1_rep he k ps r hr i

theorem zeros_list (zc : Array Value) (n : Nat) (hk : 0 < zc.size) : ((Array.range (n * zc.size)).map (zc[· % zc.size]!)).toList = (List.replicate n zc.toList).flatten := by
  simp only [Array.toList_map, Array.toList_range]
  induction n with
  | zero => simp
  | succ n ih =>
    rw [Nat.add_mul, Nat.one_mul, List.range_add, List.map_append, ih, List.replicate_succ', List.flatten_append]
    congr 1
    simp only [List.flatten_cons, List.flatten_nil, List.append_nil, List.map_map]
    apply List.ext_getElem
    · simp
    · intro i h1 h2
      simp only [List.length_map, List.length_range] at h1
      simp only [List.getElem_map, List.getElem_range, Function.comp_apply, Array.getElem_toList]
      rw [Nat.add_comm, Nat.add_mul_mod_self_right, Nat.mod_eq_of_lt h1]
      simp [h1]

theorem op_lit {P : Program} {c M R S w e} {a : Act} (hi : Inv c M R S w) (he : RepEnv M R e a.tmps) {t et : TypeId} {z : V} {n k : Nat} {ps : Array (Nat × Operand)} {qs : List (Nat × Opd)} {xs : List V}
    (hu : P.underlying t = some (.slice et)) (hz : zeroOf P et = some z) (hk : szOf P et = some k) (hle : n * k ≤ 65536) (hk0 : 0 < k) (hq : trParts1 ps.toList = some qs) (hzk : z.cells.length = k)
    (hf : fillRows z.cells.length (List.replicate n z) (qs.map fun p => (p.1, p.2.get e)) = some xs) : VOk P c M R (Instr.buildSlice t n (ps.map fun (i, x) => (i, a.eval x))) w (.sl (!Nat.beq n 0) xs) S := by
  obtain ⟨x, h1, _, h2, _⟩ := zero_rep hz w M R
  have hxs : x.cells.size = k := by have := h2.length; simp only [Array.length_toList] at this; omega
  rw [hzk] at hf
  obtain ⟨hfl, hall, hxl⟩ := fillRows_flat _ _ _ hf (by intro v hv; rw [List.mem_replicate] at hv; rw [hv.2]; exact hzk)
  simp only [List.length_replicate] at hxl
  -- the zero cells
  have hzero : ∀ zc : Array Value, (n * k ≠ 0 → zc = x.cells) → RepL M R ((List.replicate n z).map V.cells).flatten ((Array.range (n * k)).map (zc[· % zc.size]!)).toList := by
    intro zc hzc
    by_cases h0 : n * k = 0
    · have : n = 0 := by rcases Nat.mul_eq_zero.1 h0 with h | h <;> omega
      subst this; simp; exact .nil
    · rw [hzc h0]
      have := zeros_list x.cells n (by omega)
      rw [hxs] at this
      rw [hxs, this]
      clear this hfl hf hxl h0 hzc hle
      induction n with
      | zero => exact .nil
      | succ n ih => simpa [List.replicate_succ] using h2.append ih
  have key : ∀ zc : Array Value, (n * k ≠ 0 → zc = x.cells) → ∃ out : Array Value, Instr.fill (fun i => some (i * k, k)) ((Array.range (n * k)).map (zc[· % zc.size]!)) (ps.map fun (i, x) => (i, a.eval x)).toList = some out ∧ RepL M R (xs.map V.cells).flatten out.toList := by
    intro zc hzc
    obtain ⟨out, h3, h4⟩ := fill_ok (place := fun i => some (i * k, k)) (ps.toList.map fun p => (p.1, a.eval p.2)) _ _ _ _ (hzero zc hzc) hfl (trParts1_rep he k ps.toList qs hq)
    refine ⟨out, ?_, h4⟩
    rw [← h3]
    simp only [Array.toList_map]
  have run : ∃ out : Array Value, (Instr.buildSlice t n (ps.map fun (i, x) => (i, a.eval x))).run P w = .ok (.slice (some ⟨w.heap.size, 0, none⟩) n n) (w.alloc (.cells out et)) ∧ RepL M R (xs.map V.cells).flatten out.toList := by
    by_cases h0 : n * k = 0
    · obtain ⟨out, h3, h4⟩ := key #[] (fun h => absurd h0 h)
      refine ⟨out, ?_, h4⟩
      simp only [Instr.buildSlice, Sem.run_bind, run_underlying hu, Result.andThen_ok, run_sizeOf hk]
      rw [if_neg (by omega), if_pos h0]
      simp only [Sem.run_bind, Sem.run_pure, Result.andThen_ok, h3, newRow, run_newObj]
      rfl
    · obtain ⟨out, h3, h4⟩ := key x.cells (fun _ => rfl)
      refine ⟨out, ?_, h4⟩
      simp only [Instr.buildSlice, Sem.run_bind, run_underlying hu, Result.andThen_ok, run_sizeOf hk]
      rw [if_neg (by omega), if_neg h0]
      simp only [Sem.run_bind, h1, Sem.run_pure, Result.andThen_ok, h3, newRow, run_newObj]
      rfl
  obtain ⟨out, hrun, hout⟩ := run
  obtain ⟨hM, hinv⟩ := hi.newData out et
  refine ⟨_, _, _, R, hrun, hM, Hm.le_refl R, hinv, ?_⟩
  subst hxl
  rcases Nat.eq_zero_or_pos xs.length with hx0 | hx0
  · obtain rfl := List.eq_nil_of_length_eq_zero hx0
    exact .sl0 false _ 0 (fun h => by cases h)
  · have hn0 : Nat.beq xs.length 0 = false := by cases hb : Nat.beq xs.length 0 with | false => rfl | true => have := Nat.eq_of_beq_eq_true hb; omega
    rw [hn0]
    refine .sl true xs _ _ k _ (by intro h; subst h; simp at hx0) (Nat.le_refl _) (fun _ => rfl) ?_
    exact RepEl.of_vals hall (hout.mono hM (Hm.le_refl R)) (fun j y hj => by simp only [Mem.put, if_true, Nat.zero_add]; exact hj)

end Ab

/-  Appending. -/
namespace Ab
open Go
variable [Globs]

/-- A slice's or a string's cells, read in whatever world has this heap. -/
def Reads (P : Program) (w : World) (size m : Nat) (x : Value) (news : List Value) : Prop :=
  (∀ w', (Builtin.lenOf x).run P w' = .ok m w') ∧ (∀ w', w'.heap = w.heap → (Builtin.firstCells size m x).run P w' = .ok news.toArray w') ∧ news.length = m * size

def isSeq : TypeDesc → Bool
  | .slice _ | .string => true
  | _ => false

section
variable {P : Program} {w : World} {t u ty e : TypeId} {i : TypeInfo} {x : Value} {m : Nat} {news : List Value} {d : TypeDesc}

theorem run_append_room' (ht : P.underlying t = some (.slice e)) (hu : P.underlying u = some d) (hd : isSeq d = true) (hi : P.info? e = some i)
    {e' : TypeId} (g sLen sCap : Nat) (cur : Array Value) (hg : w.heap[g]? = some (.cells cur e' (0, 0))) (hx : Reads P w i.size m x news) (h1 : ∀ v ∈ news, v.oneCell' = true)
    (hroom : sLen + m ≤ sCap) (hfit : sLen * i.size + news.length ≤ cur.size) :
    (Builtin.append_ #[t, u] ty #[.slice (some ⟨g, 0, none⟩) sLen sCap, x]).run P w =
      .ok (.slice (some ⟨g, 0, none⟩) (sLen + m) sCap) (w.setRow g (cur.toList.take (sLen * i.size) ++ news ++ cur.toList.drop (sLen * i.size + news.length)).toArray) := by
  have hst := run_storeCells_at P g (sLen * i.size) e' news 0 cur w hg (by simpa using hfit) h1
  simp only [Nat.add_zero] at hst
  cases d <;> simp only [isSeq] at hd <;> first | (cases hd; done) | skip
  all_goals
    simp [Builtin.append_, run_underlying ht, run_underlying hu, Go.sizeOf, typeInfo, hi, hx.1, hroom, hx.2.1 w rfl, Addr.add_lit, hst]

theorem run_append_none' (ht : P.underlying t = some (.slice e)) (hu : P.underlying u = some d) (hd : isSeq d = true) (hi : P.info? e = some i)
    (base : Option Addr) (sLen sCap : Nat) (hx : Reads P w i.size 0 x []) (hroom : sLen ≤ sCap) :
    (Builtin.append_ #[t, u] ty #[.slice base sLen sCap, x]).run P w = .ok (.slice base sLen sCap) w := by
  cases d <;> simp only [isSeq] at hd <;> first | (cases hd; done) | skip
  all_goals
    simp [Builtin.append_, run_underlying ht, run_underlying hu, Go.sizeOf, typeInfo, hi, hx.1, hroom, hx.2.1 w rfl, storeCells]
    cases base <;> simp

theorem run_append_grow' (ht : P.underlying t = some (.slice e)) (hu : P.underlying u = some d) (hd : isSeq d = true) (hi : P.info? e = some i) {z : Value} (hz : i.zero = some z)
    (base : Option Addr) (sLen sCap : Nat) (olds : List Value) (ho : ∀ w', w'.heap = w.heap → (Builtin.firstCells i.size sLen (.slice base sLen sCap)).run P w' = .ok olds.toArray w') (hx : Reads P w i.size m x news)
    (hg : sCap < sLen + m) (h63 : ((sLen + m : Nat) : Int) ≤ 9223372036854775807) (hfit : Builtin.nextslicecap (sLen + m) sCap * i.bytes ≤ 281474976710656) :
    (Builtin.append_ #[t, u] ty #[.slice base sLen sCap, x]).run P w =
      .ok (.slice (some ⟨w.heap.size, 0, none⟩) (sLen + m) (grownCap w (sLen + m) sCap e))
        (w.drew.alloc (.cells (olds.toArray ++ news.toArray ++ Builtin.zeroCells z.cells (grownCap w (sLen + m) sCap e - (sLen + m))) e)) := by
  have hn : ¬ (sLen + m ≤ sCap) := by omega
  have h63' : ¬ (9223372036854775807 < ((sLen : Int) + (m : Int))) := by omega
  have h48' : ¬ (281474976710656 < Builtin.nextslicecap (sLen + m) sCap * i.bytes) := by omega
  have ho' := ho w.drew rfl
  have hx' := hx.2.1 w.drew rfl
  cases d <;> simp only [isSeq] at hd <;> first | (cases hd; done) | skip
  all_goals
    simp [Builtin.append_, run_underlying ht, run_underlying hu, Go.sizeOf, typeInfo, zeroValue, hi, hz, hx.1, hn, h63', h48', Question.forced, ho', hx', newRow, grownCap]
    congr 2
    apply Array.ext'
    simp [List.append_assoc]
end

end Ab
namespace Ab
open Go
variable [Globs]

theorem reads_slice {P : Program} {w : World} {b off size m cap : Nat} {news : List Value} (hl : news.length = m * size) (hc : ∀ j u, news[j]? = some u → w.cell? ⟨b, off + j, none⟩ = some u) :
    Reads P w size m (.slice (some ⟨b, off, none⟩) m cap) news := by
  refine ⟨fun w' => by simp [Builtin.lenOf], fun w' hw => ?_, hl⟩
  exact run_firstCells_some (P := P) w' size m ⟨b, off, none⟩ m cap news hl (fun j u hj => by
    rw [addr_add, ← hc j u hj]; simp [World.cell?, hw])

theorem bytes_rep (M : Mem) (R : Hm) (s : ByteArray) : RepL M R (s.data.toList.map fun x => V.int .u8 x.toNat) (s.data.toList.map fun x => Value.int .u8 x.toNat) := by
  generalize s.data.toList = l
  induction l with
  | nil => exact .nil
  | cons c l ih => exact .cons _ _ _ _ (.int _ _) ih

theorem flatten_singles {α β : Type} (f : α → β) (l : List α) : (l.map fun x => [f x]).flatten = l.map f := by
  induction l with
  | nil => rfl
  | cons a l ih => simp [ih]

theorem rows_reads {P : Program} {c M R S w} (hi : Inv c M R S w) {n : Nat} {y : V} {x : Value} {ys : List (List V)} (hr : rowsOf n S y = some ys) (hv : Rep M R y x) :
    ∃ news, Reads P w n ys.length x news ∧ RepL M R ys.flatten news ∧ (∀ r ∈ ys, r.length = n) ∧ ys.flatten.all V.oneCell = true := by
  cases y <;> simp only [rowsOf] at hr <;> first | (cases hr; done) | skip
  case str bs =>
    split at hr
    · rename_i hn
      subst hn
      cases hr
      cases hv with
      | str s =>
        refine ⟨s.data.toList.map fun x => Value.int .u8 x.toNat, ⟨fun w' => ?_, fun w' _ => ?_, by simp⟩, ?_, by simp, ?_⟩
        · simp only [Builtin.lenOf, Sem.run_pure, List.length_map, Array.length_toList]; rfl
        · simp only [Builtin.firstCells, Sem.run_pure, List.length_map, Array.length_toList]
          congr 1
          apply Array.ext'
          simp only [Array.toList_map, List.toList_toArray]
          congr 1
          have : s.extract 0 s.data.size = s := by
            show s.extract 0 s.size = s
            simp
          rw [this]
        · rw [flatten_singles]; exact bytes_rep M R s
        · rw [flatten_singles, List.all_eq_true]
          intro q hq
          simp only [List.mem_map] at hq
          obtain ⟨_, _, rfl⟩ := hq
          rfl
    · cases hr
  case sl ex xs =>
    split at hr
    · rename_i hall
      cases hr
      have hrow : ∀ v ∈ xs, v.cells.length = n ∧ v.cells.all V.oneCell = true := by
        intro v hm
        have := (List.all_eq_true.1 hall) v hm
        simp only [rowOk, Bool.and_eq_true] at this
        exact ⟨Nat.eq_of_beq_eq_true this.1, this.2⟩
      have hlen : ∀ r ∈ xs.map V.cells, r.length = n := by
        intro r hr; simp only [List.mem_map] at hr; obtain ⟨v, hm, rfl⟩ := hr; exact (hrow v hm).1
      have hone : (xs.map V.cells).flatten.all V.oneCell = true := by
        rw [List.all_eq_true]
        intro q hq
        simp only [List.mem_flatten, List.mem_map] at hq
        obtain ⟨l, ⟨v, hm, rfl⟩, hq⟩ := hq
        exact (List.all_eq_true.1 (hrow v hm).2) q hq
      cases hv with
      | sl0 _ a cap he =>
        refine ⟨[], ⟨fun w' => by simp [Builtin.lenOf], fun w' _ => ?_, by simp⟩, .nil, by simp, by simp⟩
        cases a <;> simp [Builtin.firstCells, loadCells, loadCellsFrom]
      | sl _ _ b off n' cap hx hc he ha =>
        have hn' : n' = n := by
          cases ha with
          | nil => exact absurd rfl hx
          | cons _ _ _ v vs hl _ _ => rw [← hl]; exact (hrow v (by simp)).1
        subst hn'
        obtain ⟨news, h1, h2, h3⟩ := ha.vals
        have := reads_slice (P := P) (w := w) (b := b) (off := off) (size := n') (m := xs.length) (cap := cap) h2 (fun j u hj => hi.good.mem _ _ _ (h3 j u hj))
        exact ⟨news, by simpa using this, h1, hlen, hone⟩
    · cases hr
  case gs h ver off len =>
    split at hr
    · rename_i v0 ag sz rows hat
      split at hr
      · rename_i hc
        obtain ⟨rfl, rfl, hle, hall⟩ := hc
        cases hr
        have ho := hi.good.objs h
        rw [hat] at ho
        obtain ⟨b, cap, vals, hR, hh, h4, h5, h6, hrl, h7⟩ := ho
        cases hv with
        | gs0 _ b' n' hR' => rw [hR] at hR'; cases hR'; exact absurd h7.2 (Nat.lt_irrefl _)
        | gs _ _ _ _ b' c' n' hR' hc' _ =>
          rw [hR] at hR'; cases hR'
          have hflat := flatten_len rows h6
          have hfl : ((rows.drop off).take len).flatten = (rows.flatten.drop (off * sz)).take (len * sz) := by
            have e1 : ∀ (l : List (List V)) (k : Nat), (∀ r ∈ l, r.length = sz) → (l.drop k).flatten = l.flatten.drop (k * sz) := by
              intro l k
              induction k generalizing l with
              | zero => intro _; simp
              | succ k ih =>
                intro hl
                cases l with
                | nil => simp
                | cons r l =>
                  simp only [List.drop_succ_cons, List.flatten_cons]
                  rw [ih l (fun q hq => hl q (by simp [hq])), Nat.add_mul, Nat.one_mul, Nat.add_comm, ← List.drop_drop, List.drop_left' (hl r (by simp))]
            have e2 : ∀ (l : List (List V)) (k : Nat), (∀ r ∈ l, r.length = sz) → (l.take k).flatten = l.flatten.take (k * sz) := by
              intro l k
              induction k generalizing l with
              | zero => intro _; simp
              | succ k ih =>
                intro hl
                cases l with
                | nil => simp
                | cons r l =>
                  simp only [List.take_succ_cons, List.flatten_cons]
                  rw [ih l (fun q hq => hl q (by simp [hq])), Nat.add_mul, Nat.one_mul, List.take_append, hl r (by simp)]
                  rw [List.take_of_length_le (l := r) (by rw [hl r (by simp)]; omega), Nat.add_sub_cancel]
            rw [e2 _ _ (fun r hr => h6 r (List.mem_of_mem_drop hr)), e1 _ _ h6]
          have hm1 : (off + len) * sz ≤ rows.length * sz := Nat.mul_le_mul_right _ hle
          rw [Nat.add_mul] at hm1
          refine ⟨((vals.toList.take (rows.length * sz)).drop (off * sz)).take (len * sz), ?_, ?_, fun r hr => h6 r (List.mem_of_mem_drop (List.mem_of_mem_take hr)), ?_⟩
          · have hcap : rows.length * sz ≤ cap * sz := Nat.mul_le_mul_right _ h5
            have := reads_slice (P := P) (w := w) (b := b) (off := off * sz) (size := sz) (m := len) (cap := cap - off) (news := ((vals.toList.take (rows.length * sz)).drop (off * sz)).take (len * sz)) (by simp; omega) (fun j u hj => by
              rw [List.getElem?_take] at hj
              split at hj
              · rw [List.getElem?_drop, List.getElem?_take] at hj
                split at hj
                · rw [cells_get hh]; exact hj
                · cases hj
              · cases hj)
            have hll : ((rows.drop off).take len).length = len := by simp; omega
            rw [hll]; exact this
          · rw [hfl]; exact (hrl.drop (off * sz)).take (len * sz)
          · rw [List.all_eq_true] at hall ⊢
            intro q hq
            simp only [List.mem_flatten] at hq
            obtain ⟨l, hl, hq⟩ := hq
            exact (List.all_eq_true.1 (hall l (List.mem_of_mem_drop (List.mem_of_mem_take hl)))) q hq
      · cases hr
    · rename_i ag sz hat
      split at hr
      · rename_i hl0
        subst hl0
        cases hr
        have ho := hi.good.objs h
        rw [hat] at ho
        obtain ⟨b, n0, hR⟩ := ho
        cases hv with
        | gs _ _ _ _ b' c' n' hR' hc' h0 =>
          refine ⟨[], ⟨fun w' => by simp [Builtin.lenOf], fun w' _ => by simp [Builtin.firstCells, loadCells, loadCellsFrom], by simp⟩, .nil, by simp, by simp⟩
        | gs0 _ b' n' hR' =>
          refine ⟨[], ⟨fun w' => by simp [Builtin.lenOf], fun w' _ => ?_, by simp⟩, .nil, by simp, by simp⟩
          simp [Builtin.firstCells, loadCells, loadCellsFrom]
      · cases hr
    · cases hr

theorem appOk_parts {P : Program} {e : TypeId} {n : Nat} (h : appOk P e n = true) : ∃ i z, P.info? e = some i ∧ zeroOf P e = some z ∧ 0 < n ∧ i.bytes ≤ 2048 ∧ z.cells.length = n := by
  unfold appOk at h
  split at h
  · rename_i i z hi hz
    simp only [Bool.and_eq_true] at h
    exact ⟨i, z, hi, hz, Nat.lt_of_succ_le (Nat.le_of_ble_eq_true h.1.1), Nat.le_of_ble_eq_true h.1.2, Nat.eq_of_beq_eq_true h.2⟩
  · cases h

theorem grown_row (olds news : List Value) (zc : Array Value) (n l m cap : Nat) (hz : zc.size = n) (h1 : olds.length = l * n) (h2 : news.length = m * n) (hc : l + m ≤ cap) :
    (olds.toArray ++ news.toArray ++ Builtin.zeroCells zc (cap - (l + m))).size = cap * n ∧
    (olds.toArray ++ news.toArray ++ Builtin.zeroCells zc (cap - (l + m))).toList.take ((l + m) * n) = olds ++ news := by
  constructor
  · simp only [Array.size_append, List.size_toArray, size_zeroCells, hz, h1, h2, ← Nat.add_mul]
    congr 1; omega
  · simp only [Array.toList_append, List.toList_toArray]
    rw [List.take_left' (by simp [h1, h2, Nat.add_mul])]

theorem op_append {P : Program} {c M R S w} (hi : Inv c M R S w) {t u e ty : TypeId} {d : TypeDesc} {ag : Bool} {n : Nat} (ht : P.underlying t = some (.slice e)) (hu : P.underlying u = some d) (hd : isSeq d = true)
    (hn : szOf P e = some n) (hok : appOk P e n = true) {vx vy : V} {x y : Value} (hx : Rep M R vx x) (hy : Rep M R vy y) {v : V} {s' : St} (h : appendV e ag n S vx vy = some (.val v s')) :
    VOk P c M R (Builtin.append_ #[t, u] ty #[x, y]) w v s' := by
  obtain ⟨i, z, hinfo, hz, hn0, hby, hzl⟩ := appOk_parts hok
  obtain ⟨zx, _, _, hzc, i', hi', hiz⟩ := zero_rep hz w M R
  rw [hinfo] at hi'; cases hi'
  have hsz : i.size = n := by simpa [szOf, hinfo] using hn
  have hzsz : zx.cells.size = n := by have := hzc.length; simp only [Array.length_toList] at this; omega
  unfold appendV at h
  split at h
  · cases h
  · rename_i ys hys
    obtain ⟨news, hread, hrl, hrow, hone⟩ := rows_reads (P := P) hi hys hy
    have hflat := flatten_len ys hrow
    split at h
    · rename_i hemp
      have hy0 : ys = [] := by simpa using hemp
      subst hy0
      have hnews : news = [] := by
        have := hread.2.2; simp at this; exact this
      subst hnews
      split at h
      · rename_i ex xs
        cases h
        cases hx with
        | sl0 _ a cap he => exact VOk.pure hi (run_append_none' ht hu hd hinfo a 0 cap (by rw [hsz]; exact hread) (Nat.zero_le _)) (.sl0 _ _ _ he)
        | sl _ _ b off n' cap h1 h2 h3 h4 => exact VOk.pure hi (run_append_none' ht hu hd hinfo _ _ cap (by rw [hsz]; exact hread) h2) (.sl _ _ _ _ _ _ h1 h2 h3 h4)
      · cases h
        cases hx with
        | gs0 _ b n' hR => exact VOk.pure hi (run_append_none' ht hu hd hinfo _ _ _ (by rw [hsz]; exact hread) (Nat.le_refl _)) (.gs0 _ _ _ hR)
        | gs _ _ _ _ b c' n' hR hc h0 => exact VOk.pure hi (run_append_none' ht hu hd hinfo _ _ _ (by rw [hsz]; exact hread) (by omega)) (.gs _ _ _ _ _ _ _ hR hc h0)
      · cases h
    · rename_i hne
      have hm0 : 0 < ys.length := by
        rcases Nat.eq_zero_or_pos ys.length with h0 | h0
        · exact absurd (by simpa using List.eq_nil_of_length_eq_zero h0) hne
        · exact h0
      have hnl : news.length = ys.length * n := hread.2.2
      have h1 := repL_oneCell hrl hone
      -- a new row
      have fresh : ∀ (ag : Bool) (base : Option Addr) (l cap0 : Nat) (olds : List Value) (rows : List (List V)) (h0 v0 : Nat) (hnew : R h0 v0 = none) (hh0 : h0 ≤ S.length)
          (hx : x = .slice base l cap0) (hol : olds.length = l * n) (hor : RepL M R rows.flatten olds) (hrows : ∀ r ∈ rows, r.length = n) (hrl2 : rows.length = l)
          (ho : ∀ w', w'.heap = w.heap → (Builtin.firstCells n l (.slice base l cap0)).run P w' = .ok olds.toArray w') (hlt : cap0 < l + ys.length) (hbd : l + ys.length ≤ growBound)
          (S' : St) (hS' : ∀ h, h ≠ h0 → S'.at h = S.at h) (hS0 : S'.at h0 = .grow e v0 ag n (rows ++ ys)) (hSl : S.length ≤ S'.length) (hSh : h0 < S'.length)
          (hvs : ∀ v', v0 < v' → R h0 v' = none),
          VOk P c M R (Builtin.append_ #[t, u] ty #[x, y]) w (.gs h0 v0 0 (l + ys.length)) S' := by
        intro ag base l cap0 olds rows h0 v0 hnew hh0 hx hol hor hrows hrl2 ho hlt hbd S' hS' hS0 hSl hSh hvs
        subst hx
        unfold growBound at hbd
        have hfit : Builtin.nextslicecap (l + ys.length) cap0 * i.bytes ≤ 281474976710656 := by
          refine growslice_fits hlt ?_
          exact Nat.le_trans (Nat.mul_le_mul hbd hby) (by decide)
        have hrun := run_append_grow' (ty := ty) ht hu hd hinfo hiz base l cap0 olds (by rw [hsz]; exact ho) (by rw [hsz]; exact hread) hlt (by omega) hfit
        have hge := grownCap_ge w (l + ys.length) cap0 e
        have hcm := grownCap_le_maxLen w (l + ys.length) cap0 e (by simp only [maxLen]; omega)
        generalize grownCap w (l + ys.length) cap0 e = cap at hrun hge hcm
        obtain ⟨g1, g2⟩ := grown_row olds news zx.cells n l ys.length cap hzsz hol hnl hge
        generalize olds.toArray ++ news.toArray ++ Builtin.zeroCells zx.cells (cap - (l + ys.length)) = row at hrun g1 g2
        have hR := Hm.le_put R h0 v0 (w.heap.size, cap, n) hnew
        have hi1 := hi.drew
        have hinv : Inv c M (R.put h0 v0 (w.heap.size, cap, n)) S' (w.drew.alloc (.cells row e)) := by
          refine hi1.upd h0 rfl rfl rfl (by simp) (Mem.le_refl M) hR (fun b hb _ => alloc_old w.drew _ b hb) hS' (fun _ _ _ h => .inl h) ?_ hSl ?_ ?_ ?_
          · intro h' v' x' hx'
            simp only [Hm.put] at hx'
            split at hx'
            · rename_i e'; exact .inr ⟨e'.1, hSh⟩
            · exact .inl hx'
          · rw [hS0]
            refine ⟨w.heap.size, cap, row, Hm.put_same _ _ _ _, alloc_new w.drew _, g1, ?_, ?_, ?_, hcm, by omega⟩
            · simp only [List.length_append, hrl2]; exact hge
            · intro r hr
              rcases List.mem_append.1 hr with hr | hr
              · exact hrows r hr
              · exact hrow r hr
            · simp only [List.length_append, hrl2, List.flatten_append]
              rw [g2]
              exact (hor.append hrl).mono (Mem.le_refl M) hR
          · rw [hS0]
            intro b hb
            simp [blk, Hm.put_same] at hb
            exact .inr (by subst hb; exact Nat.le_refl _)
          · rw [hS0]
            intro v hg v' hv'
            simp only [verOf, Option.some.injEq] at hg; subst hg
            simp only [Hm.put]
            rw [if_neg (by omega)]
            exact hvs v' hv'
        refine ⟨_, _, M, _, hrun, Mem.le_refl M, hR, hinv, ?_⟩
        have := Rep.gs (M := M) (R := R.put h0 v0 (w.heap.size, cap, n)) h0 v0 0 (l + ys.length) w.heap.size cap n (Hm.put_same _ _ _ _) (by omega) (by omega)
        simpa using this
      split at h
      · rename_i xs
        split at h
        · rename_i hall
          split at h
          · rename_i hbd
            cases h
            have hxrow : ∀ v ∈ xs, v.cells.length = n := by
              intro v hm
              have := (List.all_eq_true.1 hall) v hm
              simp only [rowOk, Bool.and_eq_true] at this
              exact Nat.eq_of_beq_eq_true this.1
            have hlen : ∀ r ∈ xs.map V.cells, r.length = n := by
              intro r hr; simp only [List.mem_map] at hr; obtain ⟨v, hm, rfl⟩ := hr; exact hxrow v hm
            cases hx with
            | sl0 _ a cap he =>
              have := fresh ag a 0 cap [] [] S.length ys.length (hi.good.fresh_none _ _ (Nat.le_refl _)) (Nat.le_refl _) rfl (by simp) .nil (by simp) rfl (fun w' _ => by cases a <;> simp [Builtin.firstCells, loadCells, loadCellsFrom]) (by rw [(he rfl).2]; omega) (by simpa using hbd)
                (S ++ [.grow e ys.length ag n ys]) (fun h hne => by rw [at_append, if_neg hne]) (by rw [at_append, if_pos rfl]; rfl) (by simp) (by simp) (fun v' _ => hi.good.fresh_none _ _ (Nat.le_refl _))
              simpa using this
            | sl _ _ b off n' cap hxne hc he ha =>
              have hn' : n' = n := by
                cases ha with
                | nil => exact absurd rfl hxne
                | cons _ _ _ v vs hl _ _ => rw [← hl]; exact hxrow v (by simp)
              subst hn'
              obtain ⟨olds, o1, o2, o3⟩ := ha.vals
              have hro := reads_slice (P := P) (w := w) (b := b) (off := off) (size := n') (m := xs.length) (cap := cap) o2 (fun j u hj => hi.good.mem _ _ _ (o3 j u hj))
              exact fresh ag _ xs.length cap olds (xs.map V.cells) S.length (xs.length + ys.length) (hi.good.fresh_none _ _ (Nat.le_refl _)) (Nat.le_refl _) rfl o2 o1 hlen (by simp) hro.2.1 (by rw [he rfl]; omega) hbd
                (S ++ [.grow e (xs.length + ys.length) ag n' (xs.map V.cells ++ ys)]) (fun h hne => by rw [at_append, if_neg hne]) (by rw [at_append, if_pos rfl]) (by simp) (by simp) (fun v' _ => hi.good.fresh_none _ _ (Nat.le_refl _))
          · cases h
        · cases h
      · rename_i h0 ver len
        split at h
        · rename_i tt v0 g sz rows hat
          split at h
          · rename_i hc
            obtain ⟨htt, rfl, rfl, hlen0, hvr, hbd⟩ := hc
            rw [htt] at hat
            cases h
            have ho := hi.good.objs h0
            rw [hat] at ho
            obtain ⟨b, cap, vals, hR, hh, h4, h5, h6, hrl0, h7⟩ := ho
            have hlt := at_lt (S := S) (h := h0) (by rw [hat]; simp)
            have hvs := hi.good.vers h0 v0 (by rw [hat]; rfl)
            cases hx with
            | gs0 _ b' n' hR' => rw [hR] at hR'; cases hR'; exact absurd h7.2 (Nat.lt_irrefl _)
            | gs _ _ _ _ b' c' n' hR' hc' _ =>
              rw [hR] at hR'; cases hR'
              subst hlen0
              rw [Nat.zero_mul, Nat.sub_zero] at *
              by_cases hroom : rows.length + ys.length ≤ cap
              · -- in place
                have hcapm : (rows.length + ys.length) * sz ≤ cap * sz := Nat.mul_le_mul_right _ hroom
                rw [Nat.add_mul] at hcapm
                have hrun := run_append_room' (P := P) (ty := ty) ht hu hd hinfo b rows.length cap vals hh (by rw [hsz]; exact hread) h1 hroom (by rw [hsz]; omega)
                rw [hsz] at hrun
                obtain ⟨q1, q2, q3, q4⟩ := setRow_os w b (vals.toList.take (rows.length * sz) ++ news ++ vals.toList.drop (rows.length * sz + news.length)).toArray
                have hR2 := Hm.le_put R h0 (rows.length + ys.length) (b, cap, sz) (hvs _ (by omega))
                have hinv : Inv c M (R.put h0 (rows.length + ys.length) (b, cap, sz)) (S.set h0 (.grow e (rows.length + ys.length) g sz (rows ++ ys))) (w.setRow b (vals.toList.take (rows.length * sz) ++ news ++ vals.toList.drop (rows.length * sz + news.length)).toArray) := by
                  refine hi.upd h0 q1 q2 q3 (by omega) (Mem.le_refl M) hR2 ?_ (fun h hne => by rw [at_set S _ _ _ hlt, if_neg hne]) (fun _ _ _ h => .inl h) ?_ (by simp) ?_ ?_ ?_
                  · intro b2 _ hne
                    exact setRow_other w b b2 _ (fun e => hne (by rw [hat, e]; simp [blk, hR]))
                  · intro h' v' x' hx'
                    simp only [Hm.put] at hx'
                    split at hx'
                    · rename_i e'; exact .inr ⟨e'.1, by simpa using hlt⟩
                    · exact .inl hx'
                  · rw [at_set S _ _ _ hlt, if_pos rfl]
                    refine ⟨b, cap, _, Hm.put_same _ _ _ _, setRow_heap w b vals _ _ _ hh, by simp; omega, by simpa using hroom, ?_, ?_, h7⟩
                    · intro r hr
                      rcases List.mem_append.1 hr with hr | hr
                      · exact h6 r hr
                      · exact hrow r hr
                    · have hvl : (vals.toList.take (rows.length * sz)).length = rows.length * sz := by
                        have : rows.length * sz ≤ cap * sz := Nat.mul_le_mul_right _ h5
                        simp; omega
                      simp only [List.length_append, List.flatten_append, List.toList_toArray]
                      rw [Nat.add_mul, List.take_left' (by rw [List.length_append, hvl, hnl])]
                      exact (hrl0.append hrl).mono (Mem.le_refl M) hR2
                  · rw [at_set S _ _ _ hlt, if_pos rfl]
                    intro b2 hb2
                    simp [blk, Hm.put_same] at hb2
                    subst hb2
                    exact .inl (by rw [hat]; simp [blk, hR])
                  · rw [at_set S _ _ _ hlt, if_pos rfl]
                    intro v hg v' hv'
                    simp only [verOf, Option.some.injEq] at hg; subst hg
                    simp only [Hm.put]
                    rw [if_neg (by omega)]
                    exact hvs v' (by omega)
                refine ⟨_, _, M, _, hrun, Mem.le_refl M, hR2, hinv, ?_⟩
                have := Rep.gs (M := M) (R := R.put h0 (rows.length + ys.length) (b, cap, sz)) h0 (rows.length + ys.length) 0 (rows.length + ys.length) b cap sz (Hm.put_same _ _ _ _) (by omega) h7.2
                simpa using this
              · have hcapm : rows.length * sz ≤ cap * sz := Nat.mul_le_mul_right _ h5
                have hro := reads_slice (P := P) (w := w) (b := b) (off := 0) (size := sz) (m := rows.length) (cap := cap) (news := vals.toList.take (rows.length * sz)) (by simp; omega) (fun j u hj => by
                  rw [List.getElem?_take] at hj
                  split at hj
                  · rw [cells_get hh, Nat.zero_add]; exact hj
                  · cases hj)
                exact fresh g _ rows.length cap _ rows h0 (rows.length + ys.length) (hvs _ (by omega)) (Nat.le_of_lt hlt) rfl (by simp; omega) hrl0 h6 rfl hro.2.1 (by omega) hbd
                  (S.set h0 (.grow e (rows.length + ys.length) g sz (rows ++ ys))) (fun h hne => by rw [at_set S _ _ _ hlt, if_neg hne]) (by rw [at_set S _ _ _ hlt, if_pos rfl]) (by simp) (by simpa using hlt) (fun v' hv' => hvs v' (by omega))
          · cases h
        · rename_i g sz hat
          split at h
          · rename_i hc
            obtain ⟨rfl, rfl, rfl, hbd⟩ := hc
            cases h
            have ho := hi.good.objs h0
            rw [hat] at ho
            obtain ⟨b0, n0, hR⟩ := ho
            have hlt := at_lt (S := S) (h := h0) (by rw [hat]; simp)
            have hvs := hi.good.vers h0 0 (by rw [hat]; rfl)
            have key : ∀ a : Option Addr, x = .slice a 0 0 → VOk P c M R (Builtin.append_ #[t, u] ty #[x, y]) w (.gs h0 ys.length 0 ys.length) (S.set h0 (.grow e ys.length g sz ys)) := by
              intro a hxa
              have := fresh g a 0 0 [] [] h0 ys.length (hvs _ hm0) (Nat.le_of_lt hlt) hxa (by simp) .nil (by simp) rfl (fun w' _ => by cases a <;> simp [Builtin.firstCells, loadCells, loadCellsFrom]) (by omega) (by omega)
                (S.set h0 (.grow e ys.length g sz ys)) (fun h hne => by rw [at_set S _ _ _ hlt, if_neg hne]) (by rw [at_set S _ _ _ hlt, if_pos rfl]; simp) (by simp) (by simpa using hlt) (fun v' hv' => hvs v' (by omega))
              simpa using this
            cases hx with
            | gs _ _ _ _ b' c' n' hR' hc' h0' => rw [hR] at hR'; cases hR'; exact absurd h0' (Nat.lt_irrefl _)
            | gs0 _ b' n' hR' => exact key none rfl
          · cases h
        · cases h
      · cases h
end Ab

/-  The other operations. -/
namespace Ab
open Go
variable [Globs]

section
variable {P : Program} {c : Ctx} {M : Mem} {R : Hm} {S : St} {w : World}

theorem op_un (hi : Inv c M R S w) {op : UnOp} {v u : V} {x : Value} (hv : Rep M R v x) (h : unV op v = some u) : VOk P c M R (Op.unary op x) w u S := by
  unfold unV at h
  split at h
  · cases h; rw [hv.bool_inv]; exact VOk.pure hi rfl (.bool _)
  · cases h; rw [hv.int_inv]; exact VOk.pure hi rfl (.int _ _)
  · cases h

theorem op_extract (hi : Inv c M R S w) {i : Nat} {vs : List V} {u : V} {x : Value} (hv : Rep M R (.tup vs) x) (h : vs[i]? = some u) : VOk P c M R (Instr.extract x i) w u S := by
  cases hv with
  | tup _ xs hl =>
    obtain ⟨y, hy, hr⟩ := hl.get h
    refine VOk.pure hi ?_ hr
    simp [Instr.extract, hy]

theorem op_field (hi : Inv c M R S w) {t : TypeId} {fs : Array Field} {f : Nat} {fd : Field} {ag : Bool} {n : Nat} {cs r : List V} {u : V} {x : Value} (hu : P.underlying t = some (.struct fs)) (hf : fs.toList[f]? = some fd)
    (ha : aggT P fd.type = some ag) (hn : szOf P fd.type = some n) (hv : Rep M R (.agg cs) x) (ht : takeN cs fd.offset (bif ag then n else 1) = some r) (hm : mkLoad ag r = some u) : VOk P c M R (Instr.field t x f) w u S := by
  cases hv with
  | agg _ xs hl =>
    obtain ⟨y, hy, hr⟩ := run_part (P := P) (w := w) ha hn hl ht hm
    refine VOk.pure hi ?_ hr
    have hf' : fs[f]? = some fd := by rw [← Array.getElem?_toList]; exact hf
    simp only [Instr.field, Sem.run_bind, run_underlying hu, Result.andThen_ok, hf', asAgg, Sem.run_pure, hy]

theorem ptr_add {v u : V} {x : Value} {k : Nat} (hv : Rep M R v x) (h : faddrV k v = some u) : ∃ a : Addr, x = .pointer (some a) ∧ Rep M R u (.pointer (some (a.add k))) := by
  cases v <;> simp only [faddrV] at h <;> first | (cases h; done) | skip
  all_goals cases h
  · cases hv with | ptr _ _ b c n hr => exact ⟨_, rfl, by rw [addr_add]; exact .ptr _ _ _ _ _ hr⟩
  · cases hv with | gptr _ _ _ n _ b c hr => exact ⟨_, rfl, by rw [addr_add, Nat.add_assoc]; exact .gptr _ _ _ _ _ _ _ hr⟩
  · cases hv with | ro _ b off ha => exact ⟨_, rfl, by rw [addr_add]; exact .ro _ _ _ (ha.drop k)⟩

theorem op_faddr (hi : Inv c M R S w) {t : TypeId} {fs : Array Field} {f : Nat} {fd : Field} {n : Nat} {v u : V} {x : Value} (hu : P.underlying t = some (.struct fs)) (hf : fs.toList[f]? = some fd) (hn : szOf P fd.type = some (n + 1))
    (hv : Rep M R v x) (h : faddrV fd.offset v = some u) : VOk P c M R (Instr.fieldAt t x f) w u S := by
  obtain ⟨a, rfl, hr⟩ := ptr_add hv h
  have hf' : fs[f]? = some fd := by rw [← Array.getElem?_toList]; exact hf
  refine VOk.pure hi ?_ hr
  simp only [Instr.fieldAt, Sem.run_bind, run_underlying hu, Result.andThen_ok, hf', Instr.sureAddr, Sem.run_pure, fieldPlace, run_sizeOf hn]
  rw [if_neg (by omega)]
  rfl

theorem idx_some {j : Int} {n m : Nat} (h : idx j n = some m) : 0 ≤ j ∧ j < n ∧ m = j.toNat ∧ m < n := by
  unfold idx at h
  split at h
  · rename_i hh; cases h; exact ⟨hh.1, hh.2, rfl, by omega⟩
  · cases h

theorem op_iaddr_sl (hi : Inv c M R S w) {t e : TypeId} {n : Nat} {ex : Bool} {xs : List V} {k : IntKind} {j : Int} {m : Nat} {v : V} {x y : Value} (hu : P.underlying t = some (.slice e)) (hn : szOf P e = some n)
    (hx : Rep M R (.sl ex xs) x) (hy : Rep M R (.int k j) y) (hj : idx j xs.length = some m) (hv : xs[m]? = some v) (hl : v.cells.length = n) : VOk P c M R (Instr.indexAt t x y) w (.ro v.cells) S := by
  obtain ⟨h0, h1, hm, hlt⟩ := idx_some hj
  rw [hy.int_inv]
  cases hx with
  | sl0 => simp at hlt
  | sl _ _ b off n' cap hne hc he ha =>
    obtain ⟨hn', hat⟩ := ha.get hv
    have : n' = n := by omega
    subst this
    refine VOk.pure hi ?_ (.ro v.cells b (off + m * n') hat)
    simp only [Instr.indexAt, asIntOf, Sem.run_bind, Sem.run_pure, Result.andThen_ok, run_underlying hu]
    simp [h0, h1, run_sizeOf hn, addr_add, hm]

theorem op_iaddr_gs (hi : Inv c M R S w) {t e : TypeId} {n : Nat} {h ver off len v0 : Nat} {ag : Bool} {rows : List (List V)} {k : IntKind} {j : Int} {m : Nat} {x y : Value} (hu : P.underlying t = some (.slice e)) (hn : szOf P e = some n)
    (hx : Rep M R (.gs h ver off len) x) (hy : Rep M R (.int k j) y) (hj : idx j len = some m) {ty : Nat} (hat : S.at h = .grow ty v0 ag n rows) (hver : v0 = ver) : VOk P c M R (Instr.indexAt t x y) w (.gptr h ver (off + m) n 0) S := by
  obtain ⟨h0, h1, hm, hlt⟩ := idx_some hj
  rw [hy.int_inv]
  subst hver
  have ho := hi.good.objs h
  rw [hat] at ho
  obtain ⟨b, cap, vals, hR, _⟩ := ho
  cases hx with
  | gs0 _ b' n' hR' => simp at hlt
  | gs _ _ _ _ b' c' n' hR' hc _ =>
    rw [hR] at hR'; cases hR'
    refine VOk.pure hi ?_ (.gptr h v0 (off + m) n 0 b cap hR)
    simp only [Instr.indexAt, asIntOf, Sem.run_bind, Sem.run_pure, Result.andThen_ok, run_underlying hu]
    simp [h0, h1, run_sizeOf hn, addr_add, hm, Nat.add_mul]

theorem op_aaddr (hi : Inv c M R S w) {t e : TypeId} {k : Nat} {n : Nat} {v u : V} {kk : IntKind} {j : Int} {m : Nat} {x y : Value} (hu : P.underlying t = some (.array k e)) (hn : szOf P e = some n)
    (hx : Rep M R v x) (hy : Rep M R (.int kk j) y) (hj : idx j k = some m) (h : faddrV (m * n) v = some u) : VOk P c M R (Instr.indexAt t x y) w u S := by
  obtain ⟨h0, h1, hm, hlt⟩ := idx_some hj
  rw [hy.int_inv]
  obtain ⟨a, rfl, hr⟩ := ptr_add hx h
  refine VOk.pure hi ?_ hr
  simp only [Instr.indexAt, asIntOf, Sem.run_bind, Sem.run_pure, Result.andThen_ok, run_underlying hu, Instr.sureAddr]
  simp [h0, h1, run_sizeOf hn, hm]

theorem op_index (hi : Inv c M R S w) {t : TypeId} {b : List UInt8} {k : IntKind} {j : Int} {ch : UInt8} {x y : Value} (hu : P.underlying t = some .string) (hx : Rep M R (.str b) x) (hy : Rep M R (.int k j) y)
    (h : (if 0 ≤ j then b[j.toNat]? else none) = some ch) : VOk P c M R (Instr.index t x y) w (.int .u8 ch.toNat) S := by
  rw [hy.int_inv]
  obtain ⟨s, rfl, rfl⟩ := hx.str_inv
  split at h
  · rename_i h0
    refine VOk.pure hi ?_ (.int _ _)
    have hs : s[j.toNat]? = some ch := by
      rw [List.getElem?_eq_some_iff] at h
      obtain ⟨hl, he⟩ := h
      have hl' : j.toNat < s.size := by rw [Array.length_toList] at hl; exact hl
      rw [getElem?_pos s j.toNat hl']
      simp only [Option.some.injEq]
      exact he
    simp only [Instr.index, asIntOf, Sem.run_bind, Sem.run_pure, Result.andThen_ok, run_underlying hu, h0, if_true, hs]
  · cases h

theorem op_aindex (hi : Inv c M R S w) {t e : TypeId} {k : Nat} {ag : Bool} {n : Nat} {cs r : List V} {u : V} {kk : IntKind} {j : Int} {m : Nat} {x y : Value} (hu : P.underlying t = some (.array k e)) (ha : aggT P e = some ag) (hn : szOf P e = some n)
    (hx : Rep M R (.agg cs) x) (hy : Rep M R (.int kk j) y) (hj : idx j k = some m) (ht : takeN cs (m * n) (bif ag then n else 1) = some r) (hm : mkLoad ag r = some u) : VOk P c M R (Instr.index t x y) w u S := by
  obtain ⟨h0, h1, hm', hlt⟩ := idx_some hj
  rw [hy.int_inv]
  cases hx with
  | agg _ xs hl =>
    obtain ⟨y', hy', hr⟩ := run_part (P := P) (w := w) ha hn hl ht hm
    refine VOk.pure hi ?_ hr
    simp only [Instr.index, asIntOf, Sem.run_bind, Sem.run_pure, Result.andThen_ok, run_underlying hu]
    rw [if_pos ⟨h0, h1⟩]
    simp only [Sem.run_bind, run_sizeOf hn, Result.andThen_ok, ← hm', hy']

theorem op_tassert (hi : Inv c M R S w) {t xt : TypeId} {z v : V} {x : Value} {u : V} (hz : zeroOf P t = some z) (hu : ∃ d, P.underlying t = some d ∧ ∀ ms, d ≠ .interface ms) (hx : Rep M R v x)
    (h : (match v with | .nili => some (V.tup [z, .bool false]) | .iface t' v => some (if t' = t then .tup [v, .bool true] else .tup [z, .bool false]) | _ => none) = some u) : VOk P c M R (Instr.typeAssert x xt t true) w u S := by
  obtain ⟨zx, h1, h2, _⟩ := zero_rep hz w M R
  obtain ⟨d, hd, hni⟩ := hu
  cases v <;> simp only at h <;> first | (cases h; done) | skip
  case nili =>
    cases h
    cases hx
    refine VOk.pure hi ?_ (.tup _ [zx, .bool false] (.cons _ _ _ _ h2 (.cons _ _ _ _ (.bool _) .nil)))
    simp only [Instr.typeAssert, Sem.run_bind, run_underlying hd, Result.andThen_ok]
    cases d <;> first | (exact absurd rfl (hni _)) | simp [h1]
  case iface t' v' =>
    cases h
    cases hx with
    | iface _ _ y hy =>
      by_cases ht : t' = t
      · rw [if_pos ht]
        subst ht
        refine VOk.pure hi ?_ (.tup _ [y, .bool true] (.cons _ _ _ _ hy (.cons _ _ _ _ (.bool _) .nil)))
        simp only [Instr.typeAssert, Sem.run_bind, run_underlying hd, Result.andThen_ok]
        cases d <;> first | (exact absurd rfl (hni _)) | simp
      · rw [if_neg ht]
        refine VOk.pure hi ?_ (.tup _ [zx, .bool false] (.cons _ _ _ _ h2 (.cons _ _ _ _ (.bool _) .nil)))
        simp only [Instr.typeAssert, Sem.run_bind, run_underlying hd, Result.andThen_ok]
        cases d <;> first | (exact absurd rfl (hni _)) | simp [h1, ht]

theorem op_len_str (hi : Inv c M R S w) {t ty : TypeId} {d : TypeDesc} (hu : P.underlying t = some d) (hd : isSeq d = true) {v u : V} {x : Value} (hx : Rep M R v x)
    (hk : d = .string → ∃ b, v = .str b) (hk2 : d ≠ .string → ∀ b, v ≠ .str b) (h : lenV v = some u) : VOk P c M R (Builtin.len_ #[t] ty #[x]) w u S := by
  cases v <;> simp only [lenV] at h <;> first | (cases h; done) | skip
  case str b =>
    cases d <;> simp only [isSeq] at hd <;> first | (cases hd; done) | skip
    · cases h
      obtain ⟨s, rfl, rfl⟩ := hx.str_inv
      refine VOk.pure hi (x := .int .i64 s.size) ?_ (by have := Rep.int (M := M) (R := R) .i64 (s.data.toList.length : Int); simpa using this)
      simp [Builtin.len_, run_underlying hu, goInt]
    · exact absurd rfl (hk2 (by simp) b)
  case sl ex xs =>
    cases d <;> simp only [isSeq] at hd <;> first | (cases hd; done) | skip
    · obtain ⟨b, hb⟩ := hk rfl; cases hb
    · cases h
      cases hx with
      | sl0 => exact VOk.pure hi (by simp [Builtin.len_, run_underlying hu, goInt]) (.int _ _)
      | sl => exact VOk.pure hi (by simp [Builtin.len_, run_underlying hu, goInt]) (.int _ _)
  case gs h' ver off n =>
    cases d <;> simp only [isSeq] at hd <;> first | (cases hd; done) | skip
    · obtain ⟨b, hb⟩ := hk rfl; cases hb
    · cases h
      cases hx with
      | gs => exact VOk.pure hi (by simp [Builtin.len_, run_underlying hu, goInt]) (.int _ _)
      | gs0 => exact VOk.pure hi (by simp [Builtin.len_, run_underlying hu, goInt]) (.int _ _)

theorem op_conv_int (hi : Inv c M R S w) {s d : TypeId} {k0 k k' : IntKind} {n : Int} {x : Value} (hs : P.underlying s = some (.int k0)) (hd : P.underlying d = some (.int k)) (hx : Rep M R (.int k' n) x) :
    VOk P c M R (convert s d x) w (.int k (k.wrap n)) S := by
  rw [hx.int_inv]
  refine VOk.pure hi ?_ (.int _ _)
  simp only [convert, Sem.run_bind, run_underlying hs, run_underlying hd, Result.andThen_ok]
  rfl

theorem op_conv_f2i (hi : Inv c M R S w) {s d : TypeId} {k0 : FloatKind} {k : IntKind} {f : FloatKind} {n : Nat} {x : Value} {v : V} (hs : P.underlying s = some (.float k0)) (hd : P.underlying d = some (.int k)) (hx : Rep M R (.flt f n) x) (h : fltInt k f n = some v) :
    VOk P c M R (convert s d x) w v S := by
  rw [hx.flt_inv]
  unfold fltInt at h
  split at h
  · rename_i m hm
    split at h
    · rename_i hle
      cases h
      refine VOk.pure hi ?_ (.int _ _)
      simp only [convert, Sem.run_bind, run_underlying hs, run_underlying hd, Result.andThen_ok, Conv.floatToInt, hm, hle, and_self, if_true]
      rfl
    · cases h
  · cases h

theorem op_conv_same (hi : Inv c M R S w) {s d : TypeId} {b : List UInt8} {x : Value} (hs : P.underlying s = some .string) (hd : P.underlying d = some .string) (hx : Rep M R (.str b) x) :
    VOk P c M R (convert s d x) w (.str b) S := by
  obtain ⟨s', rfl, rfl⟩ := hx.str_inv
  refine VOk.pure hi ?_ (.str _)
  simp only [convert, Sem.run_bind, run_underlying hs, run_underlying hd, Result.andThen_ok]
  rfl

theorem op_conv_rune (hi : Inv c M R S w) {s d : TypeId} {k0 k' : IntKind} {n : Int} {x : Value} (hs : P.underlying s = some (.int k0)) (hd : P.underlying d = some .string) (hx : Rep M R (.int k' n) x) :
    VOk P c M R (convert s d x) w (.str (Utf8.encode n).data.toList) S := by
  rw [hx.int_inv]
  refine VOk.pure hi ?_ (.str _)
  simp only [convert, Sem.run_bind, run_underlying hs, run_underlying hd, Result.andThen_ok]
  rfl
end

/-! slicing -/
theorem bound_run {P : Program} {M R e} {a : Act} (he : RepEnv M R e a.tmps) {x : Operand} {y : Opd} (ht : trOpd x = some y) {dflt top l : Nat} {code : BoundsCode} (h : boundOf e dflt top (some y) = some l) (w : World) :
    (Instr.sliceBound (a.eval x) top code).run P w = .ok l w ∧ l ≤ top := by
  have hr := opd_rep he ht
  simp only [boundOf] at h
  split at h
  · rename_i k i hg
    rw [hg] at hr
    split at h
    · rename_i hc
      cases h
      refine ⟨?_, by omega⟩
      simp only [hr.int_inv, Instr.sliceBound, asIntOf, Sem.run_bind, Sem.run_pure, Result.andThen_ok]
      rw [if_pos hc]; rfl
    · cases h
  · cases h

theorem bounds_run {P : Program} {M R e} {a : Act} (he : RepEnv M R e a.tmps) {lo hi mx : Option Operand} {lo' hi' mx' : Option Opd} (hlo : trOptOpd lo = some lo') (hhi : trOptOpd hi = some hi') (hmx : trOptOpd mx = some mx')
    {b : Bool} {len cap l h m : Nat} (hm : boundOf e cap cap mx' = some m) (hh : boundOf e len m hi' = some h) (hl : boundOf e 0 h lo' = some l) (hno : mx'.isSome → hi'.isSome) (w : World) :
    (Instr.sliceBounds b len cap (lo.map a.eval) (hi.map a.eval) (mx.map a.eval)).run P w = .ok (l, h, m) w := by
  have hlow : (lo = none ∧ l = 0) ∨ ∃ x, lo = some x ∧ ∀ code, (Instr.sliceBound (a.eval x) h code).run P w = .ok l w := by
    cases lo with
    | none =>
      simp only [trOptOpd, Option.some.injEq] at hlo; subst hlo
      simp only [boundOf, Option.some.injEq] at hl; exact .inl ⟨rfl, hl.symm⟩
    | some x =>
      simp only [trOptOpd, Option.map_eq_some_iff] at hlo
      obtain ⟨y, hy, rfl⟩ := hlo
      exact .inr ⟨x, rfl, fun code => (bound_run he hy hl w).1⟩
  cases mx with
  | none =>
    simp only [trOptOpd, Option.some.injEq] at hmx; subst hmx
    simp only [boundOf, Option.some.injEq] at hm; subst hm
    cases hi with
    | none =>
      simp only [trOptOpd, Option.some.injEq] at hhi; subst hhi
      simp only [boundOf, Option.some.injEq] at hh; subst hh
      rcases hlow with ⟨rfl, rfl⟩ | ⟨x0, rfl, h0⟩
      · simp only [Instr.sliceBounds, Option.map_none, Option.map_some, Sem.run_bind, Sem.run_pure, Result.andThen_ok, Option.isSome_none, Bool.false_eq_true, if_false, if_true]
      · simp only [Instr.sliceBounds, Option.map_none, Option.map_some, Sem.run_bind, Sem.run_pure, Result.andThen_ok, Option.isSome_none, Bool.false_eq_true, if_false, h0]
    | some x =>
      simp only [trOptOpd, Option.map_eq_some_iff] at hhi
      obtain ⟨y, hy, rfl⟩ := hhi
      have := fun code => (bound_run (P := P) (code := code) he hy hh w).1
      rcases hlow with ⟨rfl, rfl⟩ | ⟨x0, rfl, h0⟩
      · simp only [Instr.sliceBounds, Option.map_none, Option.map_some, Sem.run_bind, Sem.run_pure, Result.andThen_ok, Option.isSome_none, Bool.false_eq_true, if_false, this, if_true]
      · simp only [Instr.sliceBounds, Option.map_none, Option.map_some, Sem.run_bind, Sem.run_pure, Result.andThen_ok, Option.isSome_none, Bool.false_eq_true, if_false, this, h0]
  | some x =>
    simp only [trOptOpd, Option.map_eq_some_iff] at hmx
    obtain ⟨y, hy, rfl⟩ := hmx
    have h1 := fun code => (bound_run (P := P) (code := code) he hy hm w).1
    cases hi with
    | none =>
      simp only [trOptOpd, Option.some.injEq] at hhi; subst hhi
      exact absurd (hno rfl) (by simp)
    | some x2 =>
      simp only [trOptOpd, Option.map_eq_some_iff] at hhi
      obtain ⟨y2, hy2, rfl⟩ := hhi
      have h2 := fun code => (bound_run (P := P) (code := code) he hy2 hh w).1
      rcases hlow with ⟨rfl, rfl⟩ | ⟨x0, rfl, h0⟩
      · simp only [Instr.sliceBounds, Option.map_none, Option.map_some, Sem.run_bind, Sem.run_pure, Result.andThen_ok, h1, h2, if_true]
      · simp only [Instr.sliceBounds, Option.map_none, Option.map_some, Sem.run_bind, Sem.run_pure, Result.andThen_ok, h1, h2, h0]

theorem boundOf_some_le {e : Env} {dflt top l : Nat} {y : Opd} (h : boundOf e dflt top (some y) = some l) : l ≤ top := by
  simp only [boundOf] at h
  split at h
  · split at h
    · cases h; omega
    · cases h
  · cases h
theorem boundOf_top {e : Env} {dflt top top' l : Nat} {y : Option Opd} (h : boundOf e dflt top y = some l) (ht : top ≤ top') : boundOf e dflt top' y = some l := by
  cases y with
  | none => exact h
  | some y =>
    simp only [boundOf] at h ⊢
    split at h
    · rename_i k i hg
      split at h
      · rename_i hc; cases h; rw [if_pos ⟨hc.1, by omega⟩]
      · cases h
    · cases h
theorem boundOf_some_top {e : Env} {d d' top top' l : Nat} {y : Opd} (h : boundOf e d top (some y) = some l) (ht : top ≤ top') : boundOf e d' top' (some y) = some l := by
  have := boundOf_top h ht
  exact this
theorem boundOf_le {e : Env} {dflt top l : Nat} {y : Option Opd} (h : boundOf e dflt top y = some l) (hd : dflt ≤ top) : l ≤ top := by
  cases y with
  | none => simp only [boundOf, Option.some.injEq] at h; omega
  | some y =>
    simp only [boundOf] at h
    split at h
    · split at h
      · cases h; omega
      · cases h
    · cases h


theorem sliceAt_eq {P : Program} {t : TypeId} {d : TypeDesc} (hu : P.underlying t = some d) (hd : isSeq d = true) (x : Value) (lo hi mx : Option Value) (w : World) :
    (Instr.sliceAt t x lo hi mx).run P w = (Instr.slice t x lo hi mx).run P w := by
  cases d <;> simp only [isSeq] at hd <;> first | (cases hd; done) | skip
  all_goals simp only [Instr.sliceAt, Sem.run_bind, run_underlying hu, Result.andThen_ok]

theorem op_slc {P : Program} {c M R S w e} {a : Act} (hi : Inv c M R S w) (he : RepEnv M R e a.tmps) {t : TypeId} {n : Nat} {lo hi' mx : Option Operand} {lo' hi'' mx' : Option Opd} {v u : V} {x : Value}
    (hlo : trOptOpd lo = some lo') (hhi : trOptOpd hi' = some hi'') (hmx : trOptOpd mx = some mx') (hno : mx'.isSome → hi''.isSome)
    (hu : (P.underlying t = some .string ∧ ∃ b, v = .str b) ∨ ((∃ el, P.underlying t = some (.slice el) ∧ szOf P el = some n) ∧ ∀ b, v ≠ .str b))
    (hx : Rep M R v x) (h : slcV n e S v lo' hi'' mx' = some u) : VOk P c M R (Instr.sliceAt t x (lo.map a.eval) (hi'.map a.eval) (mx.map a.eval)) w u S := by
  rcases hu with ⟨hus, b, rfl⟩ | ⟨⟨el, hus, hn⟩, hnb⟩
  · obtain ⟨s, rfl, rfl⟩ := hx.str_inv
    simp only [slcV] at h
    split at h
    · cases h
    · rename_i hm0
      have hmn : mx' = none := by cases mx' with | none => rfl | some _ => exact absurd rfl hm0
      subst hmn
      have hmn2 : mx = none := by cases mx with
        | none => rfl
        | some q => simp only [trOptOpd, Option.map_eq_some_iff] at hmx; obtain ⟨_, _, h⟩ := hmx; cases h
      subst hmn2
      split at h
      · rename_i h1 hb1
        split at h
        · rename_i l1 hb2
          cases h
          have hsl : s.data.toList.length = s.size := Array.length_toList
          rw [hsl] at hb1
          have hb := bounds_run (P := P) (b := false) (cap := s.size) he hlo hhi hmx rfl hb1 hb2 (fun h => by cases h) w
          refine VOk.pure hi (x := .string (s.extract l1 h1)) ?_ ?_
          · rw [sliceAt_eq hus rfl]
            simp only [Option.map_none] at hb ⊢
            simp only [Instr.slice, Sem.run_bind, run_underlying hus, Result.andThen_ok, Option.isSome_none, Bool.false_eq_true, if_false, hb, Sem.run_pure]
          · have := Rep.str (M := M) (R := R) (s.extract l1 h1)
            rw [Lib.extract_data] at this
            rw [List.drop_take]; exact this
        · cases h
      · cases h
  · cases v <;> simp only [slcV] at h <;> first | (cases h; done) | skip
    case str b => exact absurd rfl (hnb b)
    case sl ex xs =>
      split at h
      · rename_i hall
        have hrow : ∀ v ∈ xs, v.cells.length = n := by
          intro v hm
          exact Nat.eq_of_beq_eq_true ((List.all_eq_true.1 hall) v hm)
        split at h
        · rename_i m hbm
          split at h
          · rename_i h1 hbh
            split at h
            · rename_i l1 hbl
              cases h
              -- the model's bounds: its capacity may be greater than what is known, but only where nothing depends on it
              have hm_le := boundOf_le hbm (Nat.le_refl _)
              have hh_le : h1 ≤ m := by
                cases hi'' with
                | none =>
                  simp only [boundOf, Option.some.injEq] at hbh
                  cases mx' with
                  | none => simp only [boundOf, Option.some.injEq] at hbm; omega
                  | some _ => exact absurd (hno rfl) (by simp)
                | some _ => exact boundOf_some_le hbh
              have hl_le : l1 ≤ h1 := boundOf_le hbl (Nat.zero_le _)
              -- the run at a slice of this length and capacity
              have main : ∀ (base : Option Addr) (cap : Nat), xs.length ≤ cap → x = .slice base xs.length cap →
                  ∃ m', (mx'.isSome → m' = m) ∧ (mx' = none → m' = cap) ∧ m ≤ m' ∧ (Instr.sliceAt t x (lo.map a.eval) (hi'.map a.eval) (mx.map a.eval)).run P w =
                    .ok (.slice (if m' = l1 then base else base.map (·.add (l1 * n))) (h1 - l1) (m' - l1)) w := by
                intro base cap hcap hxe
                subst hxe
                cases mx' with
                | none =>
                  simp only [boundOf, Option.some.injEq] at hbm; subst hbm
                  refine ⟨cap, fun h => (by cases h), fun _ => rfl, hcap, ?_⟩
                  have hb := bounds_run (P := P) (b := true) (len := xs.length) (cap := cap) (m := cap) he hlo hhi hmx rfl (boundOf_top hbh hcap) hbl (fun h => by cases h) w
                  rw [sliceAt_eq hus rfl]
                  simp only [Instr.slice, Sem.run_bind, run_underlying hus, Result.andThen_ok, hb, run_sizeOf hn, Sem.run_pure]
                | some y =>
                  refine ⟨m, fun _ => rfl, fun h => (by cases h), Nat.le_refl _, ?_⟩
                  have hb := bounds_run (P := P) (b := true) (len := xs.length) (cap := cap) (m := m) he hlo hhi hmx (boundOf_some_top hbm hcap) hbh hbl hno w
                  rw [sliceAt_eq hus rfl]
                  simp only [Instr.slice, Sem.run_bind, run_underlying hus, Result.andThen_ok, hb, run_sizeOf hn, Sem.run_pure]
              have hlen : ((xs.take h1).drop l1).length = h1 - l1 := by simp; omega
              cases hx with
              | sl0 _ a0 cap he0 =>
                simp only [List.length_nil] at hm_le
                obtain ⟨m', e1, e2, e3, hr⟩ := main a0 cap (Nat.zero_le _) rfl
                have hh0 : h1 = 0 := by omega
                have hl0 : l1 = 0 := by omega
                subst hh0; subst hl0
                have hrep : Rep M R (.sl (if (0 : Nat) = 0 then ex && ([] : List V).isEmpty else if mx'.isSome then (0 : Nat) == m else ex && (0 : Nat) == ([] : List V).length) (([] : List V).take 0 |>.drop 0)) (.slice (if m' = 0 then a0 else a0.map (·.add (0 * n))) (0 - 0) (m' - 0)) := by
                  refine .sl0 _ _ _ ?_
                  intro h
                  simp only [if_true, Bool.and_eq_true] at h
                  obtain ⟨rfl, rfl⟩ := he0 h.1
                  cases mx' with
                  | none => rw [e2 rfl]; simp
                  | some y => rw [e1 rfl]; refine ⟨by simp, by omega⟩
                exact VOk.pure hi hr hrep
              | sl _ _ b off n' cap hxne hc he0 ha =>
                have hn' : n' = n := by
                  cases ha with
                  | nil => exact absurd rfl hxne
                  | cons _ _ _ v vs hl _ _ => rw [← hl]; exact hrow v (by simp)
                subst hn'
                obtain ⟨m', e1, e2, e3, hr⟩ := main _ cap hc rfl
                have hex : (if mx'.isSome then h1 == m else ex && h1 == xs.length) = true → m' - l1 = h1 - l1 := by
                  cases mx' with
                  | none =>
                    intro h
                    simp only [Option.isSome_none, Bool.false_eq_true, if_false, Bool.and_eq_true, beq_iff_eq] at h
                    rw [e2 rfl, he0 h.1, h.2]
                  | some y =>
                    intro h
                    simp only [Option.isSome_some, if_true, beq_iff_eq] at h
                    rw [e1 rfl, h]
                by_cases hem : (xs.take h1).drop l1 = []
                · have h0 : h1 - l1 = 0 := by rw [← hlen, hem]; rfl
                  rw [hem]
                  rw [h0] at hr
                  have hlh : l1 = h1 := by omega
                  refine VOk.pure hi hr (.sl0 _ _ _ fun h => ?_)
                  rw [if_pos hlh] at h
                  simp only [Bool.and_eq_true, List.isEmpty_iff] at h
                  exact absurd h.2 hxne
                · have hlh : ¬ l1 = h1 := by
                    intro e
                    apply hem
                    apply List.eq_nil_of_length_eq_zero
                    omega
                  rw [if_neg hlh]
                  have hne : m' ≠ l1 := by
                    intro e
                    apply hem
                    apply List.eq_nil_of_length_eq_zero
                    omega
                  rw [if_neg hne] at hr
                  simp only [Option.map_some, addr_add] at hr
                  have := Rep.sl (M := M) (R := R) (if mx'.isSome then h1 == m else ex && h1 == xs.length) ((xs.take h1).drop l1) b (off + l1 * n') n' (m' - l1) hem (by rw [hlen]; omega) (by rw [hlen]; exact hex) (((ha.take h1)).drop l1)
                  rw [hlen] at this
                  exact VOk.pure hi hr this
            · cases h
          · cases h
        · cases h
      · cases h
    case gs g ver off len =>
      split at h
      · cases h
      · rename_i hm0
        have hmn : mx' = none := by cases mx' with | none => rfl | some _ => exact absurd rfl hm0
        subst hmn
        split at h
        · rename_i v0 ag sz rows hat
          split at h
          · rename_i hvs
            obtain ⟨rfl, rfl⟩ := hvs
            split at h
            · rename_i h1 hbh
              split at h
              · rename_i l1 hbl
                cases h
                have ho := hi.good.objs g
                rw [hat] at ho
                obtain ⟨b, cap, vals, hR, hh, h4, h5, h6, hrl, h7⟩ := ho
                cases hx with
                | gs0 _ b' n' hR' => rw [hR] at hR'; cases hR'; exact absurd h7.2 (Nat.lt_irrefl _)
                | gs _ _ _ _ b' c' n' hR' hc' hcp =>
                  rw [hR] at hR'; cases hR'
                  have hl_le : l1 ≤ h1 := boundOf_le hbl (Nat.zero_le _)
                  have hh_le : h1 ≤ cap - off := by
                    cases hi'' with
                    | none => simp only [boundOf, Option.some.injEq] at hbh; omega
                    | some _ => have := boundOf_some_le hbh; omega
                  have hmn2 : mx = none := by cases mx with
                    | none => rfl
                    | some q => simp only [trOptOpd, Option.map_eq_some_iff] at hmx; obtain ⟨_, _, h⟩ := hmx; cases h
                  subst hmn2
                  have hb := bounds_run (P := P) (b := true) (len := len) (cap := cap - off) (m := cap - off) he hlo hhi hmx rfl (boundOf_top hbh (by omega)) hbl (fun h => by cases h) w
                  simp only [Option.map_none] at hb ⊢
                  have hr : (Instr.sliceAt t (.slice (some ⟨b, off * sz, none⟩) len (cap - off)) (lo.map a.eval) (hi'.map a.eval) none).run P w =
                      .ok (.slice (if cap - off = l1 then some ⟨b, off * sz, none⟩ else (some (⟨b, off * sz, none⟩ : Addr)).map (·.add (l1 * sz))) (h1 - l1) (cap - off - l1)) w := by
                    rw [sliceAt_eq hus rfl]
                    simp only [Instr.slice, Sem.run_bind, run_underlying hus, Result.andThen_ok, hb, run_sizeOf hn, Sem.run_pure]
                  split
                  · rename_i e0
                    subst e0
                    rw [Nat.sub_self] at hr
                    exact VOk.pure hi hr (.sl0 _ _ _ (fun h => by cases h))
                  · have hne : cap - off ≠ l1 := by omega
                    rw [if_neg hne] at hr
                    simp only [Option.map_some, addr_add] at hr
                    have := Rep.gs (M := M) (R := R) g v0 (off + l1) (h1 - l1) b cap sz hR (by omega) hcp
                    rw [show (off + l1) * sz = off * sz + l1 * sz by rw [Nat.add_mul], show cap - (off + l1) = cap - off - l1 by omega] at this
                    exact VOk.pure hi hr this
              · cases h
            · cases h
          · cases h
        · rename_i ag sz hat
          split at h
          · rename_i hbh
            split at h
            · rename_i hbl
              cases h
              have ho := hi.good.objs g
              rw [hat] at ho
              obtain ⟨b0, n0, hR⟩ := ho
              have hmn2 : mx = none := by cases mx with
                | none => rfl
                | some q => simp only [trOptOpd, Option.map_eq_some_iff] at hmx; obtain ⟨_, _, h⟩ := hmx; cases h
              subst hmn2
              cases hx with
              | gs _ _ _ _ b' c' n' hR' hc' h0' =>
                rcases Nat.eq_zero_or_pos ver with hv | hv
                · subst hv; rw [hR] at hR'; cases hR'; exact absurd h0' (Nat.lt_irrefl _)
                · rw [hi.good.vers g 0 (by rw [hat]; rfl) ver hv] at hR'; cases hR'
              | gs0 _ b' n' hR' =>
                have hb := bounds_run (P := P) (b := true) (len := 0) (cap := 0) (m := 0) he hlo hhi hmx rfl hbh hbl (fun h => by cases h) w
                simp only [Option.map_none] at hb ⊢
                refine VOk.pure hi (x := .slice (if (0 : Nat) = 0 then none else (none : Option Addr).map (·.add (0 * n))) (0 - 0) (0 - 0)) ?_ (.sl0 _ _ _ (fun h => by cases h))
                rw [sliceAt_eq hus rfl]
                simp only [Instr.slice, Sem.run_bind, run_underlying hus, Result.andThen_ok, hb, run_sizeOf hn, Sem.run_pure]
            · cases h
          · cases h
        · cases h

end Ab
