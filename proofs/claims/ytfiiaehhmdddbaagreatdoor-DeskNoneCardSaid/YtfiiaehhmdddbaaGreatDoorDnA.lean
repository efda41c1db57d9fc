/-
  The evaluator of the program over plain data; memory and its laws.
-/
import Derived.Orders
import Derived.Laws.Rows
import Derived.Laws.CopyRow
import Derived.Laws.Entries
import Derived.Laws.Cells
import Derived.Laws.Append
import Derived.Laws.AppendOwn
import Derived.Lib.AppendStr
set_option linter.all false
namespace Go.Dn

/-- Data: what a value says, without addresses. 'vs', 'iptr': memory that nobody writes any more; 'ptr', 'rs': the logical heap. -/
inductive D where
  | bool (b : Bool)
  | int (k : IntKind) (n : Int)
  | str (l : List UInt8)
  | nilp | nils | nilfn | nilif | nilm
  | ptr (id ver off : Nat)
  | iptr (cs : List D)
  | vs (xs : List (List D)) (clip : Bool)
  | rs (id ver off len cap sz : Nat) (clip : Bool)
  | fn (f : Fn) (first captured : List D)
  | ifc (t : TypeId) (d : D)
  | agg (cs : List D)
  | tup (cs : List D)
  deriving Inhabited

def D.cells : D → List D
  | .agg cs => cs
  | d => [d]
/-- What one cell may hold. -/
def D.isCell : D → Bool
  | .agg _ => false
  | .tup _ => false
  | _ => true
def D.okc : D → Bool
  | .tup _ => false
  | _ => true
def undefD : D := .tup []

structure Blk where
  ver : Nat
  cells : List D
abbrev H := List (Option Blk)
def H.get (h : H) (id : Nat) : Option Blk := (h[id]?).join
def rdC (h : H) (id ver off n : Nat) : Option (List D) :=
  match h.get id with
  | some b => if b.ver = ver ∧ off + n ≤ b.cells.length then some ((b.cells.drop off).take n) else none
  | none => none
def splice (l : List D) (off : Nat) (cs : List D) : List D := l.take off ++ cs ++ l.drop (off + cs.length)
def wrC (h : H) (id ver off : Nat) (cs : List D) : Option H :=
  match h.get id with
  | some b => if b.ver = ver ∧ off + cs.length ≤ b.cells.length then some (h.set id (some { b with cells := splice b.cells off cs })) else none
  | none => none

mutual
/-- All references are to blocks below m. -/
def rb (m : Nat) : D → Bool
  | .ptr id _ _ => decide (id < m)
  | .rs id _ _ _ _ _ _ => decide (id < m)
  | .fn _ a b => rbL m a && rbL m b
  | .ifc _ d => rb m d
  | .agg cs => rbL m cs
  | .tup cs => rbL m cs
  | _ => true
def rbL (m : Nat) : List D → Bool
  | [] => true
  | d :: ds => rb m d && rbL m ds
end

def chunks (sz : Nat) : Nat → List D → List (List D)
  | 0, _ => []
  | n + 1, l => l.take sz :: chunks sz n (l.drop sz)

/-- What lies behind references from lo on becomes plain data. -/
def frz : Nat → H → Nat → D → Option D
  | 0, _, _, _ => none
  | k + 1, h, lo, d =>
    if rb lo d then some d else
    match d with
    | .rs id ver off len _ sz clip => do
      let cs ← rdC h id ver off (len * sz)
      let ys ← cs.mapM (frz k h lo)
      if rbL 0 ys then some (.vs (chunks sz len ys) clip) else none
    | .ptr id ver off =>
      match h.get id with
      | some b =>
        if b.ver = ver then do
          let ys ← (b.cells.drop off).mapM (frz k h lo)
          if rbL 0 ys then some (.iptr ys) else none
        else none
      | none => none
    | .agg cs => do some (.agg (← cs.mapM (frz k h lo)))
    | .tup cs => do some (.tup (← cs.mapM (frz k h lo)))
    | .fn f a b => do some (.fn f (← a.mapM (frz k h lo)) (← b.mapM (frz k h lo)))
    | .ifc t d => do some (.ifc t (← frz k h lo d))
    | _ => none

/-- What is asked of a type. -/
inductive Kd where
  | int (k : IntKind) | bool | str
  | struct (fs : List (Nat × Nat × Bool))      -- offset, cells, is it an aggregate
  | arr (n esz : Nat) (eagg : Bool)
  | slice (esz ebytes : Nat) (ez : List D) (byte : Bool)
  | ptr | iface | func | map
  | other
structure TyI where
  kd : Kd
  size : Nat
  agg : Bool
  zero : List D

def TyI.isIface (i : TyI) : Bool := match i.kd with | .iface => true | _ => false

inductive Mode where
  | auto | lent | scopd | grow

structure Ann where
  ty : TypeId → TyI
  mode : FuncId → FuncId → Mode
  ro : FuncId → Tmp → Bool
  fz : FuncId → Tmp → Bool
  glob : Nat → Option (List D)
  meth : TypeId → String → Option FuncId
  ord : FuncId → Nat → Option (List Nat)      -- the order a drawing region is read in (else: as it stands)
  pairs : FuncId → Nat → List (Nat × Nat)     -- places there: an operation that only reads, and a later or earlier place at which it must read the same
  ntmps : FuncId → Nat
  eqT : TypeId → Bool      -- '==' of these aggregates is that of their cells (whole numbers, bools, strings)

def ofS : Value → Option D
  | .bool b => some (.bool b)
  | .int k n => some (.int k n)
  | .string s => some (.str s.data.toList)
  | .pointer none => some .nilp
  | .slice none 0 0 => some .nils
  | .map none => some .nilm
  | .nilFunc => some .nilfn
  | .nilIface => some .nilif
  | _ => none
def ofV : Value → Option D
  | .agg cs => (cs.toList.mapM ofS).map .agg
  | .tuple ⟨[]⟩ => some undefD
  | v => ofS v

def isAggP (P : Program) (t : TypeId) : Bool :=
  match P.underlying t with
  | some (.struct _) => true
  | some (.array ..) => true
  | _ => false
def zeroP (P : Program) (t : TypeId) : List D :=
  match (P.info? t).bind (·.zero) with
  | some v => match ofV v with | some d => if d.okc then d.cells else [] | none => []
  | none => []
def sizeP (P : Program) (t : TypeId) : Nat := if (P.underlying t).isSome then P.cellsOf t else 0
def tyOf (P : Program) (t : TypeId) : TyI where
  kd := match P.underlying t with
    | some (.int k) => .int k
    | some .bool => .bool
    | some .string => .str
    | some (.struct fs) => if t < P.types.size then .struct (fs.toList.map fun f => (f.offset, sizeP P f.type, isAggP P f.type)) else .other
    | some (.array n e) => if t < P.types.size then .arr n (sizeP P e) (isAggP P e) else .other
    | some (.slice e) => if t < P.types.size then .slice (sizeP P e) (P.bytesOf e) (zeroP P e) (match P.underlying e with | some (.int .u8) => true | _ => false) else .other
    | some (.pointer _) => .ptr
    | some (.interface _) => .iface
    | some (.func ..) => .func
    | some (.map ..) => .map
    | _ => .other
  size := sizeP P t
  agg := isAggP P t
  zero := zeroP P t

abbrev Env := List (Nat × D)
def Env.get : Env → Nat → D
  | [], _ => undefD
  | (t, d) :: e, k => if t = k then d else Env.get e k
def Env.put (e : Env) : Option Tmp → D → Env
  | some t, d => (t, d) :: e
  | none, _ => e
def Env.init (k : Nat) : List D → Env
  | [] => []
  | d :: ds => (k, d) :: Env.init (k + 1) ds
def Env.compact (n : Nat) (e : Env) : Env := (List.range n).map fun t => (t, e.get t)

def mkV (agg : Bool) (cs : List D) : Option D :=
  if agg then some (.agg cs) else match cs with | [c] => some c | _ => none

def loadC (h : H) (n : Nat) : D → Option (List D)
  | .ptr id ver off => rdC h id ver off n
  | .iptr cs => if n ≤ cs.length then some (cs.take n) else none
  | _ => none
def loadD (A : Ann) (h : H) (t : TypeId) (d : D) : Option D := (loadC h (A.ty t).size d).bind (mkV (A.ty t).agg)

def storeD (A : Ann) (base : Nat) (h : H) (t : TypeId) : D → D → Option H
  | .ptr id ver off, v =>
    if v.okc = true ∧ v.cells.length = (A.ty t).size ∧ (A.ty t).size ≠ 0 ∧ (base ≤ id ∨ rbL (id + 1) v.cells = true) then wrC h id ver off v.cells else none
  | _, _ => none

def allocD (h : H) (cs : List D) : D × H := (.ptr h.length 0 0, h ++ [some ⟨0, cs⟩])

def fieldOff (A : Ann) (s f : Nat) : Option (Nat × Nat × Bool) :=
  match (A.ty s).kd with
  | .struct fs => fs[f]?
  | _ => none

def partD (agg : Bool) (cs : List D) (off sz : Nat) : Option D :=
  if agg then (if off + sz ≤ cs.length then some (.agg ((cs.drop off).take sz)) else none) else cs[off]?

def fieldAddrD (A : Ann) (s f : Nat) (x : D) : Option D := do
  let (off, sz, _) ← fieldOff A s f
  if sz = 0 then none else
  match x with
  | .ptr id ver o => some (.ptr id ver (o + off))
  | .iptr cs => if off ≤ cs.length then some (.iptr (cs.drop off)) else none
  | _ => none

def fieldD (A : Ann) (s f : Nat) (x : D) : Option D := do
  let (off, sz, ag) ← fieldOff A s f
  match x with
  | .agg cs => partD ag cs off sz
  | _ => none

def indexAddrD (A : Ann) (t : TypeId) (x : D) (i : D) : Option D :=
  match i with
  | .int _ n =>
    match (A.ty t).kd, x with
    | .slice esz _ _ _, .vs xs _ => if 0 ≤ n then (match xs[n.toNat]? with | some c => if c.length = esz then some (.iptr c) else none | none => none) else none
    | .slice esz _ _ _, .rs id ver off len _ sz _ => if 0 ≤ n ∧ n < len ∧ sz = esz then some (.ptr id ver (off + n.toNat * esz)) else none
    | .arr len esz _, .ptr id ver off => if 0 ≤ n ∧ n < len then some (.ptr id ver (off + n.toNat * esz)) else none
    | .arr len esz _, .iptr cs => if 0 ≤ n ∧ n < len ∧ n.toNat * esz ≤ cs.length then some (.iptr (cs.drop (n.toNat * esz))) else none
    | _, _ => none
  | _ => none

def indexD (A : Ann) (t : TypeId) (x : D) (i : D) : Option D :=
  match i with
  | .int _ n =>
    match (A.ty t).kd, x with
    | .arr len esz ag, .agg cs => if 0 ≤ n ∧ n < len then partD ag cs (n.toNat * esz) esz else none
    | .str, .str l => if 0 ≤ n then (l[n.toNat]?).map (fun c => .int .u8 c.toNat) else none
    | _, _ => none
  | _ => none

def natOf : D → Option Nat
  | .int _ n => if 0 ≤ n then some n.toNat else none
  | _ => none
def optNat : Option D → Option (Option Nat)
  | none => some none
  | some d => (natOf d).map some

/-- The first element has so many cells (so have all). -/
def headOk (esz : Nat) : List (List D) → Bool
  | [] => true
  | x :: _ => x.length == esz
/-- x[lo:hi:mx] -/
def sliceD (A : Ann) (h : H) (t : TypeId) (x : D) (lo hi mx : Option D) : Option D := do
  let lo ← optNat lo
  let hi ← optNat hi
  let mx ← optNat mx
  let l := lo.getD 0
  match (A.ty t).kd, x with
  | .str, .str s =>
    let b := hi.getD s.length
    if mx.isNone ∧ l ≤ b ∧ b ≤ s.length then some (.str ((s.drop l).take (b - l))) else none
  | .slice _ _ _ _, .nils => if l = 0 ∧ hi.getD 0 = 0 ∧ mx.getD 0 = 0 ∧ (mx.isSome → hi.isSome) then some .nils else none
  | .slice esz _ _ _, .vs xs clip =>
    let b := hi.getD xs.length
    if l ≤ b ∧ b ≤ mx.getD b ∧ mx.getD b ≤ xs.length ∧ (mx.isSome → hi.isSome) ∧ (l = 0 ∨ headOk esz xs = true) then
      some (.vs ((xs.drop l).take (b - l)) (match mx with | some m => m == b | none => clip && b == xs.length)) else none
  | .slice esz _ _ _, .rs id ver off len cap sz clip =>
    let b := hi.getD len
    if sz = esz ∧ l ≤ b ∧ b ≤ mx.getD b ∧ mx.getD b ≤ cap ∧ (mx.isSome → hi.isSome) then
      if 0 < l ∧ l = b then some (.vs [] (mx == some b)) else
      some (.rs id ver (off + l * esz) (b - l) ((mx.getD cap) - l) sz (match mx with | some m => m == b | none => clip && b == len)) else none
  | .arr n esz _, .ptr id ver off =>
    let b := hi.getD n
    match h.get id with
    | some k =>
      if l ≤ b ∧ b ≤ mx.getD n ∧ mx.getD n ≤ n ∧ (mx.isSome → hi.isSome) ∧ k.ver = ver ∧ off + n * esz ≤ k.cells.length then
        if 0 < l ∧ l = b then some (.vs [] false) else
        some (.rs id ver (off + l * esz) (b - l) (mx.getD n - l) esz (mx.getD n == b)) else none
    | none => none
  | .arr n esz _, .iptr cs =>
    let b := hi.getD n
    if l ≤ b ∧ b ≤ mx.getD n ∧ mx.getD n ≤ n ∧ (mx.isSome → hi.isSome) ∧ b * esz ≤ cs.length then
      some (.vs (chunks esz (b - l) (cs.drop (l * esz))) (mx.getD n == b)) else none
  | _, _ => none

/-- The elements of what is appended or copied. -/
def srcC (h : H) (esz : Nat) : D → Option (List D)
  | .nils => some []
  | .vs xs _ => if headOk esz xs then some xs.flatten else none
  | .rs id ver off len _ sz _ => if sz = esz then rdC h id ver off (len * sz) else none
  | .str l => if esz = 1 then some (l.map fun c => .int .u8 c.toNat) else none
  | _ => none
def lenD : D → Option Nat
  | .nils => some 0
  | .vs xs _ => some xs.length
  | .rs _ _ _ len _ _ _ => some len
  | .str l => some l.length
  | .nilm => some 0
  | _ => none

def lenS : D → Option Nat
  | .nils => some 0
  | .vs xs _ => some xs.length
  | .rs _ _ _ len _ _ _ => some len
  | _ => none

/-- How many elements may stand in a row. -/
def maxN : Nat := 1099511627776
def newRow (fz : Bool) (h : H) (esz n : Nat) (cs : List D) : Option (D × H) :=
  if fz then (if rbL 0 cs then some (.vs (chunks esz n cs) false, h) else none)
  else some (.rs h.length 0 0 n n esz false, h ++ [some ⟨0, cs⟩])

def appendC (A : Ann) (fz : Bool) (base : Nat) (h : H) (t : TypeId) (s : D) (src : List D) (m : Nat) : Option (D × H) :=
  match (A.ty t).kd with
  | .slice esz eb ez _ =>
    match lenD s with
    | none => none
    | some n =>
      if esz = 0 ∨ ez.length ≠ esz ∨ maxN < (n + m) * eb ∨ maxN < n + m then none else
      match s with
      | .nils => if m = 0 then some (.nils, h) else newRow fz h esz m src
      | .vs xs clip =>
        if m = 0 then some (.vs xs clip, h)
        else if clip then
          match srcC h esz (.vs xs clip) with
          | some old => newRow fz h esz (n + m) (old ++ src)
          | none => none
        else none
      | .rs id ver off len cap sz clip =>
        if m = 0 then some (.rs id ver off len cap sz clip, h)
        else if sz ≠ esz then none
        else if len + m ≤ cap then
          if base ≤ id ∨ rbL (id + 1) src = true then
            match wrC h id ver (off + len * sz) src with
            | some h' => some (.rs id ver off (len + m) cap sz false, h')
            | none => none
          else none
        else if clip then
          match srcC h esz (.rs id ver off len cap sz clip) with
          | some old => newRow fz h esz (n + m) (old ++ src)
          | none => none
        else
          match h.get id with
          | some b =>
            if b.ver = ver ∧ off + len * sz = b.cells.length ∧ (base ≤ id ∨ rbL (id + 1) src = true) ∧ fz = false then
              some (.rs id (ver + 1) 0 (len + m) (len + m) sz false, h.set id (some ⟨ver + 1, b.cells.drop off ++ src⟩))
            else none
          | none => none
      | _ => none
  | _ => none

def appendD (A : Ann) (fz : Bool) (base : Nat) (h : H) (t : TypeId) (s x : D) : Option (D × H) :=
  match (A.ty t).kd with
  | .slice esz _ _ _ =>
    match srcC h esz x, lenD x with
    | some src, some m => appendC A fz base h t s src m
    | _, _ => none
  | _ => none
/-- append(s, make([]T, x)...) -/
def appendZ (A : Ann) (fz : Bool) (base : Nat) (h : H) (t : TypeId) (s x : D) : Option (D × H) :=
  match (A.ty t).kd, natOf x with
  | .slice esz _ ez _, some m => if ez.length = esz ∧ m ≤ maxN then appendC A fz base h t s (List.replicate m ez).flatten m else none
  | _, _ => none

def intOp (op : BinOp) (k : IntKind) (a b : Int) : Option D :=
  match op with
  | .add => some (.int k (k.wrap (a + b)))
  | .sub => some (.int k (k.wrap (a - b)))
  | .mul => some (.int k (k.wrap (a * b)))
  | .quo => if b = 0 then none else some (.int k (k.wrap (a.tdiv b)))
  | .rem => if b = 0 then none else some (.int k (a.tmod b))
  | .and => some (.int k (k.wrap (BitVec.ofInt k.bits a &&& BitVec.ofInt k.bits b).toNat))
  | .or => some (.int k (k.wrap (BitVec.ofInt k.bits a ||| BitVec.ofInt k.bits b).toNat))
  | .xor => some (.int k (k.wrap (BitVec.ofInt k.bits a ^^^ BitVec.ofInt k.bits b).toNat))
  | .andNot => some (.int k (k.wrap (BitVec.ofInt k.bits a &&& ~~~(BitVec.ofInt k.bits b)).toNat))
  | .eql => some (.bool (a == b))
  | .neq => some (.bool (a != b))
  | .lss => some (.bool (decide (a < b)))
  | .leq => some (.bool (decide (a ≤ b)))
  | .gtr => some (.bool (decide (a > b)))
  | .geq => some (.bool (decide (a ≥ b)))
  | _ => none

def strOp (op : BinOp) (a b : List UInt8) : Option D :=
  match op with
  | .add => if a.length + b.length ≤ maxN then some (.str (a ++ b)) else none
  | .eql => some (.bool (a == b))
  | .neq => some (.bool (!(a == b)))
  | .lss => some (.bool (Op.bytesLess a b))
  | .leq => some (.bool (Op.bytesLess a b || a == b))
  | .gtr => some (.bool (!(Op.bytesLess a b || a == b)))
  | .geq => some (.bool (!(Op.bytesLess a b)))
  | _ => none

/-- Cells that are compared one by one. -/
def eqC : List D → List D → Option Bool
  | [], [] => some true
  | .int k a :: x, .int k' b :: y => if k = k' then (eqC x y).map ((a == b) && ·) else none
  | .bool a :: x, .bool b :: y => (eqC x y).map ((a == b) && ·)
  | .str a :: x, .str b :: y => (eqC x y).map ((a == b) && ·)
  | _, _ => none

/-- Cells of the kinds that a type's zero has: whole numbers, bools, strings. -/
def kindsL : List D → List D → Bool
  | [], [] => true
  | .int k _ :: x, .int k' _ :: y => decide (k = k') && kindsL x y
  | .bool _ :: x, .bool _ :: y => kindsL x y
  | .str _ :: x, .str _ :: y => kindsL x y
  | _, _ => false

/-- Is it nil? (a pointer, a slice, an interface value) -/
def nilPtr : D → Option Bool
  | .nilp => some true
  | .ptr .. => some false
  | .iptr _ => some false
  | _ => none
def nilSl : D → Option Bool
  | .nils => some true
  | .vs .. => some false
  | .rs .. => some false
  | _ => none
def nilIf : D → Option Bool
  | .nilif => some true
  | .ifc .. => some false
  | _ => none
/-- Two of which one is nil. -/
def nilEq (a b : Option Bool) : Option Bool :=
  match a, b with
  | some true, some b => some b
  | some false, some true => some false
  | _, _ => none
/-- '==' against nil, and of plain aggregates; cst: one of the operands is a constant. -/
def eqD (A : Ann) (cst : Bool) (t : TypeId) (x y : D) : Option Bool :=
  match (A.ty t).kd with
  | .bool =>
    match x, y with
    | .bool a, .bool b => some (a == b)
    | _, _ => none
  | .ptr => nilEq (nilPtr x) (nilPtr y)
  | .slice .. => nilEq (nilSl x) (nilSl y)
  | .iface => if cst then nilEq (nilIf x) (nilIf y) else none
  | .struct _ =>
    match x, y with
    | .agg a, .agg b => if A.eqT t = true ∧ kindsL (A.ty t).zero a = true ∧ kindsL (A.ty t).zero b = true then eqC a b else none
    | _, _ => none
  | .arr .. =>
    match x, y with
    | .agg a, .agg b => if A.eqT t = true ∧ kindsL (A.ty t).zero a = true ∧ kindsL (A.ty t).zero b = true then eqC a b else none
    | _, _ => none
  | _ => none

def binD (A : Ann) (cst : Bool) (op : BinOp) (t : TypeId) (x y : D) : Option D :=
  match op with
  | .shl =>
    match x, y with
    | .int k a, .int _ b => if b < 0 then none else some (.int k (k.wrap (a * 2 ^ (min b.toNat k.bits))))
    | _, _ => none
  | .shr =>
    match x, y with
    | .int k a, .int _ b => if b < 0 then none else some (.int k (a.fdiv (2 ^ (min b.toNat k.bits))))
    | _, _ => none
  | op =>
    match x, y with
    | .int k a, .int k' b => if k = k' then intOp op k a b else none
    | .str a, .str b => strOp op a b
    | x, y =>
      match op with
      | .eql => (eqD A cst t x y).map .bool
      | .neq => (eqD A cst t x y).map fun b => .bool (!b)
      | _ => none

def unD (op : UnOp) (x : D) : Option D :=
  match op, x with
  | .neg, .int k n => some (.int k (k.wrap (0 - n)))
  | .xor, .int k n => intOp .xor k (if k.signed then -1 else k.max) n
  | .not, .bool b => some (.bool (!b))
  | _, _ => none

/-- Bytes as a text. -/
def bytesOf : List D → Option (List UInt8)
  | [] => some []
  | .int .u8 n :: r => if 0 ≤ n ∧ n < 256 then (bytesOf r).map (UInt8.ofNat n.toNat :: ·) else none
  | _ => none

def convD (A : Ann) (fz : Bool) (h : H) (src dst : TypeId) (x : D) : Option (D × H) :=
  match (A.ty src).kd, (A.ty dst).kd with
  | .int _, .int k =>
    match x with
    | .int _ n => some (.int k (k.wrap n), h)
    | _ => none
  | .str, .str =>
    match x with
    | .str s => some (.str s, h)
    | _ => none
  | .slice _ _ _ by1, .slice _ _ _ by2 =>
    match x with
    | .rs id ver off len cap sz clip =>
      match h.get id with
      | some b => if b.ver = ver ∧ src = dst ∧ by1 = true ∧ by2 = true then some (.rs id ver off len cap sz clip, h) else none
      | none => none
    | _ => none
  | .str, .slice esz _ _ by2 =>
    match x with
    | .str s => if by2 = true ∧ esz = 1 then newRow fz h 1 s.length (s.map fun c => .int .u8 c.toNat) else none
    | _ => none
  | .slice esz _ _ by1, .str =>
    if by1 = true ∧ esz = 1 then
      match srcC h 1 x, lenS x with
      | some cs, some _ => (bytesOf cs).map fun l => (.str l, h)
      | _, _ => none
    else none
  | _, _ => none

/-- The parts of an aggregate laid over its zero. -/
def fillD (place : Nat → Option (Nat × Nat)) : List D → List (Nat × D) → Option (List D)
  | cells, [] => some cells
  | cells, (i, v) :: rest =>
    match place i with
    | none => none
    | some (off, size) => if v.okc = true ∧ v.cells.length = size ∧ off + size ≤ cells.length then fillD place (splice cells off v.cells) rest else none

def buildD (A : Ann) (t : TypeId) (parts : List (Nat × D)) : Option D :=
  if (A.ty t).size = 0 ∨ (A.ty t).zero.length ≠ (A.ty t).size then none else
  match (A.ty t).kd with
  | .struct fs => (fillD (fun i => (fs[i]?).map fun f => (f.1, f.2.1)) (A.ty t).zero parts).map .agg
  | .arr _ esz _ => (fillD (fun i => some (i * esz, esz)) (A.ty t).zero parts).map .agg
  | _ => none

def buildSliceD (A : Ann) (ro : Bool) (h : H) (t : TypeId) (len : Nat) (parts : List (Nat × D)) : Option (D × H) :=
  match (A.ty t).kd with
  | .slice esz _ ez _ =>
    if ez.length = esz ∧ esz ≠ 0 ∧ len * esz ≤ 16777216 then do
      let cs ← fillD (fun i => some (i * esz, esz)) (List.replicate len ez).flatten parts
      if ro && rbL 0 cs then some (.vs (chunks esz len cs) true, h)
      else some (.rs h.length 0 0 len len esz true, h ++ [some ⟨0, cs⟩])
    else none
  | _ => none

def makeSliceD (A : Ann) (h : H) (t : TypeId) (len cap : D) : Option (D × H) :=
  match (A.ty t).kd, natOf len, natOf cap with
  | .slice esz eb ez _, some l, some c =>
    if l ≤ c ∧ ez.length = esz ∧ c * eb ≤ maxN ∧ c ≤ maxN ∧ esz ≠ 0 then
      some (.rs h.length 0 0 l c esz (l == c), h ++ [some ⟨0, (List.replicate c ez).flatten⟩]) else none
  | _, _, _ => none

def copyD (A : Ann) (base : Nat) (h : H) (t : TypeId) (dst src : D) : Option (D × H) :=
  match (A.ty t).kd with
  | .slice esz _ _ _ => do
    let cs ← srcC h esz src
    let m ← lenD src
    let n ← lenS dst
    if min m n = 0 then some (.int .i64 0, h) else
    match dst with
    | .rs id ver off _ _ sz _ => do
      if sz = esz ∧ (base ≤ id ∨ rbL (id + 1) cs = true) then some (.int .i64 ((min m n : Nat) : Int), ← wrC h id ver off (cs.take (min m n * esz))) else none
    | _ => none
  | _ => none

def clearD (A : Ann) (h : H) (t : TypeId) (x : D) : Option H :=
  match (A.ty t).kd, x with
  | .slice _ _ _ _, .nils => some h
  | .slice _ _ _ _, .vs [] _ => some h
  | .slice esz _ ez _, .rs id ver off len _ sz _ => if sz = esz ∧ ez.length = esz ∧ esz ≠ 0 then wrC h id ver off (List.replicate len ez).flatten else none
  | _, _ => none

/-- min, max of whole numbers. -/
def minD : List D → Option D
  | [.int k a, .int k' b] => if k = k' then some (.int k (if b < a then b else a)) else none
  | _ => none
def maxD : List D → Option D
  | [.int k a, .int k' b] => if k = k' then some (.int k (if b > a then b else a)) else none
  | _ => none

abbrev CallFn := FuncId → Nat → FuncId → List D → H → Option (D × H)

def evalD (A : Ann) (e : Env) : Operand → Option D
  | .tmp t => some (e.get t)
  | .const v => ofV v
  | .global g => (A.glob g).map .iptr
  | .func f => some (.fn (.func f) [] [])

def partsD (ev : Operand → Option D) : List (Nat × Operand) → Option (List (Nat × D))
  | [] => some []
  | (i, x) :: r => do some ((i, ← ev x) :: (← partsD ev r))
def argsD (ev : Operand → Option D) : List Operand → Option (List D)
  | [] => some []
  | x :: r => do some ((← ev x) :: (← argsD ev r))
def optD (ev : Operand → Option D) : Option Operand → Option (Option D)
  | none => some none
  | some x => (ev x).map some

def builtinD (A : Ann) (fz : Bool) (base : Nat) (h : H) (b : Builtin) (ts : List TypeId) (args : List D) : Option (D × H) :=
  match b, ts, args with
  | .len, [t], [x] =>
    match (A.ty t).kd, x with
    | .arr n _ _, _ => some (.int .i64 n, h)
    | .str, .str l => some (.int .i64 l.length, h)
    | .slice _ _ _ _, x => match lenS x with | some n => some (.int .i64 ((n : Nat) : Int), h) | none => none
    | .map, .nilm => some (.int .i64 0, h)
    | _, _ => none
  | .append, [t, t'], [s, x] =>
    match (A.ty t').kd with
    | .int _ => appendZ A fz base h t s x
    | .slice _ _ _ _ => appendD A fz base h t s x
    | .str => appendD A fz base h t s x
    | _ => none
  | .copy, [t, _], [d, s] => copyD A base h t d s
  | .clear, [t], [x] => (clearD A h t x).map fun h' => (undefD, h')
  | .min, _, l => (minD l).map fun d => (d, h)
  | .max, _, l => (maxD l).map fun d => (d, h)
  | _, _, _ => none

/-- One operation: what it yields, and the heap. -/
def denOp (A : Ann) (call : CallFn) (f : FuncId) (base : Nat) (ev : Operand → Option D) (o : Oper) (h : H) : Option (D × H) :=
  let fl (sel : FuncId → Tmp → Bool) : Bool := match o.dst with | some t => sel f t | none => false
  match o.op with
  | .move x | .assign x => do some (← ev x, h)
  | .pick c a b => do
    match ← ev c with
    | .bool true => some (← ev a, h)
    | .bool false => some (← ev b, h)
    | _ => none
  | .alloc t => if 0 < (A.ty t).size ∧ (A.ty t).zero.length = (A.ty t).size then some (allocD h (A.ty t).zero) else none
  | .box _ x => do
    let v ← ev x
    if (v.okc && (!(fl A.fz) || rbL 0 v.cells)) = false then none else if fl A.ro && rbL 0 v.cells then some (.iptr v.cells, h) else some (allocD h v.cells)
  | .build t ps => do some (← buildD A t (← partsD ev ps.toList), h)
  | .buildSlice t n ps => do buildSliceD A (!(fl A.fz)) h t n (← partsD ev ps.toList)
  | .load t a => do some (← loadD A h t (← ev a), h)
  | .store t a x => do some (undefD, ← storeD A base h t (← ev a) (← ev x))
  | .nilCheck x => do
    match ← ev x with
    | .ptr id ver off => some (.ptr id ver off, h)
    | .iptr cs => some (.iptr cs, h)
    | .fn f a b => match f with | .func _ => some (.fn f a b, h) | _ => none
    | _ => none
  | .binOp op t x y _ => do some (← binD A (Region.isConst x || Region.isConst y) op t (← ev x) (← ev y), h)
  | .unOp op _ x => do some (← unD op (← ev x), h)
  | .convert s d x => do convD A (fl A.fz) h s d (← ev x)
  | .makeInterface t x => if (A.ty t).size = 0 ∨ (A.ty t).isIface = true then none else do some (.ifc t (← ev x), h)
  | .makeFunc fn a b => do some (.fn fn (← argsD ev a.toList) (← argsD ev b.toList), h)
  | .makeSlice t l c => do makeSliceD A h t (← ev l) (← ev c)
  | .slice t x lo hi mx => do some (← sliceD A h t (← ev x) (← optD ev lo) (← optD ev hi) (← optD ev mx), h)
  | .fieldAddr s x i => do some (← fieldAddrD A s i (← ev x), h)
  | .field s x i => do some (← fieldD A s i (← ev x), h)
  | .indexAddr t x i => do some (← indexAddrD A t (← ev x) (← ev i), h)
  | .index t x i => do some (← indexD A t (← ev x) (← ev i), h)
  | .extract x i => do
    match ← ev x with
    | .tup l => do some (← l[i]?, h)
    | _ => none
  | .call c =>
    match c.callee with
    | .builtin b => do builtinD A (fl A.fz) base h b c.argTypes.toList (← argsD ev c.args.toList)
    | .value x => do
      match ← ev x with
      | .fn (.func g) first captured => do call f base g (first ++ (← argsD ev c.args.toList) ++ captured) h
      | _ => none
    | .invoke r name => do
      match ← ev r with
      | .ifc t d => do call f base (← A.meth t name) (d :: (← argsD ev c.args.toList)) h
      | _ => none
  | _ => none

/-- Is a guarded operation wanted? -/
def wantD (ops : Array Oper) (e : Env) (o : Oper) : Bool :=
  match o.guard with
  | none => true
  | some (j, want) =>
    match (ops[j]?).bind (·.dst) with
    | some t => match e.get t with | .bool b => b == want | _ => false
    | none => false

def stepD (A : Ann) (call : CallFn) (f : FuncId) (base : Nat) (ops : Array Oper) (o : Oper) (e : Env) (h : H) : Option (Env × H) :=
  if wantD ops e o then (do
    let (d, h') ← denOp A call f base (evalD A e) o h
    some (e.put o.dst d, h'))
  else some (e.put o.dst undefD, h)

def opsD (A : Ann) (call : CallFn) (f : FuncId) (base : Nat) (ops : Array Oper) : List Oper → Env → H → Option (Env × H)
  | [], e, h => some (e, h)
  | o :: r, e, h =>
    match stepD A call f base ops o e h with
    | some (e', h') => opsD A call f base ops r e' h'
    | none => none

end Go.Dn

namespace Go.Dn

/-- What references mean: an address; an address and a capacity. -/
structure Rf where
  p : Nat → Nat → Nat → Addr → Prop
  r : Nat → Nat → Nat → Nat → Nat → Nat → Bool → Addr → Nat → Prop
def Rf.nil : Rf := ⟨fun _ _ _ _ => False, fun _ _ _ _ _ _ _ _ _ => False⟩

mutual
/-- A value says a datum: 'cl' memory, 'X' the blocks that may still be written. -/
def V (cl : Addr → Option Value) (X : Nat → Prop) : Rf → D → Value → Prop
  | _, .bool b, v => v = .bool b
  | _, .int k n, v => v = .int k n
  | _, .str l, v => v = .string ⟨l.toArray⟩
  | _, .nilp, v => v = .pointer none
  | _, .nils, v => v = .slice none 0 0
  | _, .nilfn, v => v = .nilFunc
  | _, .nilif, v => v = .nilIface
  | _, .nilm, v => v = .map none
  | ρ, .ptr id ver off, v => ∃ a, v = .pointer (some a) ∧ ρ.p id ver off a
  | _, .iptr cs, v => ∃ a, v = .pointer (some a) ∧ VA cl X cs a 0
  | _, .vs xs clip, v => ∃ a c sz, v = .slice (some a) xs.length c ∧ xs.length ≤ c ∧ (clip = true → c = xs.length) ∧ VE cl X sz xs a 0
  | ρ, .rs id ver off len cap sz clip, v => ∃ a c, v = .slice (some a) len c ∧ len ≤ cap ∧ cap ≤ c ∧ (clip = true → c = len) ∧ ρ.r id ver off len cap sz clip a c
  | ρ, .fn f a b, v => ∃ x y : Array Value, v = .func f x y ∧ VL cl X ρ a x.toList ∧ VL cl X ρ b y.toList
  | ρ, .ifc t d, v => ∃ u, v = .iface t u ∧ V cl X ρ d u
  | ρ, .agg cs, v => ∃ x : Array Value, v = .agg x ∧ cs.all D.isCell = true ∧ VL cl X ρ cs x.toList
  | ρ, .tup cs, v => ∃ x : Array Value, v = .tuple x ∧ VL cl X ρ cs x.toList
def VL (cl : Addr → Option Value) (X : Nat → Prop) : Rf → List D → List Value → Prop
  | _, [], l => l = []
  | ρ, d :: ds, l => ∃ v r, l = v :: r ∧ V cl X ρ d v ∧ VL cl X ρ ds r
/-- Cells that nobody writes: from place k behind an address on. -/
def VA (cl : Addr → Option Value) (X : Nat → Prop) : List D → Addr → Nat → Prop
  | [], _, _ => True
  | d :: ds, a, k => (∃ u, cl (a.add k) = some u ∧ ¬ X a.block ∧ rb 0 d = true ∧ d.isCell = true ∧ V cl X Rf.nil d u) ∧ VA cl X ds a (k + 1)
def VE (cl : Addr → Option Value) (X : Nat → Prop) (sz : Nat) : List (List D) → Addr → Nat → Prop
  | [], _, _ => True
  | x :: xs, a, k => x.length = sz ∧ VA cl X x a k ∧ VE cl X sz xs a (k + sz)
end

theorem add_block (a : Addr) (n : Nat) : (a.add n).block = a.block := by unfold Addr.add; split <;> rfl

mutual
theorem V.mono {cl cl' : Addr → Option Value} {X X' : Nat → Prop} {m : Nat} (hc : ∀ a u, cl a = some u → ¬ X a.block → cl' a = some u ∧ ¬ X' a.block) :
    ∀ {ρ ρ' : Rf} {d : D} {v : Value}, (∀ id ver off a, id < m → ρ.p id ver off a → ρ'.p id ver off a) → (∀ id ver off len cap sz clip a c, id < m → ρ.r id ver off len cap sz clip a c → ρ'.r id ver off len cap sz clip a c) →
      rb m d = true → V cl X ρ d v → V cl' X' ρ' d v
  | ρ, ρ', .bool b, v, _, _, _, h => by simpa only [V] using h
  | ρ, ρ', .int k n, v, _, _, _, h => by simpa only [V] using h
  | ρ, ρ', .str l, v, _, _, _, h => by simpa only [V] using h
  | ρ, ρ', .nilp, v, _, _, _, h => by simpa only [V] using h
  | ρ, ρ', .nils, v, _, _, _, h => by simpa only [V] using h
  | ρ, ρ', .nilfn, v, _, _, _, h => by simpa only [V] using h
  | ρ, ρ', .nilif, v, _, _, _, h => by simpa only [V] using h
  | ρ, ρ', .nilm, v, _, _, _, h => by simpa only [V] using h
  | ρ, ρ', .ptr .., v, hp, _, hb, h => by
    simp only [V] at h ⊢
    simp only [rb, decide_eq_true_eq] at hb
    obtain ⟨a, e, h⟩ := h
    exact ⟨a, e, hp _ _ _ _ hb h⟩
  | ρ, ρ', .iptr cs, v, _, _, _, h => by
    simp only [V] at h ⊢
    obtain ⟨a, e, h⟩ := h
    exact ⟨a, e, VA.mono hc h⟩
  | ρ, ρ', .vs xs clip, v, _, _, _, h => by
    simp only [V] at h ⊢
    obtain ⟨a, c, sz, e, h1, h2, h3⟩ := h
    exact ⟨a, c, sz, e, h1, h2, VE.mono hc h3⟩
  | ρ, ρ', .rs .., v, _, hr, hb, h => by
    simp only [V] at h ⊢
    simp only [rb, decide_eq_true_eq] at hb
    obtain ⟨a, c, e, h0, h1, h2, h3⟩ := h
    exact ⟨a, c, e, h0, h1, h2, hr _ _ _ _ _ _ _ _ _ hb h3⟩
  | ρ, ρ', .fn f a b, v, hp, hr, hb, h => by
    simp only [V] at h ⊢
    simp only [rb, Bool.and_eq_true] at hb
    obtain ⟨x, y, e, h1, h2⟩ := h
    exact ⟨x, y, e, VL.mono hc hp hr hb.1 h1, VL.mono hc hp hr hb.2 h2⟩
  | ρ, ρ', .ifc t d, v, hp, hr, hb, h => by
    simp only [V] at h ⊢
    simp only [rb] at hb
    obtain ⟨u, e, h1⟩ := h
    exact ⟨u, e, V.mono hc hp hr hb h1⟩
  | ρ, ρ', .agg cs, v, hp, hr, hb, h => by
    simp only [V] at h ⊢
    simp only [rb] at hb
    obtain ⟨x, e, h0, h1⟩ := h
    exact ⟨x, e, h0, VL.mono hc hp hr hb h1⟩
  | ρ, ρ', .tup cs, v, hp, hr, hb, h => by
    simp only [V] at h ⊢
    simp only [rb] at hb
    obtain ⟨x, e, h1⟩ := h
    exact ⟨x, e, VL.mono hc hp hr hb h1⟩
theorem VL.mono {cl cl' : Addr → Option Value} {X X' : Nat → Prop} {m : Nat} (hc : ∀ a u, cl a = some u → ¬ X a.block → cl' a = some u ∧ ¬ X' a.block) :
    ∀ {ρ ρ' : Rf} {ds : List D} {l : List Value}, (∀ id ver off a, id < m → ρ.p id ver off a → ρ'.p id ver off a) → (∀ id ver off len cap sz clip a c, id < m → ρ.r id ver off len cap sz clip a c → ρ'.r id ver off len cap sz clip a c) →
      rbL m ds = true → VL cl X ρ ds l → VL cl' X' ρ' ds l
  | ρ, ρ', [], l, _, _, _, h => by simpa only [VL] using h
  | ρ, ρ', d :: ds, l, hp, hr, hb, h => by
    simp only [VL] at h ⊢
    simp only [rbL, Bool.and_eq_true] at hb
    obtain ⟨v, r, e, h1, h2⟩ := h
    exact ⟨v, r, e, V.mono hc hp hr hb.1 h1, VL.mono hc hp hr hb.2 h2⟩
theorem VA.mono {cl cl' : Addr → Option Value} {X X' : Nat → Prop} (hc : ∀ a u, cl a = some u → ¬ X a.block → cl' a = some u ∧ ¬ X' a.block) :
    ∀ {ds : List D} {a : Addr} {k : Nat}, VA cl X ds a k → VA cl' X' ds a k
  | [], a, k, h => by simp only [VA]
  | d :: ds, a, k, h => by
    simp only [VA] at h ⊢
    obtain ⟨⟨u, h1, h2, h0, h00, h3⟩, h4⟩ := h
    have := hc (a.add k) u h1 (by rw [add_block]; exact h2)
    rw [add_block] at this
    exact ⟨⟨u, this.1, this.2, h0, h00, V.mono (m := 0) hc (fun _ _ _ _ _ h => h) (fun _ _ _ _ _ _ _ _ _ _ h => h) h0 h3⟩, VA.mono hc h4⟩
theorem VE.mono {cl cl' : Addr → Option Value} {X X' : Nat → Prop} (hc : ∀ a u, cl a = some u → ¬ X a.block → cl' a = some u ∧ ¬ X' a.block) {sz : Nat} :
    ∀ {xs : List (List D)} {a : Addr} {k : Nat}, VE cl X sz xs a k → VE cl' X' sz xs a k
  | [], a, k, h => by simp only [VE]
  | x :: xs, a, k, h => by
    simp only [VE] at h ⊢
    exact ⟨h.1, VA.mono hc h.2.1, VE.mono hc h.2.2⟩
end

mutual
theorem rb_mono {m n : Nat} (h : m ≤ n) : ∀ {d : D}, rb m d = true → rb n d = true
  | .bool _, _ | .int .., _ | .str _, _ | .nilp, _ | .nils, _ | .nilfn, _ | .nilif, _ | .nilm, _ | .iptr _, _ | .vs .., _ => by simp only [rb]
  | .ptr .., hb => by simp only [rb, decide_eq_true_eq] at hb ⊢; omega
  | .rs .., hb => by simp only [rb, decide_eq_true_eq] at hb ⊢; omega
  | .fn .., hb => by simp only [rb, Bool.and_eq_true] at hb ⊢; exact ⟨rbL_mono h hb.1, rbL_mono h hb.2⟩
  | .ifc .., hb => by simp only [rb] at hb ⊢; exact rb_mono h hb
  | .agg _, hb => by simp only [rb] at hb ⊢; exact rbL_mono h hb
  | .tup _, hb => by simp only [rb] at hb ⊢; exact rbL_mono h hb
theorem rbL_mono {m n : Nat} (h : m ≤ n) : ∀ {ds : List D}, rbL m ds = true → rbL n ds = true
  | [], _ => rfl
  | d :: ds, hb => by simp only [rbL, Bool.and_eq_true] at hb ⊢; exact ⟨rb_mono h hb.1, rbL_mono h hb.2⟩
end
theorem rbL_iff {m : Nat} : ∀ {ds : List D}, rbL m ds = true ↔ ∀ d ∈ ds, rb m d = true
  | [] => by simp [rbL]
  | d :: ds => by simp [rbL, rbL_iff (ds := ds)]
theorem rbL_append {m : Nat} {ds es : List D} : rbL m (ds ++ es) = true ↔ rbL m ds = true ∧ rbL m es = true := by
  simp only [rbL_iff, List.mem_append]
  exact ⟨fun h => ⟨fun d hd => h d (.inl hd), fun d hd => h d (.inr hd)⟩, fun h d hd => hd.elim (h.1 d) (h.2 d)⟩
theorem rbL_sub {m : Nat} {ds es : List D} (h : rbL m ds = true) (hs : ∀ d ∈ es, d ∈ ds) : rbL m es = true := rbL_iff.2 fun d hd => rbL_iff.1 h d (hs d hd)
theorem rb_cells {m : Nat} {d : D} : rbL m d.cells = true ↔ rb m d = true := by
  cases d <;> simp [D.cells, rbL, rb]

/-! Lists of cells. -/
section
variable {cl : Addr → Option Value} {X : Nat → Prop} {ρ : Rf}
theorem VL.length : ∀ {ds : List D} {l : List Value}, VL cl X ρ ds l → l.length = ds.length
  | [], l, h => by simp only [VL] at h; subst h; rfl
  | d :: ds, l, h => by
    simp only [VL] at h
    obtain ⟨v, r, rfl, _, h2⟩ := h
    simp [h2.length]
theorem VL.get : ∀ {ds : List D} {l : List Value} {i : Nat} {d : D}, VL cl X ρ ds l → ds[i]? = some d → ∃ v, l[i]? = some v ∧ V cl X ρ d v
  | [], l, i, d, h, hd => by simp at hd
  | d' :: ds, l, 0, d, h, hd => by
    simp only [VL] at h
    obtain ⟨v, r, rfl, h1, h2⟩ := h
    simp at hd
    subst hd
    exact ⟨v, rfl, h1⟩
  | d' :: ds, l, i + 1, d, h, hd => by
    simp only [VL] at h
    obtain ⟨v, r, rfl, h1, h2⟩ := h
    simpa using h2.get (i := i) (by simpa using hd)
theorem VL.append : ∀ {ds es : List D} {l m : List Value}, VL cl X ρ ds l → VL cl X ρ es m → VL cl X ρ (ds ++ es) (l ++ m)
  | [], es, l, m, h, h' => by simp only [VL] at h; subst h; simpa using h'
  | d :: ds, es, l, m, h, h' => by
    simp only [VL] at h
    obtain ⟨v, r, rfl, h1, h2⟩ := h
    simp only [List.cons_append, VL]
    exact ⟨v, _, rfl, h1, h2.append h'⟩
theorem VL.take : ∀ {ds : List D} {l : List Value} (n : Nat), VL cl X ρ ds l → VL cl X ρ (ds.take n) (l.take n)
  | [], l, n, h => by simp only [VL] at h; subst h; simp [VL]
  | d :: ds, l, 0, h => by simp [VL]
  | d :: ds, l, n + 1, h => by
    simp only [VL] at h
    obtain ⟨v, r, rfl, h1, h2⟩ := h
    simp only [List.take_succ_cons, VL]
    exact ⟨v, _, rfl, h1, h2.take n⟩
theorem VL.drop : ∀ {ds : List D} {l : List Value} (n : Nat), VL cl X ρ ds l → VL cl X ρ (ds.drop n) (l.drop n)
  | [], l, n, h => by simp only [VL] at h; subst h; simp [VL]
  | d :: ds, l, 0, h => by simpa using h
  | d :: ds, l, n + 1, h => by
    simp only [VL] at h
    obtain ⟨v, r, rfl, h1, h2⟩ := h
    simpa using h2.drop n
theorem VL.single {d : D} {v : Value} (h : V cl X ρ d v) : VL cl X ρ [d] [v] := by
  simp only [VL]; exact ⟨v, [], rfl, h, rfl⟩
theorem VL.nil : VL cl X ρ [] [] := by simp only [VL]
theorem VL.cons {d : D} {v : Value} {ds : List D} {l : List Value} (h : V cl X ρ d v) (h' : VL cl X ρ ds l) : VL cl X ρ (d :: ds) (v :: l) := by
  simp only [VL]; exact ⟨v, l, rfl, h, h'⟩
theorem VL.uncons {d : D} {ds : List D} {l : List Value} (h : VL cl X ρ (d :: ds) l) : ∃ v r, l = v :: r ∧ V cl X ρ d v ∧ VL cl X ρ ds r := by
  simpa only [VL] using h
theorem VL.of_get : ∀ {ds : List D} {l : List Value}, l.length = ds.length → (∀ (i : Nat) d v, ds[i]? = some d → l[i]? = some v → V cl X ρ d v) → VL cl X ρ ds l
  | [], l, hl, h => by simp only [VL]; exact List.eq_nil_of_length_eq_zero hl
  | d :: ds, [], hl, h => by simp at hl
  | d :: ds, v :: l, hl, h => VL.cons (h 0 d v rfl rfl) (VL.of_get (by simpa using hl) fun i d v h1 h2 => h (i + 1) d v (by simpa using h1) (by simpa using h2))

theorem VA.get : ∀ {ds : List D} {a : Addr} {k i : Nat} {d : D}, VA cl X ds a k → ds[i]? = some d → ∃ u, cl (a.add (k + i)) = some u ∧ ¬ X a.block ∧ rb 0 d = true ∧ d.isCell = true ∧ V cl X Rf.nil d u
  | [], a, k, i, d, h, hd => by simp at hd
  | d' :: ds, a, k, 0, d, h, hd => by
    simp only [VA] at h
    simp at hd
    subst hd
    exact h.1
  | d' :: ds, a, k, i + 1, d, h, hd => by
    simp only [VA] at h
    have := h.2.get (i := i) (by simpa using hd)
    rwa [show k + 1 + i = k + (i + 1) from by omega] at this
theorem VA.of_get : ∀ {ds : List D} {a : Addr} {k : Nat}, (∀ (i : Nat) d, ds[i]? = some d → ∃ u, cl (a.add (k + i)) = some u ∧ ¬ X a.block ∧ rb 0 d = true ∧ d.isCell = true ∧ V cl X Rf.nil d u) → VA cl X ds a k
  | [], a, k, h => by simp only [VA]
  | d :: ds, a, k, h => by
    simp only [VA]
    exact ⟨h 0 d rfl, VA.of_get fun i d' hd => by rw [show k + 1 + i = k + (i + 1) from by omega]; exact h (i + 1) d' (by simpa using hd)⟩
theorem VE.get {sz : Nat} : ∀ {xs : List (List D)} {a : Addr} {k i : Nat} {x : List D}, VE cl X sz xs a k → xs[i]? = some x → x.length = sz ∧ VA cl X x a (k + i * sz)
  | [], a, k, i, d, h, hd => by simp at hd
  | x' :: xs, a, k, 0, d, h, hd => by
    simp only [VE] at h
    simp at hd
    subst hd
    simpa using ⟨h.1, h.2.1⟩
  | x' :: xs, a, k, i + 1, d, h, hd => by
    simp only [VE] at h
    have := h.2.2.get (i := i) (by simpa using hd)
    rwa [show k + sz + i * sz = k + (i + 1) * sz from by rw [Nat.add_mul]; omega] at this
theorem VE.of_get {sz : Nat} : ∀ {xs : List (List D)} {a : Addr} {k : Nat}, (∀ (i : Nat) x, xs[i]? = some x → x.length = sz ∧ VA cl X x a (k + i * sz)) → VE cl X sz xs a k
  | [], a, k, h => by simp only [VE]
  | x :: xs, a, k, h => by
    simp only [VE]
    refine ⟨(h 0 x rfl).1, by simpa using (h 0 x rfl).2, VE.of_get fun i y hy => ?_⟩
    rw [show k + sz + i * sz = k + (i + 1) * sz from by rw [Nat.add_mul]; omega]
    exact h (i + 1) y (by simpa using hy)
theorem add_add (a : Addr) (m n : Nat) : (a.add m).add n = a.add (m + n) := by
  obtain ⟨b, o, s⟩ := a
  unfold Addr.add
  by_cases hm : m = 0 <;> by_cases hn : n = 0 <;> simp_all
  omega
end
end Go.Dn

namespace Go.Dn

abbrev Bt := Nat → Nat × Nat

def Live (β : Bt) (h : H) (b : Nat) : Prop := ∃ id k, h.get id = some k ∧ (β id).1 = b
def XX (X0 : Nat → Prop) (β : Bt) (h : H) (b : Nat) : Prop := X0 b ∨ Live β h b
def Cur (h : H) (id ver : Nat) : Prop := ∃ k, h.get id = some k ∧ k.ver = ver
/-- The block is a row of at least n cells. -/
def Room (w : World) (b n : Nat) : Prop := ∃ cs t fr, w.heap[b]? = some (.cells cs t fr) ∧ n ≤ cs.size
def rho (w : World) (β : Bt) (h : H) : Rf where
  p id ver off a := (∀ k, h.get id = some k → ver ≤ k.ver) ∧ (Cur h id ver → a = ⟨(β id).1, (β id).2 + off, none⟩)
  r id ver off _ _ sz _ a c := (∀ k, h.get id = some k → ver ≤ k.ver) ∧ (Cur h id ver → a = ⟨(β id).1, (β id).2 + off, none⟩ ∧ Room w (β id).1 ((β id).2 + off + c * sz))

/-- Data and values, over a world and a logical heap. -/
abbrev VW (X0 : Nat → Prop) (β : Bt) (h : H) (w : World) (d : D) (v : Value) : Prop := V w.cell? (XX X0 β h) (rho w β h) d v
abbrev VLW (X0 : Nat → Prop) (β : Bt) (h : H) (w : World) (ds : List D) (l : List Value) : Prop := VL w.cell? (XX X0 β h) (rho w β h) ds l

structure BlkOk (X0 : Nat → Prop) (β : Bt) (h : H) (w : World) (id : Nat) (k : Blk) (cs : Array Value) (fr : Nat × Nat) : Prop where
  frz : fr.1 = fr.2 ∨ cs.size ≤ fr.1
  len : (β id).2 + k.cells.length ≤ cs.size
  val : VLW X0 β h w k.cells ((cs.toList.drop (β id).2).take k.cells.length)
  out : ¬ X0 (β id).1
  rb : rbL h.length k.cells = true
  flat : k.cells.all D.isCell = true

structure Rel (X0 : Nat → Prop) (β : Bt) (h : H) (w : World) : Prop where
  blk : ∀ id k, h.get id = some k → ∃ cs t fr, w.heap[(β id).1]? = some (.cells cs t fr) ∧ BlkOk X0 β h w id k cs fr
  inj : ∀ i j k k', h.get i = some k → h.get j = some k' → (β i).1 = (β j).1 → i = j

def FrOk (cs : Array Value) (fr : Nat × Nat) : Prop := fr.1 = fr.2 ∨ cs.size ≤ fr.1
abbrev SameC (o o' : Option Obj) : Prop := o' = o
theorem SameC.refl (o : Option Obj) : SameC o o := rfl
theorem SameC.trans {o o' o'' : Option Obj} (h : SameC o o') (h' : SameC o' o'') : SameC o o'' := Eq.trans h' h
theorem SameC.cells {o o' : Option Obj} (h : SameC o o') {cs : Array Value} {t : TypeId} {fr : Nat × Nat} (ho : o = some (.cells cs t fr)) : ∃ fr', o' = some (.cells cs t fr') ∧ (FrOk cs fr → FrOk cs fr') := ⟨fr, Eq.trans h ho, id⟩

/-- From one state to a later one. -/
structure Nx (X0 : Nat → Prop) (β : Bt) (h : H) (w : World) (β' : Bt) (h' : H) (w' : World) : Prop where
  size : w.heap.size ≤ w'.heap.size
  os : w'.os = w.os
  tape : w'.tape = w.tape
  output : w'.output = w.output
  keepX : ∀ b, b < w.heap.size → X0 b → w'.heap[b]? = w.heap[b]?
  keep : ∀ b, b < w.heap.size → ¬ XX X0 β h b → SameC w.heap[b]? w'.heap[b]?
  len : h.length ≤ h'.length
  ids : ∀ id k', id < h.length → h'.get id = some k' → ∃ k, h.get id = some k ∧ k.ver ≤ k'.ver ∧ (k.ver = k'.ver → β' id = β id ∧ ∀ n, Room w (β id).1 n → Room w' (β id).1 n)
  news : ∀ b, Live β' h' b → w.heap.size ≤ b ∨ Live β h b

variable {X0 : Nat → Prop} {β β' β'' : Bt} {h h' h'' : H} {w w' w'' : World}

theorem Nx.refl (X0 : Nat → Prop) (β : Bt) (h : H) (w : World) : Nx X0 β h w β h w :=
  ⟨Nat.le_refl _, rfl, rfl, rfl, fun _ _ _ => rfl, fun _ _ _ => .refl _, Nat.le_refl _, fun id k' _ hk => ⟨k', hk, Nat.le_refl _, fun _ => ⟨rfl, fun _ hr => hr⟩⟩, fun _ hl => .inr hl⟩

theorem Nx.trans (a : Nx X0 β h w β' h' w') (b : Nx X0 β' h' w' β'' h'' w'') : Nx X0 β h w β'' h'' w'' := by
  refine ⟨Nat.le_trans a.size b.size, b.os.trans a.os, b.tape.trans a.tape, b.output.trans a.output, fun x hx hX => ?_, fun x hx hX => ?_, Nat.le_trans a.len b.len, fun id k hi hk => ?_, fun x hl => ?_⟩
  · exact (b.keepX x (Nat.lt_of_lt_of_le hx a.size) hX).trans (a.keepX x hx hX)
  · refine (a.keep x hx hX).trans (b.keep x (Nat.lt_of_lt_of_le hx a.size) ?_)
    rintro (h0 | hl)
    · exact hX (.inl h0)
    · rcases a.news x hl with h1 | h1
      · omega
      · exact hX (.inr h1)
  · obtain ⟨k1, hk1, hv1, he1⟩ := b.ids id k (Nat.lt_of_lt_of_le hi a.len) hk
    obtain ⟨k0, hk0, hv0, he0⟩ := a.ids id k1 hi hk1
    refine ⟨k0, hk0, Nat.le_trans hv0 hv1, fun e => ?_⟩
    obtain ⟨e1, r1⟩ := he1 (by omega)
    obtain ⟨e0, r0⟩ := he0 (by omega)
    exact ⟨e1.trans e0, fun n hr => by have := r1 n (by rw [e0]; exact r0 n hr); rwa [e0] at this⟩
  · rcases b.news x hl with h1 | h1
    · exact .inl (Nat.le_trans a.size h1)
    · rcases a.news x h1 with h2 | h2
      · exact .inl h2
      · exact .inr h2

theorem cell_lt {w : World} {a : Addr} {u : Value} (hc : w.cell? a = some u) : a.block < w.heap.size := by
  unfold World.cell? at hc
  cases hb : w.heap[a.block]? with
  | none => simp [hb] at hc
  | some o => exact (Array.getElem?_eq_some_iff.1 hb).1
theorem cell_same {w w' : World} {a : Addr} (h : SameC w.heap[a.block]? w'.heap[a.block]?) : w'.cell? a = w.cell? a := by
  unfold World.cell?
  rw [show w'.heap[a.block]? = w.heap[a.block]? from h]

theorem Nx.hc (n : Nx X0 β h w β' h' w') : ∀ a u, w.cell? a = some u → ¬ XX X0 β h a.block → w'.cell? a = some u ∧ ¬ XX X0 β' h' a.block := by
  intro a u hc hX
  have hl := cell_lt hc
  refine ⟨(cell_same (n.keep _ hl hX)).trans hc, ?_⟩
  rintro (h0 | h1)
  · exact hX (.inl h0)
  · rcases n.news _ h1 with h2 | h2
    · omega
    · exact hX (.inr h2)

theorem Nx.rp (n : Nx X0 β h w β' h' w') (id ver off : Nat) (a : Addr) (hi : id < h.length) (hp : (rho w β h).p id ver off a) : (rho w' β' h').p id ver off a := by
  refine ⟨fun k' hk' => ?_, ?_⟩
  · obtain ⟨k, hk, hv, _⟩ := n.ids id k' hi hk'
    exact Nat.le_trans (hp.1 k hk) hv
  · rintro ⟨k', hk', rfl⟩
    obtain ⟨k, hk, hv, he⟩ := n.ids id k' hi hk'
    have e : k.ver = k'.ver := Nat.le_antisymm hv (hp.1 k hk)
    rw [(he e).1]
    exact hp.2 ⟨k, hk, e⟩
theorem Nx.rr (n : Nx X0 β h w β' h' w') (id ver off len cap sz : Nat) (clip : Bool) (a : Addr) (c : Nat) (hi : id < h.length) (hp : (rho w β h).r id ver off len cap sz clip a c) :
    (rho w' β' h').r id ver off len cap sz clip a c := by
  refine ⟨fun k' hk' => ?_, ?_⟩
  · obtain ⟨k, hk, hv, _⟩ := n.ids id k' hi hk'
    exact Nat.le_trans (hp.1 k hk) hv
  · rintro ⟨k', hk', rfl⟩
    obtain ⟨k, hk, hv, he⟩ := n.ids id k' hi hk'
    have e : k.ver = k'.ver := Nat.le_antisymm hv (hp.1 k hk)
    obtain ⟨h1, h2⟩ := hp.2 ⟨k, hk, e⟩
    rw [(he e).1]
    exact ⟨h1, (he e).2 _ h2⟩
/-- What was said is still said later. -/
theorem VW.next (n : Nx X0 β h w β' h' w') {d : D} {v : Value} (hb : rb h.length d = true) (hv : VW X0 β h w d v) : VW X0 β' h' w' d v :=
  V.mono n.hc (fun id ver off a hi hp => n.rp id ver off a hi hp) (fun id ver off len cap sz clip a c hi hp => n.rr id ver off len cap sz clip a c hi hp) hb hv
theorem VLW.next (n : Nx X0 β h w β' h' w') {ds : List D} {l : List Value} (hb : rbL h.length ds = true) (hv : VLW X0 β h w ds l) : VLW X0 β' h' w' ds l :=
  VL.mono n.hc (fun id ver off a hi hp => n.rp id ver off a hi hp) (fun id ver off len cap sz clip a c hi hp => n.rr id ver off len cap sz clip a c hi hp) hb hv

/-- Blocks below m refer to blocks below m. -/
def InvAt (h : H) (m : Nat) : Prop := ∀ id k, id < m → h.get id = some k → rbL m k.cells = true
def Keeps (base : Nat) (h h' : H) : Prop := ∀ m, m ≤ base → InvAt h m → InvAt h' m
theorem Keeps.refl (base : Nat) (h : H) : Keeps base h h := fun _ _ h => h
theorem Keeps.trans {base : Nat} (a : Keeps base h h') (b : Keeps base h' h'') : Keeps base h h'' := fun m hm hi => b m hm (a m hm hi)

/-- A step of the evaluation that the world follows. -/
structure Step (X0 : Nat → Prop) (base : Nat) (β : Bt) (h : H) (w : World) (β' : Bt) (h' : H) (w' : World) : Prop where
  rel : Rel X0 β' h' w'
  nx : Nx X0 β h w β' h' w'
  kp : Keeps base h h'
theorem Step.refl {base : Nat} (r : Rel X0 β h w) : Step X0 base β h w β h w := ⟨r, .refl .., Keeps.refl _ _⟩
theorem Step.trans {base : Nat} (a : Step X0 base β h w β' h' w') (b : Step X0 base β' h' w' β'' h'' w'') : Step X0 base β h w β'' h'' w'' := ⟨b.rel, a.nx.trans b.nx, a.kp.trans b.kp⟩

/-! The heap's own laws. -/
theorem get_lt {h : H} {id : Nat} {k : Blk} (hg : h.get id = some k) : id < h.length := by
  unfold H.get at hg
  cases e : h[id]? with
  | none => simp [e] at hg
  | some o => exact (List.getElem?_eq_some_iff.1 e).1
theorem get_append_new (h : H) (k : Blk) : H.get (h ++ [some k]) h.length = some k := by simp [H.get]
theorem get_append_old {h : H} {k : Blk} {id : Nat} (hi : id < h.length) : H.get (h ++ [some k]) id = h.get id := by simp [H.get, List.getElem?_append_left hi]
theorem get_append {h : H} {k k' : Blk} {id : Nat} (hg : H.get (h ++ [some k]) id = some k') : (id < h.length ∧ h.get id = some k') ∨ (id = h.length ∧ k' = k) := by
  by_cases hi : id < h.length
  · rw [get_append_old hi] at hg
    exact .inl ⟨hi, hg⟩
  · have := get_lt hg
    simp at this
    obtain rfl : id = h.length := by omega
    rw [get_append_new] at hg
    exact .inr ⟨rfl, by simpa using hg.symm⟩
theorem get_set_self {h : H} {id : Nat} {k k' : Blk} (hg : h.get id = some k) : H.get (h.set id (some k')) id = some k' := by
  have := get_lt hg
  simp [H.get, List.getElem?_set_self this]
theorem get_set_ne {h : H} {id j : Nat} {k' : Option Blk} (hn : id ≠ j) : H.get (h.set id k') j = h.get j := by simp [H.get, List.getElem?_set_ne hn]

/-- A new block: what it holds stands in a new block of memory. -/
theorem Step.alloc (r : Rel X0 β h w) (base : Nat) {cs : List D} {l : Array Value} (t : TypeId) (hX : ∀ b, X0 b → b < w.heap.size) (hb : rbL h.length cs = true) (hfl : cs.all D.isCell = true) (hv : VLW X0 β h w cs l.toList) (extra : Array Value) (fr : Nat × Nat := (0, 0)) (hfr : fr.1 = fr.2 ∨ (l ++ extra).size ≤ fr.1 := by exact .inl rfl) :
    Step X0 base β h w (fun i => if i = h.length then (w.heap.size, 0) else β i) (h ++ [some ⟨0, cs⟩]) { w with heap := w.heap.push (.cells (l ++ extra) t fr) } := by
  have hgl : ∀ {i k}, h.get i = some k → i ≠ h.length := fun hk => by have := get_lt hk; omega
  have hblk : ∀ i k, h.get i = some k → (β i).1 < w.heap.size := fun i k hk => by
    obtain ⟨c, t, fr, hc, _⟩ := r.blk i k hk
    exact (Array.getElem?_eq_some_iff.1 hc).1
  have nx : Nx X0 β h w (fun i => if i = h.length then (w.heap.size, 0) else β i) (h ++ [some ⟨0, cs⟩]) { w with heap := w.heap.push (.cells (l ++ extra) t fr) } := by
    refine ⟨by simp, rfl, rfl, rfl, fun b hb _ => ?_, fun b hb _ => ?_, by simp, fun id k' hi hk => ?_, fun b hl => ?_⟩
    · simp [Array.getElem?_push, Nat.ne_of_lt hb]
    · show _ = _
      simp [Array.getElem?_push, Nat.ne_of_lt hb]
    · rw [get_append_old hi] at hk
      refine ⟨k', hk, Nat.le_refl _, fun _ => ⟨by simp [Nat.ne_of_lt hi], fun n hr => ?_⟩⟩
      obtain ⟨c, t', fr', hc, hn⟩ := hr
      have hlt : (β id).1 < w.heap.size := (Array.getElem?_eq_some_iff.1 hc).1
      exact ⟨c, t', fr', by simp [Array.getElem?_push, Nat.ne_of_lt hlt, hc], hn⟩
    · obtain ⟨id, k, hk, hb⟩ := hl
      rcases get_append hk with ⟨hi, hk⟩ | ⟨rfl, _⟩
      · simp only [Nat.ne_of_lt hi, if_false] at hb
        exact .inr ⟨id, k, hk, hb⟩
      · simp only [if_true] at hb
        exact .inl (by omega)
  refine ⟨⟨fun id k hk => ?_, fun i j k k' hi hj he => ?_⟩, nx, fun m hm hinv id k hid hk => ?_⟩
  · rcases get_append hk with ⟨hi, hk⟩ | ⟨rfl, rfl⟩
    · obtain ⟨c, t', fr', hc, ok⟩ := r.blk id k hk
      have hlt : (β id).1 < w.heap.size := (Array.getElem?_eq_some_iff.1 hc).1
      refine ⟨c, t', fr', by simp [Nat.ne_of_lt hi, Array.getElem?_push, Nat.ne_of_lt hlt, hc], ?_⟩
      refine ⟨ok.frz, by simpa [Nat.ne_of_lt hi] using ok.len, ?_, by simpa [Nat.ne_of_lt hi] using ok.out, rbL_mono (by simp) ok.rb, ok.flat⟩
      simp only [Nat.ne_of_lt hi, if_false]
      exact VLW.next nx ok.rb ok.val
    · refine ⟨l ++ extra, t, fr, by simp, hfr, ?_, ?_, ?_, rbL_mono (by simp) hb, hfl⟩
      · have := VL.length hv
        simp at this ⊢
        omega
      · have hl := VL.length hv
        simp at hl
        simp only [if_true, Array.toList_append, List.drop_zero]
        rw [List.take_append_of_le_length (by simp; omega), List.take_of_length_le (by simp; omega)]
        exact VLW.next nx hb hv
      · simp only [if_true]
        intro h0
        have := hX _ h0
        omega
  · rcases get_append hi with ⟨h1, hi⟩ | ⟨rfl, rfl⟩ <;> rcases get_append hj with ⟨h2, hj⟩ | ⟨rfl, rfl⟩
    · simp only [Nat.ne_of_lt h1, Nat.ne_of_lt h2, if_false] at he
      exact r.inj i j k k' hi hj he
    · simp only [Nat.ne_of_lt h1, if_false, if_true] at he
      have := hblk i k hi
      omega
    · simp only [Nat.ne_of_lt h2, if_false, if_true] at he
      have := hblk j k' hj
      omega
    · rfl
  · rcases get_append hk with ⟨hi, hk⟩ | ⟨rfl, rfl⟩
    · exact hinv id k hid hk
    · exact rbL_mono (by omega) hb

end Go.Dn

namespace Go.Dn
variable {X0 : Nat → Prop} {β β' β'' : Bt} {h h' h'' : H} {w w' w'' : World} {P : Program}

theorem get_set {h : H} {id j : Nat} {k k1 k' : Blk} (hg : h.get id = some k) (hj : H.get (h.set id (some k1)) j = some k') : (j = id ∧ k' = k1) ∨ (j ≠ id ∧ h.get j = some k') := by
  by_cases e : id = j
  · subst e
    rw [get_set_self hg] at hj
    exact .inl ⟨rfl, by simpa using hj.symm⟩
  · rw [get_set_ne e] at hj
    exact .inr ⟨fun he => e he.symm, hj⟩

/-- A live block is written anew, in its own row. -/
theorem Step.upd (r : Rel X0 β h w) (base : Nat) {id nb : Nat} {k k' : Blk} {cur cur' : Array Value} {t : TypeId} {fr : Nat × Nat}
    (hg : h.get id = some k) (hc : w.heap[(β id).1]? = some (.cells cur t fr)) (hs : cur'.size = cur.size) (hver : k.ver ≤ k'.ver) (hnb : k.ver = k'.ver → nb = (β id).2)
    (hl : nb + k'.cells.length ≤ cur.size) (hrb : rbL h.length k'.cells = true) (hfl : k'.cells.all D.isCell = true) (hk : base ≤ id ∨ ∀ d ∈ k'.cells, d ∈ k.cells ∨ rb (id + 1) d = true)
    (hv : VLW X0 β h w k'.cells ((cur'.toList.drop nb).take k'.cells.length)) :
    Step X0 base β h w (fun i => if i = id then ((β id).1, nb) else β i) (h.set id (some k')) (w.setRow (β id).1 cur') := by
  have hf1 : ∀ i, (if i = id then ((β id).1, nb) else β i).1 = (β i).1 := fun i => by by_cases e : i = id <;> simp [e]
  have hbl : (β id).1 < w.heap.size := (Array.getElem?_eq_some_iff.1 hc).1
  have hlen : (h.set id (some k')).length = h.length := List.length_set ..
  obtain ⟨cur0, t0, fr0, hc0, ok0⟩ := r.blk id k hg
  rw [hc] at hc0
  simp only [Option.some.injEq, Obj.cells.injEq] at hc0
  obtain ⟨rfl, rfl, rfl⟩ := hc0
  have hlive : Live β h (β id).1 := ⟨id, k, hg, rfl⟩
  have nx : Nx X0 β h w (fun i => if i = id then ((β id).1, nb) else β i) (h.set id (some k')) (w.setRow (β id).1 cur') := by
    refine ⟨by simp, rfl, rfl, rfl, fun b hb hX => ?_, fun b hb hX => ?_, by simp, fun j k1 hj hk1 => ?_, fun b hb => .inr ?_⟩
    · exact setRow_other w _ b cur' (fun e => ok0.out (e ▸ hX))
    · exact setRow_other w _ b cur' (fun e => hX (.inr (e ▸ hlive)))
    · rcases get_set hg hk1 with ⟨rfl, rfl⟩ | ⟨hne, hk1⟩
      · refine ⟨k, hg, hver, fun e => ⟨by simp [hnb e], fun n hr => ?_⟩⟩
        obtain ⟨cs, t', fr', h1, h2⟩ := hr
        rw [hc] at h1
        simp only [Option.some.injEq, Obj.cells.injEq] at h1
        obtain ⟨rfl, rfl, rfl⟩ := h1
        exact ⟨cur', t, fr, setRow_heap w _ cur cur' t fr hc, by omega⟩
      · refine ⟨k1, hk1, Nat.le_refl _, fun _ => ⟨by simp [hne], fun n hr => ?_⟩⟩
        have hne1 : (β j).1 ≠ (β id).1 := fun e => hne (r.inj j id k1 k hk1 hg e)
        obtain ⟨cs, t', fr', h1, h2⟩ := hr
        exact ⟨cs, t', fr', (setRow_other w _ _ cur' hne1).trans h1, h2⟩
    · obtain ⟨j, k1, hk1, e⟩ := hb
      rw [hf1] at e
      rcases get_set hg hk1 with ⟨rfl, rfl⟩ | ⟨hne, hk1⟩
      · exact ⟨j, k, hg, e⟩
      · exact ⟨j, k1, hk1, e⟩
  refine ⟨⟨fun j k1 hk1 => ?_, fun i j k1 k2 hi hj he => ?_⟩, nx, fun m hm hinv j k1 hj hk1 => ?_⟩
  · rcases get_set hg hk1 with ⟨rfl, rfl⟩ | ⟨hne, hk1⟩
    · refine ⟨cur', t, fr, by simpa using setRow_heap w _ cur cur' t fr hc, ?_⟩
      refine ⟨by rw [hs]; exact ok0.frz, by simp; omega, ?_, by simpa using ok0.out, by rw [hlen]; exact hrb, hfl⟩
      simp only [if_true]
      exact VLW.next nx hrb hv
    · have hne1 : (β j).1 ≠ (β id).1 := fun e => hne (r.inj j id k1 k hk1 hg e)
      obtain ⟨cs, t', fr', h1, ok⟩ := r.blk j k1 hk1
      refine ⟨cs, t', fr', by simpa [hne] using (setRow_other w _ _ cur' hne1).trans h1, ?_⟩
      refine ⟨ok.frz, by simpa [hne] using ok.len, ?_, by simpa [hne] using ok.out, by rw [hlen]; exact ok.rb, ok.flat⟩
      simp only [hne, if_false]
      exact VLW.next nx ok.rb ok.val
  · rw [hf1, hf1] at he
    rcases get_set hg hi with ⟨rfl, rfl⟩ | ⟨h1, hi'⟩ <;> rcases get_set hg hj with ⟨rfl, rfl⟩ | ⟨h2, hj'⟩
    · rfl
    · exact r.inj i j k k2 hg hj' he
    · exact r.inj i j k1 k hi' hg he
    · exact r.inj i j k1 k2 hi' hj' he
  · rcases get_set hg hk1 with ⟨rfl, rfl⟩ | ⟨hne, hk1⟩
    · rcases hk with hk | hk
      · omega
      · refine rbL_iff.2 fun d hd => ?_
        rcases hk d hd with h1 | h1
        · exact rbL_iff.1 (hinv j k hj hg) d h1
        · exact rb_mono (by omega) h1
    · exact hinv j k1 hj hk1

/-- A live block moves to a new row (its version goes up). -/
theorem Step.move (r : Rel X0 β h w) (base : Nat) (hX : ∀ b, X0 b → b < w.heap.size) {id : Nat} {k k' : Blk} {l extra : Array Value} (t : TypeId)
    (hg : h.get id = some k) (hver : k.ver < k'.ver) (hrb : rbL h.length k'.cells = true) (hfl : k'.cells.all D.isCell = true) (hk : base ≤ id ∨ ∀ d ∈ k'.cells, d ∈ k.cells ∨ rb (id + 1) d = true)
    (hv : VLW X0 β h w k'.cells l.toList) :
    Step X0 base β h w (fun i => if i = id then (w.heap.size, 0) else β i) (h.set id (some k')) { w with heap := w.heap.push (.cells (l ++ extra) t) } := by
  have hlen : (h.set id (some k')).length = h.length := List.length_set ..
  have hblk : ∀ i k, h.get i = some k → (β i).1 < w.heap.size := fun i k hk => by
    obtain ⟨c, t, fr, hc, _⟩ := r.blk i k hk
    exact (Array.getElem?_eq_some_iff.1 hc).1
  have nx : Nx X0 β h w (fun i => if i = id then (w.heap.size, 0) else β i) (h.set id (some k')) { w with heap := w.heap.push (.cells (l ++ extra) t) } := by
    refine ⟨by simp, rfl, rfl, rfl, fun b hb _ => ?_, fun b hb _ => ?_, by simp, fun j k1 hj hk1 => ?_, fun b hl => ?_⟩
    · simp [Array.getElem?_push, Nat.ne_of_lt hb]
    · simp [Array.getElem?_push, Nat.ne_of_lt hb]
    · rcases get_set hg hk1 with ⟨rfl, rfl⟩ | ⟨hne, hk1⟩
      · exact ⟨k, hg, Nat.le_of_lt hver, fun e => by omega⟩
      · refine ⟨k1, hk1, Nat.le_refl _, fun _ => ⟨by simp [hne], fun n hr => ?_⟩⟩
        obtain ⟨c, t', fr, hc, hn⟩ := hr
        have hlt : (β j).1 < w.heap.size := (Array.getElem?_eq_some_iff.1 hc).1
        exact ⟨c, t', fr, by simp [Array.getElem?_push, Nat.ne_of_lt hlt, hc], hn⟩
    · obtain ⟨j, k1, hk1, hb⟩ := hl
      rcases get_set hg hk1 with ⟨rfl, rfl⟩ | ⟨hne, hk1⟩
      · simp only [if_true] at hb
        exact .inl (by omega)
      · simp only [hne, if_false] at hb
        exact .inr ⟨j, k1, hk1, hb⟩
  refine ⟨⟨fun j k1 hk1 => ?_, fun i j k1 k2 hi hj he => ?_⟩, nx, fun m hm hinv j k1 hj hk1 => ?_⟩
  · rcases get_set hg hk1 with ⟨rfl, rfl⟩ | ⟨hne, hk1⟩
    · refine ⟨l ++ extra, t, (0, 0), by simp, .inl rfl, ?_, ?_, ?_, by rw [hlen]; exact hrb, hfl⟩
      · have := VL.length hv
        simp at this ⊢
        omega
      · have hl := VL.length hv
        simp at hl
        simp only [if_true, Array.toList_append, List.drop_zero]
        rw [List.take_append_of_le_length (by simp; omega), List.take_of_length_le (by simp; omega)]
        exact VLW.next nx hrb hv
      · simp only [if_true]
        intro h0
        have := hX _ h0
        omega
    · obtain ⟨c, t', fr, hc, ok⟩ := r.blk j k1 hk1
      have hlt : (β j).1 < w.heap.size := (Array.getElem?_eq_some_iff.1 hc).1
      refine ⟨c, t', fr, by simp [hne, Array.getElem?_push, Nat.ne_of_lt hlt, hc], ?_⟩
      refine ⟨ok.frz, by simpa [hne] using ok.len, ?_, by simpa [hne] using ok.out, by rw [hlen]; exact ok.rb, ok.flat⟩
      simp only [hne, if_false]
      exact VLW.next nx ok.rb ok.val
  · rcases get_set hg hi with ⟨rfl, rfl⟩ | ⟨h1, hi'⟩ <;> rcases get_set hg hj with ⟨rfl, rfl⟩ | ⟨h2, hj'⟩
    · rfl
    · simp only [h2, if_false, if_true] at he
      have := hblk j k2 hj'
      omega
    · simp only [h1, if_false, if_true] at he
      have := hblk i k1 hi'
      omega
    · simp only [h1, h2, if_false] at he
      exact r.inj i j k1 k2 hi' hj' he
  · rcases get_set hg hk1 with ⟨rfl, rfl⟩ | ⟨hne, hk1⟩
    · rcases hk with hk | hk
      · omega
      · refine rbL_iff.2 fun d hd => ?_
        rcases hk d hd with h1 | h1
        · exact rbL_iff.1 (hinv j k hj hg) d h1
        · exact rb_mono (by omega) h1
    · exact hinv j k1 hj hk1

/-- Cells are stored one behind the other. -/
theorem run_storeCells_fr (P : Program) (g o : Nat) (t : TypeId) (fz : Nat × Nat) : ∀ (vs : List Value) (i : Nat) (cur : Array Value) (w : World), w.heap[g]? = some (.cells cur t fz) → (fz.1 = fz.2 ∨ cur.size ≤ fz.1) → o + i + vs.length ≤ cur.size → (∀ v ∈ vs, v.oneCell' = true) →
    (storeCells ⟨g, o, none⟩ vs i).run P w = .ok () (w.setRow g (cur.toList.take (o + i) ++ vs ++ cur.toList.drop (o + i + vs.length)).toArray)
  | [], i, cur, w, hg, _, _, _ => by
    simp only [storeCells, List.append_nil, List.length_nil, Nat.add_zero, List.take_append_drop, Array.toArray_toList]
    rw [setRow_self w g cur t fz hg]
    rfl
  | v :: rest, i, cur, w, hg, hfz, hl, h1 => by
    have hi : o + i < cur.size := by simp at hl; omega
    have hadd : (⟨g, o, none⟩ : Addr).add i = ⟨g, o + i, none⟩ := by unfold Addr.add; split <;> simp_all
    have hcell : w.cell? ⟨g, o + i, none⟩ = some cur[o + i] := by simp [World.cell?, hg, hi]
    have hfro : w.frozen? ⟨g, o + i, none⟩ = false := by
      obtain ⟨lo, hi'⟩ := fz
      simp only [World.frozen?, hg, Bool.and_eq_false_iff, decide_eq_false_iff_not]
      simp only at hfz
      omega
    have hst : (store ((⟨g, o, none⟩ : Addr).add i) v).run P w = .ok () (w.setRow g (cur.setIfInBounds (o + i) v)) := by
      rw [hadd, run_store P w _ v _ (h1 v (by simp)), hcell]
      simp [hfro, setCell_eq_setRow w g (o + i) cur t fz v hg]
    have ih := run_storeCells_fr P g o t fz rest (i + 1) (cur.setIfInBounds (o + i) v) (w.setRow g (cur.setIfInBounds (o + i) v)) (setRow_heap w g cur _ t _ hg) (by simpa using hfz) (by simp at hl ⊢; omega) (fun x hx => h1 x (by simp [hx]))
    simp only [storeCells, Sem.run_bind, hst, Result.andThen_ok, ih, setRow_setRow]
    congr 3
    have e := list_seg_step cur.toList (o + i) v rest (by simp at hl ⊢; omega)
    simpa [Array.toList_setIfInBounds, Nat.add_assoc] using e

theorem V.oneCell {cl : Addr → Option Value} {X : Nat → Prop} {ρ : Rf} : ∀ {d : D} {v : Value}, d.isCell = true → V cl X ρ d v → v.oneCell' = true
  | .agg _, _, h, _ => by simp [D.isCell] at h
  | .tup _, _, h, _ => by simp [D.isCell] at h
  | .bool _, _, _, h | .int .., _, _, h | .str _, _, _, h | .nilp, _, _, h | .nils, _, _, h | .nilfn, _, _, h | .nilif, _, _, h | .nilm, _, _, h => by simp only [V] at h; subst h; rfl
  | .ptr .., _, _, h | .iptr _, _, _, h => by simp only [V] at h; obtain ⟨a, rfl, _⟩ := h; rfl
  | .vs .., _, _, h => by simp only [V] at h; obtain ⟨a, c, sz, rfl, _⟩ := h; rfl
  | .rs .., _, _, h => by simp only [V] at h; obtain ⟨a, c, rfl, _⟩ := h; rfl
  | .fn .., _, _, h => by simp only [V] at h; obtain ⟨x, y, rfl, _⟩ := h; rfl
  | .ifc .., _, _, h => by simp only [V] at h; obtain ⟨u, rfl, _⟩ := h; rfl
theorem VL.oneCell {cl : Addr → Option Value} {X : Nat → Prop} {ρ : Rf} : ∀ {ds : List D} {l : List Value}, ds.all D.isCell = true → VL cl X ρ ds l → ∀ v ∈ l, v.oneCell' = true
  | [], l, _, h, v, hv => by simp only [VL] at h; subst h; cases hv
  | d :: ds, l, hd, h, v, hv => by
    simp only [VL] at h
    obtain ⟨u, r, rfl, h1, h2⟩ := h
    simp only [List.all_cons, Bool.and_eq_true] at hd
    rcases List.mem_cons.1 hv with rfl | hv
    · exact V.oneCell hd.1 h1
    · exact VL.oneCell hd.2 h2 v hv

theorem splice_length {l : List D} {off : Nat} {cs : List D} (hl : off + cs.length ≤ l.length) : (splice l off cs).length = l.length := by simp [splice]; omega
theorem mem_splice {l : List D} {off : Nat} {cs : List D} {d : D} (hd : d ∈ splice l off cs) : d ∈ l ∨ d ∈ cs := by
  simp only [splice, List.mem_append] at hd
  rcases hd with (hd | hd) | hd
  · exact .inl (List.mem_of_mem_take hd)
  · exact .inr hd
  · exact .inl (List.mem_of_mem_drop hd)

/-- A store into a live block. -/
theorem Step.write (P : Program) (r : Rel X0 β h w) (base : Nat) {id off : Nat} {k : Blk} {cs : List D} {vs : List Value} (hg : h.get id = some k) (hl : off + cs.length ≤ k.cells.length)
    (hrb : rbL h.length cs = true) (hfl : cs.all D.isCell = true) (hk : base ≤ id ∨ rbL (id + 1) cs = true) (hv : VLW X0 β h w cs vs) :
    ∃ w', (storeCells ⟨(β id).1, (β id).2 + off, none⟩ vs).run P w = .ok () w' ∧ Step X0 base β h w β (h.set id (some { k with cells := splice k.cells off cs })) w' := by
  obtain ⟨cur, t, fr, hc, ok⟩ := r.blk id k hg
  have hlv : vs.length = cs.length := hv.length
  have hkl := ok.len
  have hrun := run_storeCells_fr P (β id).1 ((β id).2 + off) t fr vs 0 cur w hc ok.frz (by omega) (VL.oneCell hfl hv)
  simp only [Nat.add_zero] at hrun
  refine ⟨_, hrun, ?_⟩
  have hsz : ((cur.toList.take ((β id).2 + off) ++ vs ++ cur.toList.drop ((β id).2 + off + vs.length)).toArray).size = cur.size := by simp; omega
  have e : (fun i => if i = id then ((β id).1, (β id).2) else β i) = β := by
    funext i
    by_cases hi : i = id <;> simp [hi]
  have := Step.upd (k' := { k with cells := splice k.cells off cs }) (nb := (β id).2) r base hg hc hsz (Nat.le_refl _) (fun _ => rfl) (by simp only [splice_length hl]; exact ok.len)
    (rbL_iff.2 fun d hd => (mem_splice hd).elim (rbL_iff.1 ok.rb d) (rbL_iff.1 hrb d))
    (List.all_eq_true.2 fun d hd => (mem_splice hd).elim (List.all_eq_true.1 ok.flat d) (List.all_eq_true.1 hfl d))
    (hk.imp (fun h => h) fun h1 d hd => (mem_splice hd).imp (fun h => h) (rbL_iff.1 h1 d)) ?_
  · rwa [e] at this
  · simp only [splice_length hl]
    have hA : ((cur.toList.take ((β id).2 + off) ++ vs ++ cur.toList.drop ((β id).2 + off + vs.length)).drop (β id).2).take k.cells.length =
        (((cur.toList.drop (β id).2).take k.cells.length).take off) ++ vs ++ (((cur.toList.drop (β id).2).take k.cells.length).drop (off + vs.length)) := by
      apply List.ext_getElem?
      intro j
      have hcl : cur.toList.length = cur.size := by simp
      simp only [List.getElem?_take, List.getElem?_drop, List.getElem?_append, List.length_take, List.length_append, List.length_drop]
      repeat' split
      all_goals (first | rfl | (exfalso; omega) | (congr 1; omega) | (symm; apply List.getElem?_eq_none; omega) | (apply List.getElem?_eq_none; omega))
    rw [hA]
    unfold splice
    rw [hlv]
    exact ((ok.val.take off).append hv).append (ok.val.drop _)
end Go.Dn

namespace Go.Dn
variable {X0 : Nat → Prop} {β β' β'' : Bt} {h h' h'' : H} {w w' w'' : World} {P : Program}

/-- A datum without references is said by any meaning of references. -/
theorem V.free {cl : Addr → Option Value} {X : Nat → Prop} {ρ ρ' : Rf} {d : D} {v : Value} (hb : rb 0 d = true) (hv : V cl X ρ d v) : V cl X ρ' d v :=
  V.mono (m := 0) (fun _ _ h1 h2 => ⟨h1, h2⟩) (fun _ _ _ _ h _ => by omega) (fun _ _ _ _ _ _ _ _ _ h _ => by omega) hb hv
theorem VL.free {cl : Addr → Option Value} {X : Nat → Prop} {ρ ρ' : Rf} {d : List D} {v : List Value} (hb : rbL 0 d = true) (hv : VL cl X ρ d v) : VL cl X ρ' d v :=
  VL.mono (m := 0) (fun _ _ h1 h2 => ⟨h1, h2⟩) (fun _ _ _ _ h _ => by omega) (fun _ _ _ _ _ _ _ _ _ h _ => by omega) hb hv

theorem VL.all {cl : Addr → Option Value} {X : Nat → Prop} {ρ : Rf} : ∀ {ds : List D} {l : List Value}, l.length = ds.length → (∀ (i : Nat) d v, ds[i]? = some d → l[i]? = some v → V cl X ρ d v) → VL cl X ρ ds l := VL.of_get

/-! What stands behind an address. -/
structure Cellsat (X0 : Nat → Prop) (β : Bt) (h : H) (w : World) (a : Addr) (cs : List D) (l : List Value) : Prop where
  at_ : ∀ (j : Nat) u, l[j]? = some u → w.cell? (a.add j) = some u
  val : VLW X0 β h w cs l
  flat : cs.all D.isCell = true
  rb : rbL h.length cs = true

theorem cells_of_VA {a : Addr} : ∀ {cs : List D} {k : Nat}, VA w.cell? (XX X0 β h) cs a k → ∃ l, (∀ (j : Nat) u, l[j]? = some u → w.cell? (a.add (k + j)) = some u) ∧ VLW X0 β h w cs l ∧ cs.all D.isCell = true ∧ rbL 0 cs = true
  | [], k, hv => ⟨[], by simp, VL.nil, rfl, rfl⟩
  | d :: ds, k, hv => by
    simp only [VA] at hv
    obtain ⟨⟨u, h1, h2, h3, h4, h5⟩, h6⟩ := hv
    obtain ⟨l, a1, a2, a3, a4⟩ := cells_of_VA h6
    refine ⟨u :: l, fun j x hj => ?_, VL.cons (V.free h3 h5) a2, by simp [h4, a3], by simp [rbL, h3, a4]⟩
    cases j with
    | zero => simp at hj; subst hj; exact h1
    | succ j => rw [show k + (j + 1) = k + 1 + j from by omega]; exact a1 j x (by simpa using hj)

theorem add_plain (b o j : Nat) : (⟨b, o, none⟩ : Addr).add j = ⟨b, o + j, none⟩ := by unfold Addr.add; split <;> simp_all

theorem rdC_some {id ver off n : Nat} {cs : List D} (hr : rdC h id ver off n = some cs) : ∃ k, h.get id = some k ∧ k.ver = ver ∧ off + n ≤ k.cells.length ∧ cs = (k.cells.drop off).take n := by
  unfold rdC at hr
  split at hr
  · rename_i k hk
    split at hr
    · rename_i hc
      exact ⟨k, hk, hc.1, hc.2, by simpa using hr.symm⟩
    · cases hr
  · cases hr

theorem Rel.cellsat (r : Rel X0 β h w) {id off n : Nat} {k : Blk} (hg : h.get id = some k) (hl : off + n ≤ k.cells.length) :
    ∃ l, Cellsat X0 β h w ⟨(β id).1, (β id).2 + off, none⟩ ((k.cells.drop off).take n) l := by
  obtain ⟨cur, t, fr, hc, ok⟩ := r.blk id k hg
  have hlen := ok.len
  refine ⟨((((cur.toList.drop (β id).2).take k.cells.length).drop off).take n), fun j u hj => ?_, (ok.val.drop off).take n, ?_, ?_⟩
  · rw [add_plain]
    have hj' : j < n := by
      rw [List.getElem?_take] at hj
      split at hj
      · assumption
      · cases hj
    rw [List.getElem?_take, if_pos hj', List.getElem?_drop, List.getElem?_take, if_pos (by omega), List.getElem?_drop] at hj
    simp only [World.cell?, hc, Option.isSome_none, Bool.false_eq_true, if_false]
    rw [← hj, Array.getElem?_toList]
    congr 1
    omega
  · exact List.all_eq_true.2 fun d hd => List.all_eq_true.1 ok.flat d (List.mem_of_mem_drop (List.mem_of_mem_take hd))
  · exact rbL_sub ok.rb fun d hd => List.mem_of_mem_drop (List.mem_of_mem_take hd)

theorem Cellsat.ofVA {a : Addr} {cs : List D} {k : Nat} (hv : VA w.cell? (XX X0 β h) cs a k) : ∃ l, Cellsat X0 β h w (a.add k) cs l := by
  obtain ⟨l, h1, h2, h3, h4⟩ := cells_of_VA hv
  exact ⟨l, fun j u hj => by rw [add_add]; exact h1 j u hj, h2, h3, rbL_mono (by omega) h4⟩

theorem VA.sub {cl : Addr → Option Value} {X : Nat → Prop} {cs : List D} {a : Addr} {k : Nat} (hv : VA cl X cs a k) (i n : Nat) : VA cl X ((cs.drop i).take n) a (k + i) :=
  VA.of_get fun j d hd => by
    rw [List.getElem?_take] at hd
    split at hd
    · rw [List.getElem?_drop] at hd
      have := hv.get hd
      rwa [show k + (i + j) = k + i + j from by omega] at this
    · cases hd
theorem VA.drop {cl : Addr → Option Value} {X : Nat → Prop} {cs : List D} {a : Addr} {k : Nat} (hv : VA cl X cs a k) (i : Nat) : VA cl X (cs.drop i) a (k + i) :=
  VA.of_get fun j d hd => by
    rw [List.getElem?_drop] at hd
    have := hv.get hd
    rwa [show k + (i + j) = k + i + j from by omega] at this
theorem VA.shift {cl : Addr → Option Value} {X : Nat → Prop} {cs : List D} {a : Addr} {k : Nat} (hv : VA cl X cs a k) : VA cl X cs (a.add k) 0 :=
  VA.of_get fun j d hd => by
    have := hv.get hd
    rw [add_add, add_block, Nat.zero_add]
    exact this

/-- A pointer: the cells behind it. -/
theorem loadC_ok (r : Rel X0 β h w) {d : D} {v : Value} {n : Nat} {cs : List D} (hl : loadC h n d = some cs) (hv : VW X0 β h w d v) :
    ∃ a l, v = .pointer (some a) ∧ Cellsat X0 β h w a cs l ∧ cs.length = n := by
  cases d <;> simp only [loadC] at hl <;> (first | (cases hl; done) | skip)
  case ptr id ver off =>
    obtain ⟨k, hg, hk, hn, rfl⟩ := rdC_some hl
    simp only [VW, V] at hv
    obtain ⟨a, rfl, hp⟩ := hv
    obtain ⟨l, hc⟩ := r.cellsat hg hn
    refine ⟨a, l, rfl, ?_, by simp; omega⟩
    rw [hp.2 ⟨k, hg, hk⟩]
    exact hc
  case iptr c =>
    split at hl
    · rename_i hn
      simp only [Option.some.injEq] at hl
      subst hl
      simp only [VW, V] at hv
      obtain ⟨a, rfl, hp⟩ := hv
      have := hp.sub 0 n
      simp only [List.drop_zero, Nat.zero_add] at this
      obtain ⟨l, hc⟩ := Cellsat.ofVA this
      exact ⟨a, l, rfl, by simpa [Addr.add] using hc, by simp; omega⟩
    · cases hl

/-! Types. -/
theorem sizeP_some {t : TypeId} (h : sizeP P t ≠ 0) : ∃ d i, P.underlying t = some d ∧ P.info? t = some i ∧ i.size = sizeP P t := by
  unfold sizeP at h ⊢
  cases hu : P.underlying t with
  | none => simp [hu] at h
  | some d =>
    simp only [hu, Option.isSome_some, if_true, Program.cellsOf] at h ⊢
    cases hi : P.info? t with
    | none => simp [hi] at h
    | some i => exact ⟨d, i, rfl, rfl, by simp⟩
theorem run_isAggP {t : TypeId} {d : TypeDesc} (hu : P.underlying t = some d) (w : World) : (isAgg t).run P w = .ok (isAggP P t) w := by
  unfold isAgg isAggP
  rw [Sem.run_bind, run_underlying hu w]
  simp only [hu, Result.andThen_ok]
  cases d <;> rfl
theorem info_of_underlying {t : TypeId} {d : TypeDesc} (hu : P.underlying t = some d) : ∃ i, P.info? t = some i ∧ P.cellsOf t = i.size ∧ P.bytesOf t = i.bytes := by
  unfold Program.underlying at hu
  cases hi : P.info? t with
  | none => simp [hi] at hu
  | some i => exact ⟨i, rfl, by simp [Program.cellsOf, hi], by simp [Program.bytesOf, hi]⟩
theorem sizeP_eq {t : TypeId} {d : TypeDesc} (hu : P.underlying t = some d) : sizeP P t = P.cellsOf t := by simp [sizeP, hu]
theorem run_sizeOfP {t : TypeId} {d : TypeDesc} (hu : P.underlying t = some d) (w : World) : (sizeOf t).run P w = .ok (sizeP P t) w := by
  obtain ⟨i, hi, hs, _⟩ := info_of_underlying hu
  rw [sizeP_eq hu, hs]
  simp [sizeOf, typeInfo, hi]

/-- A value out of cells. -/
theorem mkV_ok {t : TypeId} {d : TypeDesc} (hu : P.underlying t = some d) {cs : List D} {l : List Value} {x : D} (hm : mkV (isAggP P t) cs = some x) (hs : cs.length = sizeP P t) {a : Addr} (hc : Cellsat X0 β h w a cs l) :
    ∃ u, (loadVar t a).run P w = .ok u w ∧ VW X0 β h w x u ∧ rb h.length x = true := by
  have hll : l.length = cs.length := hc.val.length
  unfold loadVar
  rw [Sem.run_bind, run_isAggP hu w]
  simp only [Result.andThen_ok]
  unfold mkV at hm
  cases hg : isAggP P t with
  | true =>
    simp only [hg, if_true, Option.some.injEq] at hm
    subst hm
    have hlc := run_loadCells_list (P := P) w a l hc.at_
    refine ⟨.agg l.toArray, ?_, ?_, by simpa [rb] using hc.rb⟩
    · rw [if_pos rfl]
      simp only [Sem.run_bind, run_sizeOfP hu w, Result.andThen_ok]
      rw [← hs, ← hll, hlc]
      rfl
    · simp only [VW, V]
      exact ⟨l.toArray, rfl, hc.flat, by simpa using hc.val⟩
  | false =>
    simp only [hg, Bool.false_eq_true, if_false] at hm
    match cs, l, hm, hc, hll with
    | [c], [u], hm, hc, _ =>
      simp only [Option.some.injEq] at hm
      subst hm
      have h1 := hc.at_ 0 u rfl
      obtain ⟨_, _, e, h2, _⟩ := hc.val.uncons
      simp only [List.cons.injEq] at e
      obtain ⟨rfl, rfl⟩ := e
      refine ⟨u, ?_, h2, ?_⟩
      · simp only [Bool.false_eq_true, if_false]
        simp only [Addr.add, if_true] at h1
        simp [h1]
      · have := hc.rb
        simpa [rbL] using this

theorem load_ok {A : Ann} (hA : A.ty = tyOf P) (r : Rel X0 β h w) {t : TypeId} {d x : D} {v : Value} (hl : loadD A h t d = some x) (hv : VW X0 β h w d v) :
    ∃ u, (Instr.loadAt t v).run P w = .ok u w ∧ VW X0 β h w x u ∧ rb h.length x = true := by
  unfold loadD at hl
  rw [hA] at hl
  simp only [tyOf] at hl
  cases hc : loadC h (sizeP P t) d with
  | none => simp [hc] at hl
  | some cs =>
    simp only [hc, Option.bind_some] at hl
    obtain ⟨a, l, rfl, hca, hn⟩ := loadC_ok r hc hv
    have hu : ∃ dd, P.underlying t = some dd := by
      by_cases h0 : sizeP P t = 0
      · rw [h0] at hn
        have : cs = [] := List.eq_nil_of_length_eq_zero hn
        subst this
        unfold mkV at hl
        unfold isAggP at hl
        cases hd : P.underlying t with
        | some dd => exact ⟨dd, rfl⟩
        | none => simp [hd] at hl
      · obtain ⟨dd, _, h1, _⟩ := sizeP_some h0
        exact ⟨dd, h1⟩
    obtain ⟨dd, hu⟩ := hu
    obtain ⟨u, h1, h2, h3⟩ := mkV_ok hu hl hn hca
    exact ⟨u, by simpa [Instr.loadAt, Instr.sureAddr] using h1, h2, h3⟩
end Go.Dn

namespace Go.Dn
variable {X0 : Nat → Prop} {β β' β'' : Bt} {h h' h'' : H} {w w' w'' : World} {P : Program} {A : Ann}

theorem struct_kd (hA : A.ty = tyOf P) {t : Nat} {fs : List (Nat × Nat × Bool)} (hk : (A.ty t).kd = .struct fs) : ∃ F, P.underlying t = some (.struct F) ∧ fs = F.toList.map fun f => (f.offset, sizeP P f.type, isAggP P f.type) := by
  rw [hA] at hk
  simp only [tyOf] at hk
  cases hu : P.underlying t with
  | none => simp [hu] at hk
  | some d =>
    rw [hu] at hk
    cases d <;> simp only [] at hk <;> (first | (cases hk; done) | (split at hk <;> cases hk; done) | skip)
    rename_i F
    split at hk
    · simp only [Kd.struct.injEq] at hk
      exact ⟨F, rfl, hk.symm⟩
    · cases hk
theorem fieldOff_ok (hA : A.ty = tyOf P) {s f off sz : Nat} {ag : Bool} (hf : fieldOff A s f = some (off, sz, ag)) :
    ∃ F fl, P.underlying s = some (.struct F) ∧ F[f]? = some fl ∧ off = fl.offset ∧ sz = sizeP P fl.type ∧ ag = isAggP P fl.type := by
  unfold fieldOff at hf
  split at hf
  · rename_i fs hk
    obtain ⟨F, hu, rfl⟩ := struct_kd hA hk
    simp only [List.getElem?_map, Array.getElem?_toList] at hf
    cases hx : F[f]? with
    | none => simp [hx] at hf
    | some fl =>
      simp only [hx, Option.map_some, Option.some.injEq, Prod.mk.injEq] at hf
      exact ⟨F, fl, hu, hx, hf.1.symm, hf.2.1.symm, hf.2.2.symm⟩
  · cases hf

theorem ptr_add {id ver off n : Nat} {a : Addr} (hp : (rho w β h).p id ver off a) : (rho w β h).p id ver (off + n) (a.add n) := by
  refine ⟨hp.1, fun hc => ?_⟩
  rw [hp.2 hc, add_plain, Nat.add_assoc]

theorem fieldAddr_ok (hA : A.ty = tyOf P) {s f : Nat} {d x : D} {v : Value} (hl : fieldAddrD A s f d = some x) (hv : VW X0 β h w d v) :
    ∃ u, (Instr.fieldAt s v f).run P w = .ok u w ∧ VW X0 β h w x u ∧ (∀ m, rb m d = true → rb m x = true) := by
  unfold fieldAddrD at hl
  cases hf : fieldOff A s f with
  | none => simp [hf] at hl
  | some q =>
    obtain ⟨off, sz, ag⟩ := q
    obtain ⟨F, fl, hu, hfl, rfl, rfl, rfl⟩ := fieldOff_ok hA hf
    simp only [hf, Option.bind_eq_bind, Option.bind_some] at hl
    split at hl
    · cases hl
    · rename_i hz
      obtain ⟨dd, i, hud, _, _⟩ := sizeP_some hz
      have hrun : ∀ a : Addr, (Instr.fieldAt s (.pointer (some a)) f).run P w = .ok (.pointer (some (a.add fl.offset))) w := fun a => by
        simp [Instr.fieldAt, run_underlying hu, hfl, Instr.sureAddr, fieldPlace, Sem.run_bind, run_sizeOfP hud, hz]
      cases d <;> simp only [] at hl <;> (first | (cases hl; done) | skip)
      case ptr id ver o =>
        simp only [Option.some.injEq] at hl
        subst hl
        simp only [VW, V] at hv ⊢
        obtain ⟨a, rfl, hp⟩ := hv
        exact ⟨_, hrun a, ⟨_, rfl, ptr_add hp⟩, fun m hm => by simpa [rb] using hm⟩
      case iptr cs =>
        split at hl
        · simp only [Option.some.injEq] at hl
          subst hl
          simp only [VW, V] at hv ⊢
          obtain ⟨a, rfl, hp⟩ := hv
          have := (hp.drop fl.offset).shift
          simp only [Nat.zero_add] at this
          exact ⟨_, hrun a, ⟨_, rfl, this⟩, fun m _ => rfl⟩
        · cases hl

theorem part_ok {t : TypeId} {d : TypeDesc} (hu : P.underlying t = some d) {cs : List D} {x : Array Value} {off : Nat} {r : D} (hp : partD (isAggP P t) cs off (sizeP P t) = some r) (hv : VLW X0 β h w cs x.toList) (hfl : cs.all D.isCell = true) :
    ∃ u, (part t x off).run P w = .ok u w ∧ VW X0 β h w r u ∧ (∀ m, rbL m cs = true → rb m r = true) := by
  unfold part
  rw [Sem.run_bind, run_isAggP hu w]
  simp only [Result.andThen_ok]
  unfold partD at hp
  cases hg : isAggP P t with
  | true =>
    simp only [hg, if_true] at hp ⊢
    split at hp
    · rename_i hl
      simp only [Option.some.injEq] at hp
      subst hp
      simp only [Sem.run_bind, run_sizeOfP hu w, Result.andThen_ok, Sem.run_pure]
      refine ⟨_, rfl, ?_, fun m hm => ?_⟩
      · simp only [VW, V]
        refine ⟨_, rfl, List.all_eq_true.2 fun d hd => List.all_eq_true.1 hfl d (List.mem_of_mem_drop (List.mem_of_mem_take hd)), ?_⟩
        have := (hv.drop off).take (sizeP P t)
        simpa [Array.toList_extract, List.extract_eq_take_drop] using this
      · simp only [rb]
        exact rbL_sub hm fun d hd => List.mem_of_mem_drop (List.mem_of_mem_take hd)
    · cases hp
  | false =>
    simp only [hg, Bool.false_eq_true, if_false] at hp ⊢
    obtain ⟨v, h1, h2⟩ := hv.get hp
    rw [Array.getElem?_toList] at h1
    simp only [h1, Sem.run_pure]
    exact ⟨v, rfl, h2, fun m hm => rbL_iff.1 hm r (List.mem_of_getElem? hp)⟩

/-- What a type of slices is. -/
theorem slice_kd (hA : A.ty = tyOf P) {t esz eb : Nat} {ez : List D} {by_ : Bool} (hk : (A.ty t).kd = .slice esz eb ez by_) :
    ∃ e, P.underlying t = some (.slice e) ∧ esz = sizeP P e ∧ eb = P.bytesOf e ∧ ez = zeroP P e ∧ by_ = (match P.underlying e with | some (.int .u8) => true | _ => false) := by
  rw [hA] at hk
  simp only [tyOf] at hk
  cases hu : P.underlying t with
  | none => simp [hu] at hk
  | some d =>
    rw [hu] at hk
    cases d <;> simp only [] at hk <;> (first | (cases hk; done) | (split at hk <;> cases hk; done) | skip)
    rename_i e
    split at hk
    · simp only [Kd.slice.injEq] at hk
      exact ⟨e, rfl, hk.1.symm, hk.2.1.symm, hk.2.2.1.symm, hk.2.2.2.symm⟩
    · cases hk
theorem arr_kd (hA : A.ty = tyOf P) {t n esz : Nat} {ag : Bool} (hk : (A.ty t).kd = .arr n esz ag) : ∃ e, P.underlying t = some (.array n e) ∧ esz = sizeP P e ∧ ag = isAggP P e := by
  rw [hA] at hk
  simp only [tyOf] at hk
  cases hu : P.underlying t with
  | none => simp [hu] at hk
  | some d =>
    rw [hu] at hk
    cases d <;> simp only [] at hk <;> (first | (cases hk; done) | (split at hk <;> cases hk; done) | skip)
    rename_i m e
    split at hk
    · simp only [Kd.arr.injEq] at hk
      exact ⟨e, by rw [hk.1], hk.2.1.symm, hk.2.2.symm⟩
    · cases hk
theorem str_kd (hA : A.ty = tyOf P) {t : Nat} (hk : (A.ty t).kd = .str) : P.underlying t = some .string := by
  rw [hA] at hk
  simp only [tyOf] at hk
  cases hu : P.underlying t with
  | none => simp [hu] at hk
  | some d =>
    rw [hu] at hk
    cases d <;> simp only [] at hk <;> (first | (cases hk; done) | (split at hk <;> cases hk; done) | skip)
    rfl
theorem int_kd (hA : A.ty = tyOf P) {t : Nat} {k : IntKind} (hk : (A.ty t).kd = .int k) : P.underlying t = some (.int k) := by
  rw [hA] at hk
  simp only [tyOf] at hk
  cases hu : P.underlying t with
  | none => simp [hu] at hk
  | some d =>
    rw [hu] at hk
    cases d <;> simp only [] at hk <;> (first | (cases hk; done) | (split at hk <;> cases hk; done) | skip)
    simp only [Kd.int.injEq] at hk
    rw [hk]

theorem lt_of_kd (hA : A.ty = tyOf P) {t : Nat} (hk : (match (A.ty t).kd with | .struct _ | .arr .. | .slice .. => true | _ => false) = true) : t < P.types.size := by
  rw [hA] at hk
  simp only [tyOf] at hk
  by_cases hlt : t < P.types.size
  · exact hlt
  · exfalso
    simp only [if_neg hlt] at hk
    cases hu : P.underlying t with
    | none => simp [hu] at hk
    | some d => rw [hu] at hk; cases d <;> simp at hk
theorem lt_slice (hA : A.ty = tyOf P) {t esz eb : Nat} {ez : List D} {by_ : Bool} (hk : (A.ty t).kd = .slice esz eb ez by_) : t < P.types.size := lt_of_kd hA (by rw [hk])
theorem lt_arr (hA : A.ty = tyOf P) {t n esz : Nat} {ag : Bool} (hk : (A.ty t).kd = .arr n esz ag) : t < P.types.size := lt_of_kd hA (by rw [hk])
theorem lt_struct (hA : A.ty = tyOf P) {t : Nat} {fs : List (Nat × Nat × Bool)} (hk : (A.ty t).kd = .struct fs) : t < P.types.size := lt_of_kd hA (by rw [hk])
theorem lt_field (hA : A.ty = tyOf P) {s f : Nat} {x : Nat × Nat × Bool} (hf : fieldOff A s f = some x) : s < P.types.size := by
  unfold fieldOff at hf
  split at hf
  · rename_i hk; exact lt_struct hA hk
  · cases hf

/-- Every type of the program that is an element or a field has a description. -/
structure TypesOk (P : Program) : Prop where
  elem : ∀ t e, t < P.types.size → (P.underlying t = some (.slice e) ∨ ∃ n, P.underlying t = some (.array n e)) → ∃ d, P.underlying e = some d
  field : ∀ t F, t < P.types.size → P.underlying t = some (.struct F) → ∀ f ∈ F, ∃ d, P.underlying f.type = some d

theorem field_ok (hA : A.ty = tyOf P) {s f : Nat} {d x : D} {v : Value} (hl : fieldD A s f d = some x) (hv : VW X0 β h w d v) (hT : TypesOk P) :
    ∃ u, (Instr.field s v f).run P w = .ok u w ∧ VW X0 β h w x u ∧ (∀ m, rb m d = true → rb m x = true) := by
  unfold fieldD at hl
  cases hf : fieldOff A s f with
  | none => simp [hf] at hl
  | some q =>
    obtain ⟨off, sz, ag⟩ := q
    obtain ⟨F, fl, hu, hfl, rfl, rfl, rfl⟩ := fieldOff_ok hA hf
    simp only [hf, Option.bind_eq_bind, Option.bind_some] at hl
    cases d <;> simp only [] at hl <;> (first | (cases hl; done) | skip)
    case agg cs =>
      simp only [VW, V] at hv
      obtain ⟨arr, rfl, hflat, hvl⟩ := hv
      have hud := hT.field s F (lt_field hA hf) hu fl (Array.mem_of_getElem? hfl)
      obtain ⟨dd, hud⟩ := hud
      obtain ⟨u, h1, h2, h3⟩ := part_ok hud hl hvl hflat
      exact ⟨u, by simp [Instr.field, run_underlying hu, hfl, asAgg, h1], h2, fun m hm => h3 m (by simpa [rb] using hm)⟩

theorem indexAddr_ok (hA : A.ty = tyOf P) (hT : TypesOk P) {t : Nat} {d i x : D} {v vi : Value} (hl : indexAddrD A t d i = some x) (hv : VW X0 β h w d v) (hvi : VW X0 β h w i vi) :
    ∃ u, (Instr.indexAt t v vi).run P w = .ok u w ∧ VW X0 β h w x u ∧ (∀ m, rb m d = true → rb m x = true) := by
  unfold indexAddrD at hl
  cases i <;> simp only [] at hl <;> (first | (cases hl; done) | skip)
  rename_i k n
  simp only [VW, V] at hvi
  subst hvi
  cases hk : (A.ty t).kd <;> rw [hk] at hl <;> (first | (cases hl; done) | skip)
  case slice esz eb ez by_ =>
    obtain ⟨e, hu, rfl, _, _, _⟩ := slice_kd hA hk
    obtain ⟨de, hue⟩ := hT.elem t e (lt_slice hA hk) (.inl hu)
    have hrun : ∀ (a : Addr) (len c : Nat), 0 ≤ n → n < len → (Instr.indexAt t (.slice (some a) len c) (.int k n)).run P w = .ok (.pointer (some (a.add (n.toNat * sizeP P e)))) w := fun a len c h0 h1 => by
      simp [Instr.indexAt, asIntOf, run_underlying hu, Sem.run_bind, run_sizeOfP hue, h0, h1]
    cases d <;> simp only [] at hl <;> (first | (cases hl; done) | skip)
    case vs xs clip =>
      split at hl
      · rename_i h0
        cases hx : xs[n.toNat]? with
        | none => simp [hx] at hl
        | some c =>
          simp only [hx] at hl
          split at hl
          · rename_i hc
            simp only [Option.some.injEq] at hl
            subst hl
            simp only [VW, V] at hv ⊢
            obtain ⟨a, cc, sz, rfl, h1, h2, h3⟩ := hv
            obtain ⟨hs, hva⟩ := h3.get hx
            have hlt := (List.getElem?_eq_some_iff.1 hx).1
            have hsz : sz = sizeP P e := by omega
            subst hsz
            have := hva.shift
            simp only [Nat.zero_add] at this
            exact ⟨_, hrun a _ _ h0 (by omega), ⟨_, rfl, this⟩, fun m _ => rfl⟩
          · cases hl
      · cases hl
    case rs id ver off len cap sz clip =>
      split at hl
      · rename_i hc
        obtain ⟨h0, h1, rfl⟩ := hc
        simp only [Option.some.injEq] at hl
        subst hl
        simp only [VW, V] at hv ⊢
        obtain ⟨a, cc, rfl, h3, h4, h5, hp⟩ := hv
        exact ⟨_, hrun a _ _ h0 h1, ⟨_, rfl, ptr_add ⟨hp.1, fun hcur => (hp.2 hcur).1⟩⟩, fun m hm => by simpa [rb] using hm⟩
      · cases hl
  case arr len esz ag =>
    obtain ⟨e, hu, rfl, rfl⟩ := arr_kd hA hk
    obtain ⟨de, hue⟩ := hT.elem t e (lt_arr hA hk) (.inr ⟨len, hu⟩)
    have hrun : ∀ (a : Addr), 0 ≤ n → n < len → (Instr.indexAt t (.pointer (some a)) (.int k n)).run P w = .ok (.pointer (some (a.add (n.toNat * sizeP P e)))) w := fun a h0 h1 => by
      simp [Instr.indexAt, Instr.sureAddr, asIntOf, run_underlying hu, Sem.run_bind, run_sizeOfP hue, h0, h1]
    cases d <;> simp only [] at hl <;> (first | (cases hl; done) | skip)
    case ptr id ver off =>
      split at hl
      · rename_i hc
        simp only [Option.some.injEq] at hl
        subst hl
        simp only [VW, V] at hv ⊢
        obtain ⟨a, rfl, hp⟩ := hv
        exact ⟨_, hrun a hc.1 hc.2, ⟨_, rfl, ptr_add hp⟩, fun m hm => by simpa [rb] using hm⟩
      · cases hl
    case iptr cs =>
      split at hl
      · rename_i hc
        simp only [Option.some.injEq] at hl
        subst hl
        simp only [VW, V] at hv ⊢
        obtain ⟨a, rfl, hp⟩ := hv
        have := (hp.drop (n.toNat * sizeP P e)).shift
        simp only [Nat.zero_add] at this
        exact ⟨_, hrun a hc.1 hc.2.1, ⟨_, rfl, this⟩, fun m _ => rfl⟩
      · cases hl

theorem index_ok (hA : A.ty = tyOf P) (hT : TypesOk P) {t : Nat} {d i x : D} {v vi : Value} (hl : indexD A t d i = some x) (hv : VW X0 β h w d v) (hvi : VW X0 β h w i vi) :
    ∃ u, (Instr.index t v vi).run P w = .ok u w ∧ VW X0 β h w x u ∧ (∀ m, rb m d = true → rb m x = true) := by
  unfold indexD at hl
  cases i <;> simp only [] at hl <;> (first | (cases hl; done) | skip)
  rename_i k n
  simp only [VW, V] at hvi
  subst hvi
  cases hk : (A.ty t).kd <;> rw [hk] at hl <;> (first | (cases hl; done) | skip)
  case arr len esz ag =>
    obtain ⟨e, hu, rfl, rfl⟩ := arr_kd hA hk
    obtain ⟨de, hue⟩ := hT.elem t e (lt_arr hA hk) (.inr ⟨len, hu⟩)
    cases d <;> simp only [] at hl <;> (first | (cases hl; done) | skip)
    case agg cs =>
      split at hl
      · rename_i hc
        simp only [VW, V] at hv
        obtain ⟨arr, rfl, hflat, hvl⟩ := hv
        obtain ⟨u, h1, h2, h3⟩ := part_ok hue hl hvl hflat
        exact ⟨u, by simp [Instr.index, asIntOf, run_underlying hu, Sem.run_bind, run_sizeOfP hue, hc.1, hc.2, h1], h2, fun m hm => h3 m (by simpa [rb] using hm)⟩
      · cases hl
  case str =>
    have hu := str_kd hA hk
    cases d <;> simp only [] at hl <;> (first | (cases hl; done) | skip)
    case str l =>
      split at hl
      · rename_i h0
        cases hx : l[n.toNat]? with
        | none => simp [hx] at hl
        | some c =>
          simp only [hx, Option.map_some, Option.some.injEq] at hl
          subst hl
          simp only [VW, V] at hv
          subst hv
          have hlt := (List.getElem?_eq_some_iff.1 hx).1
          have hg : (⟨l.toArray⟩ : ByteArray)[n.toNat]? = some c := by
            have hs : n.toNat < (ByteArray.mk l.toArray).size := by simpa [ByteArray.size] using hlt
            rw [getElem?_pos (ByteArray.mk l.toArray) n.toNat hs]
            rw [← hx, List.getElem?_eq_getElem hlt]
            rfl
          refine ⟨.int .u8 c.toNat, ?_, by simp only [VW, V], fun m _ => rfl⟩
          simp [Instr.index, asIntOf, run_underlying hu, h0, hg]
      · cases hl
end Go.Dn

namespace Go.Dn
variable {X0 : Nat → Prop} {β β' β'' : Bt} {h h' h'' : H} {w w' w'' : World} {P : Program} {A : Ann}

/-- An operand that may be left out. -/
def OV (X0 : Nat → Prop) (β : Bt) (h : H) (w : World) : Option D → Option Value → Prop
  | none, v => v = none
  | some d, v => ∃ u, v = some u ∧ VW X0 β h w d u

theorem natOf_ok {d : D} {n : Nat} {v : Value} (hn : natOf d = some n) (hv : VW X0 β h w d v) : ∃ k, v = .int k (n : Int) := by
  cases d <;> simp only [natOf] at hn <;> (first | (cases hn; done) | skip)
  rename_i k m
  split at hn
  · simp only [Option.some.injEq] at hn
    subst hn
    simp only [VW, V] at hv
    subst hv
    exact ⟨k, by rw [Int.toNat_of_nonneg ‹_›]⟩
  · cases hn
theorem optNat_ok {o : Option D} {n : Option Nat} {v : Option Value} (hn : optNat o = some n) (hv : OV X0 β h w o v) : (n = none ∧ v = none) ∨ ∃ m k, n = some m ∧ v = some (.int k (m : Int)) := by
  cases o with
  | none =>
    simp only [optNat, Option.some.injEq] at hn
    subst hn
    exact .inl ⟨rfl, hv⟩
  | some d =>
    simp only [optNat, Option.map_eq_some_iff] at hn
    obtain ⟨m, hm, rfl⟩ := hn
    obtain ⟨u, rfl, hu⟩ := hv
    obtain ⟨k, rfl⟩ := natOf_ok hm hu
    exact .inr ⟨m, k, rfl, rfl⟩

theorem run_bound (k : IntKind) (m y : Nat) (c : BoundsCode) (hm : m ≤ y) : (Instr.sliceBound (.int k (m : Int)) y c).run P w = .ok m w := by
  have h1 : (0 : Int) ≤ m ∧ (m : Int) ≤ y := ⟨by omega, by omega⟩
  simp [Instr.sliceBound, asIntOf, h1]

theorem run_bounds (isS : Bool) (len cap : Nat) {lo hi mx : Option Nat} {vl vh vm : Option Value} (h1 : (lo = none ∧ vl = none) ∨ ∃ m k, lo = some m ∧ vl = some (.int k (m : Int)))
    (h2 : (hi = none ∧ vh = none) ∨ ∃ m k, hi = some m ∧ vh = some (.int k (m : Int))) (h3 : (mx = none ∧ vm = none) ∨ ∃ m k, mx = some m ∧ vm = some (.int k (m : Int)))
    (hmh : mx.isSome → hi.isSome) (hm : mx.getD cap ≤ cap) (hh : hi.getD len ≤ mx.getD cap) (hl : lo.getD 0 ≤ hi.getD len) :
    (Instr.sliceBounds isS len cap vl vh vm).run P w = .ok (lo.getD 0, hi.getD len, mx.getD cap) w := by
  rcases h1 with ⟨rfl, rfl⟩ | ⟨a, ka, rfl, rfl⟩ <;> rcases h2 with ⟨rfl, rfl⟩ | ⟨b, kb, rfl, rfl⟩ <;> rcases h3 with ⟨rfl, rfl⟩ | ⟨c, kc, rfl, rfl⟩ <;>
    simp only [Option.getD_none, Option.getD_some] at * <;>
    first
      | (simp at hmh; done)
      | (simp [Instr.sliceBounds, Sem.run_bind, run_bound, *])

theorem VE.head {cl : Addr → Option Value} {X : Nat → Prop} {sz esz : Nat} {xs : List (List D)} {a : Addr} {k : Nat} (hv : VE cl X sz xs a k) (hh : headOk esz xs = true) : xs = [] ∨ sz = esz := by
  cases xs with
  | nil => exact .inl rfl
  | cons x xs =>
    simp only [VE] at hv
    simp only [headOk, beq_iff_eq] at hh
    exact .inr (by omega)

theorem VE.sub {cl : Addr → Option Value} {X : Nat → Prop} {sz : Nat} {xs : List (List D)} {a : Addr} (hv : VE cl X sz xs a 0) (l n : Nat) : VE cl X sz ((xs.drop l).take n) (a.add (l * sz)) 0 :=
  VE.of_get fun i x hx => by
    rw [List.getElem?_take] at hx
    split at hx
    · rw [List.getElem?_drop] at hx
      have := hv.get hx
      refine ⟨this.1, VA.of_get fun j d hd => ?_⟩
      have h2 := this.2.get hd
      rw [add_add, add_block]
      rwa [show l * sz + (0 + i * sz + j) = 0 + (l + i) * sz + j from by rw [Nat.add_mul]; omega]
    · cases hx

theorem rs_add {id ver off len cap sz n l m c len' cap' : Nat} {clip clip' : Bool} {a : Addr} (hp : (rho w β h).r id ver off len cap sz clip a c) (hn : n = l * sz) (hm : l ≤ m) (hc : m ≤ c) :
    (rho w β h).r id ver (off + n) len' cap' sz clip' (a.add n) (m - l) := by
  refine ⟨hp.1, fun hcur => ?_⟩
  obtain ⟨e, cs, t, fr, h1, h2⟩ := hp.2 hcur
  refine ⟨by rw [e, add_plain, Nat.add_assoc], cs, t, fr, h1, ?_⟩
  subst hn
  have : l * sz + (m - l) * sz = m * sz := by rw [← Nat.add_mul]; congr 1; omega
  have : m * sz ≤ c * sz := Nat.mul_le_mul_right _ hc
  omega

theorem chunks_length (sz : Nat) : ∀ (n : Nat) (l : List D), (chunks sz n l).length = n
  | 0, _ => rfl
  | n + 1, l => by simp [chunks, chunks_length sz n]
theorem chunks_get (sz : Nat) : ∀ (n : Nat) (l : List D) (i : Nat) (x : List D), (chunks sz n l)[i]? = some x → i < n ∧ x = (l.drop (i * sz)).take sz
  | 0, _, _, _, hx => by simp [chunks] at hx
  | n + 1, l, 0, x, hx => by
    simp [chunks] at hx
    exact ⟨by omega, by simpa using hx.symm⟩
  | n + 1, l, i + 1, x, hx => by
    simp only [chunks, List.getElem?_cons_succ] at hx
    obtain ⟨h1, h2⟩ := chunks_get sz n (l.drop sz) i x hx
    exact ⟨by omega, by rw [h2, List.drop_drop]; congr 2; rw [Nat.add_mul]; omega⟩
theorem VE.chunks {cl : Addr → Option Value} {X : Nat → Prop} {sz n : Nat} {cs : List D} {a : Addr} (hv : VA cl X cs a 0) (hl : n * sz ≤ cs.length) : VE cl X sz (chunks sz n cs) a 0 :=
  VE.of_get fun i x hx => by
    obtain ⟨h1, rfl⟩ := chunks_get sz n cs i x hx
    have : (i + 1) * sz ≤ n * sz := Nat.mul_le_mul_right _ h1
    rw [Nat.add_mul] at this
    exact ⟨by simp; omega, hv.sub (i * sz) sz⟩

theorem str_extract (s : List UInt8) (l n : Nat) : (ByteArray.mk s.toArray).extract l n = ⟨((s.drop l).take (n - l)).toArray⟩ := by
  apply ByteArray.ext
  rw [ByteArray.data_extract]
  apply Array.ext'
  simp [Array.toList_extract, List.extract_eq_take_drop]

theorem slice_ok (hA : A.ty = tyOf P) (hT : TypesOk P) (r : Rel X0 β h w) {t : Nat} {d x : D} {lo hi mx : Option D} {v : Value} {vl vh vm : Option Value} (hl : sliceD A h t d lo hi mx = some x) (hv : VW X0 β h w d v)
    (hlo : OV X0 β h w lo vl) (hhi : OV X0 β h w hi vh) (hmx : OV X0 β h w mx vm) :
    ∃ u, (Instr.sliceAt t v vl vh vm).run P w = .ok u w ∧ VW X0 β h w x u ∧ (∀ m, rb m d = true → rb m x = true) := by
  unfold sliceD at hl
  cases h1 : optNat lo with
  | none => simp [h1] at hl
  | some nl =>
  cases h2 : optNat hi with
  | none => simp [h1, h2] at hl
  | some nh =>
  cases h3 : optNat mx with
  | none => simp [h1, h2, h3] at hl
  | some nm =>
  simp only [h1, h2, h3, Option.bind_eq_bind, Option.bind_some] at hl
  have b1 := optNat_ok h1 hlo
  have b2 := optNat_ok h2 hhi
  have b3 := optNat_ok h3 hmx
  cases hk : (A.ty t).kd <;> rw [hk] at hl <;> (first | (cases hl; done) | skip)
  case str =>
    have hu := str_kd hA hk
    cases d <;> simp only [] at hl <;> (first | (cases hl; done) | skip)
    case str s =>
      split at hl
      · rename_i hc
        obtain ⟨hm, hl1, hh1⟩ := hc
        simp only [Option.some.injEq] at hl
        subst hl
        simp only [VW, V] at hv
        subst hv
        have hnm : nm = none := by simpa using hm
        subst hnm
        have hvm : vm = none := by rcases b3 with ⟨_, h⟩ | ⟨_, _, h, _⟩ <;> simp_all
        subst hvm
        have hb := run_bounds (P := P) (w := w) false s.length s.length b1 b2 (.inl ⟨rfl, rfl⟩) (by simp) (by simp) (by simpa using hh1) hl1
        have hs : (ByteArray.mk s.toArray).size = s.length := by simp [ByteArray.size]
        refine ⟨.string ((ByteArray.mk s.toArray).extract (nl.getD 0) (nh.getD s.length)), ?_, ?_, fun m _ => rfl⟩
        · simp [Instr.sliceAt, run_underlying hu, Instr.slice, Sem.run_bind, hs, hb]
        · simp only [VW, V, str_extract]
      · cases hl
  case slice esz eb ez by_ =>
    obtain ⟨e, hu, rfl, _, _, _⟩ := slice_kd hA hk
    obtain ⟨de, hue⟩ := hT.elem t e (lt_slice hA hk) (.inl hu)
    have hrun : ∀ (a : Option Addr) (len c : Nat), nm.getD c ≤ c → nh.getD len ≤ nm.getD c → nl.getD 0 ≤ nh.getD len → (nm.isSome → nh.isSome) →
        (Instr.sliceAt t (.slice a len c) vl vh vm).run P w = .ok (.slice (if nm.getD c = nl.getD 0 then a else a.map (·.add (nl.getD 0 * sizeP P e))) (nh.getD len - nl.getD 0) (nm.getD c - nl.getD 0)) w := by
      intro a len c q1 q2 q3 q4
      have hb := run_bounds (P := P) (w := w) true len c b1 b2 b3 q4 q1 q2 q3
      simp [Instr.sliceAt, run_underlying hu, Instr.slice, Sem.run_bind, hb, run_sizeOfP hue]
    cases d <;> simp only [] at hl <;> (first | (cases hl; done) | skip)
    case nils =>
      split at hl
      · rename_i hc
        obtain ⟨c1, c2, c3, q4⟩ := hc
        simp only [Option.some.injEq] at hl
        subst hl
        simp only [VW, V] at hv
        subst hv
        have := hrun none 0 0 (by omega) (by omega) (by omega) q4
        refine ⟨.slice none 0 0, ?_, by simp only [VW, V], fun m _ => rfl⟩
        rw [this]
        simp [c1, c2, c3]
      · cases hl
    case vs xs clip =>
      split at hl
      · rename_i hc
        obtain ⟨c1, c2, c3, c4, c5⟩ := hc
        simp only [Option.some.injEq] at hl
        subst hl
        simp only [VW, V] at hv ⊢
        obtain ⟨a, c, sz, rfl, v1, v2, v3⟩ := hv
        have q1 : nm.getD c ≤ c := by cases nm <;> simp at c3 ⊢; omega
        have q2 : nh.getD xs.length ≤ nm.getD c := by cases nm <;> simp at c2 c3 ⊢ <;> omega
        refine ⟨_, hrun (some a) xs.length c q1 q2 c1 c4, ?_, fun m _ => rfl⟩
        refine ⟨if nm.getD c = nl.getD 0 then a else a.add (nl.getD 0 * sizeP P e), nm.getD c - nl.getD 0, sz, ?_, by simp; omega, ?_, ?_⟩
        · have : ((xs.drop (nl.getD 0)).take (nh.getD xs.length - nl.getD 0)).length = nh.getD xs.length - nl.getD 0 := by
            simp only [List.length_take, List.length_drop]
            have : nh.getD xs.length ≤ xs.length := by cases nm <;> simp at c2 c3 ⊢ <;> omega
            omega
          rw [this]
          by_cases hq : nm.getD c = nl.getD 0 <;> simp [hq]
        · intro hcl
          simp only [List.length_take, List.length_drop]
          cases nm with
          | none =>
            simp only [Option.getD_none, Bool.and_eq_true, beq_iff_eq] at hcl ⊢
            have := v2 hcl.1
            omega
          | some m =>
            simp only [Option.getD_some, beq_iff_eq] at hcl c3 ⊢
            omega
        · by_cases h0 : nl.getD 0 = 0
          · have := v3.sub (nl.getD 0) (nh.getD xs.length - nl.getD 0)
            rw [h0] at this ⊢
            simp only [Nat.zero_mul] at this ⊢
            by_cases hq : nm.getD c = 0
            · rw [if_pos hq]; simpa [Addr.add] using this
            · rw [if_neg hq]; exact this
          · by_cases he : nh.getD xs.length = nl.getD 0
            · rw [he, Nat.sub_self, List.take_zero]
              simp only [VE]
            · have hsz : sz = sizeP P e := by
                rcases v3.head (c5.resolve_left h0) with hx | hx
                · subst hx
                  simp at c1 c2 c3 he
                  exfalso
                  cases nm <;> simp at c2 c3 <;> omega
                · exact hx
              subst hsz
              rw [if_neg (by omega)]
              exact v3.sub _ _
      · cases hl
    case rs id ver off len cap sz clip =>
      split at hl
      · rename_i hc
        obtain ⟨rfl, c1, c2, c3, c4⟩ := hc
        simp only [VW, V] at hv
        obtain ⟨a, c, rfl, v0, v1, v2, v3⟩ := hv
        have q1 : nm.getD c ≤ c := by cases nm <;> simp at c3 ⊢; omega
        have q2 : nh.getD len ≤ nm.getD c := by cases nm <;> simp at c2 c3 ⊢ <;> omega
        have hr := hrun (some a) len c q1 q2 c1 c4
        refine ⟨_, hr, ?_, ?_⟩
        · split at hl
          · rename_i hz
            simp only [Option.some.injEq] at hl
            subst hl
            simp only [VW, V]
            refine ⟨if nm.getD c = nl.getD 0 then a else a.add (nl.getD 0 * sizeP P e), nm.getD c - nl.getD 0, 0, ?_, by simp, ?_, by simp only [VE]⟩
            · have : nh.getD len - nl.getD 0 = 0 := by omega
              rw [this]
              by_cases hq : nm.getD c = nl.getD 0 <;> simp [hq]
            · intro hcl
              simp only [beq_iff_eq] at hcl
              rw [hcl]
              simp
              omega
          · rename_i hz
            simp only [Option.some.injEq] at hl
            subst hl
            simp only [VW, V]
            refine ⟨a.add (nl.getD 0 * sizeP P e), nm.getD c - nl.getD 0, ?_, ?_, ?_, ?_, ?_⟩
            · by_cases h0 : nl.getD 0 = 0
              · rw [h0]
                by_cases hq : nm.getD c = 0 <;> simp [hq, Addr.add]
              · rw [if_neg (by omega)]
                simp
            · cases nm <;> simp at c2 c3 ⊢ <;> omega
            · cases nm <;> simp at c2 c3 ⊢ <;> omega
            · intro hcl
              cases nm with
              | none =>
                simp only [Option.getD_none, Bool.and_eq_true, beq_iff_eq] at hcl ⊢
                have := v2 hcl.1
                omega
              | some m =>
                simp only [Option.getD_some, beq_iff_eq] at hcl ⊢
                omega
            · exact rs_add v3 rfl (by omega) q1
        · intro m hm
          split at hl
          · simp only [Option.some.injEq] at hl
            subst hl
            rfl
          · simp only [Option.some.injEq] at hl
            subst hl
            simpa [rb] using hm
      · cases hl
  case arr n esz ag =>
    obtain ⟨e, hu, rfl, rfl⟩ := arr_kd hA hk
    obtain ⟨de, hue⟩ := hT.elem t e (lt_arr hA hk) (.inr ⟨n, hu⟩)
    have hrun : ∀ (a : Addr), nm.getD n ≤ n → nh.getD n ≤ nm.getD n → nl.getD 0 ≤ nh.getD n → (nm.isSome → nh.isSome) →
        (Instr.sliceAt t (.pointer (some a)) vl vh vm).run P w = .ok (.slice (some (if nm.getD n = nl.getD 0 then a else a.add (nl.getD 0 * sizeP P e))) (nh.getD n - nl.getD 0) (nm.getD n - nl.getD 0)) w := by
      intro a q1 q2 q3 q4
      have hb := run_bounds (P := P) (w := w) false n n b1 b2 b3 q4 q1 q2 q3
      simp [Instr.sliceAt, Instr.sureAddr, run_underlying hu, Sem.run_bind, hb, run_sizeOfP hue]
    cases d <;> simp only [] at hl <;> (first | (cases hl; done) | skip)
    case ptr id ver off =>
      cases hg : h.get id with
      | none => simp [hg] at hl
      | some k =>
      simp only [hg] at hl
      split at hl
      · rename_i hc
        obtain ⟨c1, c2, c3, c4, c5, c6⟩ := hc
        simp only [VW, V] at hv
        obtain ⟨a, rfl, hp⟩ := hv
        refine ⟨_, hrun a c3 c2 c1 c4, ?_, ?_⟩
        · split at hl
          · rename_i hz
            simp only [Option.some.injEq] at hl
            subst hl
            simp only [VW, V]
            refine ⟨_, _, 0, by rw [show nh.getD n - nl.getD 0 = 0 from by omega]; rfl, by simp, by simp, by simp only [VE]⟩
          · rename_i hz
            simp only [Option.some.injEq] at hl
            subst hl
            simp only [VW, V]
            refine ⟨a.add (nl.getD 0 * sizeP P e), nm.getD n - nl.getD 0, ?_, by omega, by omega, ?_, ?_⟩
            · by_cases h0 : nl.getD 0 = 0
              · rw [h0]
                by_cases hq : nm.getD n = 0 <;> simp [hq, Addr.add]
              · rw [if_neg (by omega)]
            · intro hcl
              simp only [beq_iff_eq] at hcl
              omega
            · refine ⟨hp.1, fun hcur => ?_⟩
              obtain ⟨cs, tt, fr, hcs, ok⟩ := r.blk id k hg
              refine ⟨by rw [hp.2 hcur, add_plain, Nat.add_assoc], cs, tt, fr, hcs, ?_⟩
              have := ok.len
              have h5 : nl.getD 0 * sizeP P e + (nm.getD n - nl.getD 0) * sizeP P e = nm.getD n * sizeP P e := by rw [← Nat.add_mul]; congr 1; omega
              have h6 : nm.getD n * sizeP P e ≤ n * sizeP P e := Nat.mul_le_mul_right _ c3
              omega
        · intro m hm
          split at hl
          · simp only [Option.some.injEq] at hl
            subst hl
            rfl
          · simp only [Option.some.injEq] at hl
            subst hl
            simpa [rb] using hm
      · cases hl
    case iptr cs =>
      split at hl
      · rename_i hc
        obtain ⟨c1, c2, c3, c4, c5⟩ := hc
        simp only [Option.some.injEq] at hl
        subst hl
        simp only [VW, V] at hv ⊢
        obtain ⟨a, rfl, hp⟩ := hv
        refine ⟨_, hrun a c3 c2 c1 c4, ?_, fun m _ => rfl⟩
        refine ⟨if nm.getD n = nl.getD 0 then a else a.add (nl.getD 0 * sizeP P e), nm.getD n - nl.getD 0, sizeP P e, by rw [chunks_length], by rw [chunks_length]; omega, ?_, ?_⟩
        · intro hcl
          simp only [beq_iff_eq] at hcl
          rw [chunks_length]
          omega
        · by_cases hq : nm.getD n = nl.getD 0
          · rw [show nh.getD n - nl.getD 0 = 0 from by omega]
            simp only [chunks, VE]
          · rw [if_neg hq]
            refine VE.chunks ?_ ?_
            · have := (hp.drop (nl.getD 0 * sizeP P e)).shift
              simpa using this
            · simp only [List.length_drop]
              rw [Nat.sub_mul]
              omega
      · cases hl
end Go.Dn

namespace Go.Dn
variable {X0 : Nat → Prop} {β β' β'' : Bt} {h h' h'' : H} {w w' w'' : World} {P : Program} {A : Ann}

theorem V.toCells {cl : Addr → Option Value} {X : Nat → Prop} {ρ : Rf} {d : D} {v : Value} (hk : d.okc = true) (hv : V cl X ρ d v) : VL cl X ρ d.cells v.cells.toList ∧ d.cells.all D.isCell = true := by
  cases d
  case agg cs =>
    simp only [V] at hv
    obtain ⟨x, rfl, h1, h2⟩ := hv
    exact ⟨h2, h1⟩
  case tup => simp [D.okc] at hk
  all_goals
    refine ⟨?_, by simp [D.cells, D.isCell]⟩
    have h1 := V.oneCell (by simp [D.isCell]) hv
    have h2 : v.cells = #[v] := by cases v <;> first | rfl | (simp [Value.oneCell'] at h1)
    rw [h2]
    exact VL.single hv

theorem ofS_ok {cl : Addr → Option Value} {X : Nat → Prop} {ρ : Rf} {v : Value} {d : D} (ho : ofS v = some d) : V cl X ρ d v ∧ rb 0 d = true ∧ d.isCell = true := by
  unfold ofS at ho
  split at ho <;> simp only [Option.some.injEq, reduceCtorEq] at ho <;> (subst ho; simp [V, rb, D.isCell])
theorem ofSL_ok {cl : Addr → Option Value} {X : Nat → Prop} {ρ : Rf} : ∀ {l : List Value} {ds : List D}, l.mapM ofS = some ds → VL cl X ρ ds l ∧ rbL 0 ds = true ∧ ds.all D.isCell = true
  | [], ds, ho => by simp at ho; subst ho; simp [VL, rbL]
  | v :: l, ds, ho => by
    simp only [List.mapM_cons, Option.bind_eq_bind, Option.pure_def, Option.bind_eq_some_iff] at ho
    obtain ⟨d, h1, ds', h2, h3⟩ := ho
    simp only [Option.some.injEq] at h3
    subst h3
    obtain ⟨a1, a2, a3⟩ := ofS_ok (cl := cl) (X := X) (ρ := ρ) h1
    obtain ⟨b1, b2, b3⟩ := ofSL_ok (cl := cl) (X := X) (ρ := ρ) h2
    exact ⟨VL.cons a1 b1, by simp [rbL, a2, b2], by simp [a3, b3]⟩
theorem ofV_ok {cl : Addr → Option Value} {X : Nat → Prop} {ρ : Rf} {v : Value} {d : D} (ho : ofV v = some d) : V cl X ρ d v ∧ rb 0 d = true := by
  unfold ofV at ho
  split at ho
  · rename_i cs
    simp only [Option.map_eq_some_iff] at ho
    obtain ⟨ds, h1, rfl⟩ := ho
    obtain ⟨b1, b2, b3⟩ := ofSL_ok (cl := cl) (X := X) (ρ := ρ) h1
    simp only [V, rb]
    exact ⟨⟨cs, rfl, b3, b1⟩, b2⟩
  · simp only [Option.some.injEq] at ho
    subst ho
    simp only [undefD, V, rb, rbL]
    exact ⟨⟨#[], rfl, by simp [VL]⟩, trivial⟩
  · have := ofS_ok (cl := cl) (X := X) (ρ := ρ) ho; exact ⟨this.1, this.2.1⟩

/-- The zero cells of a type. -/
theorem zero_ok {t : TypeId} {ez : List D} (hz : ez = zeroP P t) (hl : ez.length = sizeP P t) (hs : sizeP P t ≠ 0) (X0 : Nat → Prop) (β : Bt) (h : H) (w : World) :
    ∃ i zv, P.info? t = some i ∧ i.zero = some zv ∧ VLW X0 β h w ez zv.cells.toList ∧ rbL 0 ez = true ∧ ez.all D.isCell = true := by
  obtain ⟨d, i, hu, hi, hsz⟩ := sizeP_some hs
  unfold zeroP at hz
  rw [hi] at hz
  simp only [Option.bind_some] at hz
  cases hzv : i.zero with
  | none => simp [hzv] at hz; subst hz; simp at hl; omega
  | some zv =>
    simp only [hzv] at hz
    cases ho : ofV zv with
    | none => simp [ho] at hz; subst hz; simp at hl; omega
    | some dz =>
      simp only [ho] at hz
      split at hz
      · rename_i hk
        subst hz
        obtain ⟨v1, v2⟩ := ofV_ok (cl := w.cell?) (X := XX X0 β h) (ρ := rho w β h) ho
        obtain ⟨c1, c2⟩ := V.toCells hk v1
        exact ⟨i, zv, hi, hzv, c1, rb_cells.2 v2, c2⟩
      · subst hz; simp at hl; omega
theorem zero_len {t : TypeId} {zv : Value} {ez : List D} (hv : VLW X0 β h w ez zv.cells.toList) (hl : ez.length = sizeP P t) : zv.cells.size = sizeP P t := by
  have := hv.length
  simp at this
  omega
theorem VL.replicate {cl : Addr → Option Value} {X : Nat → Prop} {ρ : Rf} {ez : List D} {zs : List Value} (hv : VL cl X ρ ez zs) : ∀ n, VL cl X ρ (List.replicate n ez).flatten (List.replicate n zs).flatten
  | 0 => by simp [VL]
  | n + 1 => by simp only [List.replicate_succ, List.flatten_cons]; exact hv.append (VL.replicate hv n)
theorem rep_cells (zs : Array Value) (n : Nat) (hz : 0 < zs.size) : ((Array.range (n * zs.size)).map fun i => zs[i % zs.size]!).toList = (List.replicate n zs.toList).flatten := by
  have key : ∀ m, (List.range (m * zs.size)).map (fun i => zs[i % zs.size]!) = (List.replicate m zs.toList).flatten := by
    intro m
    induction m with
    | zero => simp
    | succ m ih =>
      rw [Nat.add_mul, Nat.one_mul, List.range_add, List.map_append, ih, List.replicate_succ', List.flatten_append]
      congr 1
      simp only [List.flatten_cons, List.flatten_nil, List.append_nil, List.map_map]
      apply List.ext_getElem?
      intro j
      simp only [List.getElem?_map]
      by_cases hj : j < zs.size
      · rw [List.getElem?_range hj]
        simp only [Option.map_some, Function.comp_apply]
        rw [Nat.add_comm, Nat.mul_comm, Nat.add_mul_mod_self_left, Nat.mod_eq_of_lt hj, getElem!_pos zs j hj]
        simp [hj]
      · rw [List.getElem?_eq_none (by simp; omega)]
        simp; omega
  rw [← key n]
  simp [Array.toList_range]
theorem rbL_flat {m : Nat} {ez : List D} (hz : rbL m ez = true) (n : Nat) : rbL m (List.replicate n ez).flatten = true :=
  rbL_iff.2 fun d hd => by
    obtain ⟨l, h1, h2⟩ := List.mem_flatten.1 hd
    rw [List.eq_of_mem_replicate h1] at h2
    exact rbL_iff.1 hz d h2
theorem all_flat {ez : List D} (hz : ez.all D.isCell = true) (n : Nat) : (List.replicate n ez).flatten.all D.isCell = true :=
  List.all_eq_true.2 fun d hd => by
    obtain ⟨l, h1, h2⟩ := List.mem_flatten.1 hd
    rw [List.eq_of_mem_replicate h1] at h2
    exact List.all_eq_true.1 hz d h2

/-! The elements of what is appended or copied. -/
structure Src (P : Program) (X0 : Nat → Prop) (β : Bt) (h : H) (w : World) (esz : Nat) (v : Value) (cs : List D) (n : Nat) (l : List Value) : Prop where
  len : ∀ w2 : World, (Builtin.lenOf v).run P w2 = .ok n w2
  first : ∀ m, m ≤ n → ∀ w2 : World, w2.heap = w.heap → (Builtin.firstCells esz m v).run P w2 = .ok (l.take (m * esz)).toArray w2
  val : VLW X0 β h w cs l
  flat : cs.all D.isCell = true
  rb : rbL h.length cs = true
  size : cs.length = n * esz
  kind : (∃ a c, v = .slice a n c) ∨ (∃ s, v = .string s)

theorem VE.flatten {cl : Addr → Option Value} {X : Nat → Prop} {sz : Nat} : ∀ {xs : List (List D)} {a : Addr} {k : Nat}, VE cl X sz xs a k → VA cl X xs.flatten a k ∧ xs.flatten.length = xs.length * sz
  | [], a, k, _ => by simp [VA]
  | x :: xs, a, k, hv => by
    simp only [VE] at hv
    obtain ⟨h1, h2, h3⟩ := hv
    obtain ⟨i1, i2⟩ := VE.flatten h3
    refine ⟨?_, by simp [h1, i2, Nat.add_mul]; omega⟩
    simp only [List.flatten_cons]
    refine VA.of_get fun i d hd => ?_
    rw [List.getElem?_append] at hd
    split at hd
    · exact h2.get hd
    · have := i1.get hd
      rwa [show k + sz + (i - x.length) = k + i from by omega] at this

theorem first_of_cellsat {a : Addr} {cs : List D} {l : List Value} {n esz : Nat} (hc : Cellsat X0 β h w a cs l) (hn : cs.length = n * esz) (c m : Nat) (hm : m ≤ n) (w2 : World) (hh : w2.heap = w.heap) :
    (Builtin.firstCells esz m (.slice (some a) n c)).run P w2 = .ok (l.take (m * esz)).toArray w2 := by
  have hcell : w2.cell? = w.cell? := by funext q; unfold World.cell?; rw [hh]
  have hl : l.length = n * esz := by rw [hc.val.length, hn]
  have hle : m * esz ≤ n * esz := Nat.mul_le_mul_right _ hm
  have := run_loadCells_list (P := P) w2 a (l.take (m * esz)) (fun j v hj => hcell ▸ hc.at_ j v (by
    rw [List.getElem?_take] at hj
    split at hj
    · exact hj
    · cases hj))
  rw [List.length_take, Nat.min_eq_left (by omega)] at this
  simpa [Builtin.firstCells] using this

theorem src_ok (r : Rel X0 β h w) {d : D} {v : Value} {esz n : Nat} {cs : List D} (hs : srcC h esz d = some cs) (hn : lenD d = some n) (hv : VW X0 β h w d v) : ∃ l, Src P X0 β h w esz v cs n l := by
  cases d <;> simp only [srcC] at hs <;> (first | (cases hs; done) | skip) <;> simp only [lenD, Option.some.injEq] at hn <;> subst hn
  case nils =>
    simp only [Option.some.injEq] at hs
    subst hs
    simp only [VW, V] at hv
    subst hv
    exact ⟨[], fun _ => by simp [Builtin.lenOf], fun m hm _ _ => by simp [Builtin.firstCells], VL.nil, rfl, rfl, by simp, .inl ⟨_, _, rfl⟩⟩
  case vs xs clip =>
    split at hs
    · rename_i hh
      simp only [Option.some.injEq] at hs
      subst hs
      simp only [VW, V] at hv
      obtain ⟨a, c, sz, rfl, v1, v2, v3⟩ := hv
      obtain ⟨f1, f2⟩ := v3.flatten
      have hsz : xs.flatten.length = xs.length * esz := by
        rcases v3.head hh with rfl | rfl
        · simp
        · exact f2
      obtain ⟨l, hc⟩ := Cellsat.ofVA f1
      simp only [Addr.add, if_true] at hc
      refine ⟨l, fun _ => by simp [Builtin.lenOf], fun m hm w2 hh => first_of_cellsat hc hsz c m hm w2 hh, hc.val, hc.flat, hc.rb, hsz, .inl ⟨_, _, rfl⟩⟩
    · cases hs
  case rs id ver off len cap sz clip =>
    split at hs
    · rename_i hz
      subst hz
      obtain ⟨k, hg, hk, hl, rfl⟩ := rdC_some hs
      simp only [VW, V] at hv
      obtain ⟨a, c, rfl, v0, v1, v2, v3⟩ := hv
      obtain ⟨l, hc⟩ := r.cellsat hg hl
      rw [← (v3.2 ⟨k, hg, hk⟩).1] at hc
      have hsz : ((k.cells.drop off).take (len * sz)).length = len * sz := by simp; omega
      refine ⟨l, fun _ => by simp [Builtin.lenOf], fun m hm w2 hh => first_of_cellsat hc hsz c m hm w2 hh, hc.val, hc.flat, hc.rb, hsz, .inl ⟨_, _, rfl⟩⟩
    · cases hs
  case str s =>
    split at hs
    · rename_i hz
      subst hz
      simp only [Option.some.injEq] at hs
      subst hs
      simp only [VW, V] at hv
      subst hv
      refine ⟨s.map fun c => .int .u8 c.toNat, fun _ => by simp [Builtin.lenOf, ByteArray.size], fun m hm _ _ => ?_, ?_, ?_, ?_, by simp, .inr ⟨_, rfl⟩⟩
      · simp only [Builtin.firstCells, Sem.run_pure, Result.ok.injEq, and_true]
        rw [str_extract]
        apply Array.ext'
        simp [List.map_take]
      · skip
        induction s with
        | nil => exact VL.nil
        | cons c s ih => exact VL.cons (by simp only [V]) ih
      · simp [D.isCell]
      · exact rbL_iff.2 fun d hd => by
          obtain ⟨c, _, rfl⟩ := List.mem_map.1 hd
          rfl
    · cases hs
end Go.Dn

namespace Go.Dn
variable {X0 : Nat → Prop} {β β' β'' : Bt} {h h' h'' : H} {w w' w'' : World} {P : Program} {A : Ann}

/-- Another count of draws. -/
theorem Rel.heap (r : Rel X0 β h w) {w2 : World} (hh : w2.heap = w.heap) : Rel X0 β h w2 := by
  obtain ⟨hp, tp, dr, os, ou⟩ := w
  obtain ⟨hp2, tp2, dr2, os2, ou2⟩ := w2
  simp only at hh
  subst hh
  exact ⟨fun id k hk => by
    obtain ⟨cs, t, fr, h1, ok⟩ := r.blk id k hk
    exact ⟨cs, t, fr, h1, ⟨ok.frz, ok.len, ok.val, ok.out, ok.rb, ok.flat⟩⟩, r.inj⟩
theorem Step.heap {base : Nat} (r : Rel X0 β h w) {w2 : World} (hh : w2.heap = w.heap) (h1 : w2.os = w.os) (h2 : w2.tape = w.tape) (h3 : w2.output = w.output) : Step X0 base β h w β h w2 :=
  ⟨r.heap hh, ⟨by rw [hh]; exact Nat.le_refl _, h1, h2, h3, fun _ _ _ => by rw [hh], fun _ _ _ => by rw [hh], Nat.le_refl _, fun id k' _ hk => ⟨k', hk, Nat.le_refl _, fun _ => ⟨rfl, fun _ hr => by obtain ⟨cs, t, fr, a, b⟩ := hr; exact ⟨cs, t, fr, by rw [hh]; exact a, b⟩⟩⟩, fun _ hl => .inr hl⟩, Keeps.refl _ _⟩
theorem VW.heap {w2 : World} (hh : w2.heap = w.heap) {d : D} {v : Value} (hv : VW X0 β h w d v) : VW X0 β h w2 d v := by
  obtain ⟨hp, tp, dr, os, ou⟩ := w
  obtain ⟨hp2, tp2, dr2, os2, ou2⟩ := w2
  simp only at hh
  subst hh
  exact hv
theorem VLW.heap {w2 : World} (hh : w2.heap = w.heap) {d : List D} {v : List Value} (hv : VLW X0 β h w d v) : VLW X0 β h w2 d v := by
  obtain ⟨hp, tp, dr, os, ou⟩ := w
  obtain ⟨hp2, tp2, dr2, os2, ou2⟩ := w2
  simp only at hh
  subst hh
  exact hv

/-- Where X0's blocks lie. -/
def XLow (X0 : Nat → Prop) (w : World) : Prop := ∀ b, X0 b → b < w.heap.size
theorem XLow.next (hx : XLow X0 w) (n : Nx X0 β h w β' h' w') : XLow X0 w' := fun b hb => Nat.lt_of_lt_of_le (hx b hb) n.size

/-- What an operation that yields a value has done. -/
def Did (P : Program) (X0 : Nat → Prop) (base : Nat) (β : Bt) (h : H) (w : World) (s : Sem Value) (d : D) (h' : H) : Prop :=
  ∃ v β' w', s.run P w = .ok v w' ∧ Step X0 base β h w β' h' w' ∧ VW X0 β' h' w' d v ∧ rb h'.length d = true

theorem Did.value {base : Nat} (r : Rel X0 β h w) {s : Sem Value} {d : D} {v : Value} (hr : s.run P w = .ok v w) (hv : VW X0 β h w d v) (hb : rb h.length d = true) : Did P X0 base β h w s d h :=
  ⟨v, β, w, hr, .refl r, hv, hb⟩

/-- A new row of memory that nobody will write. -/
theorem row_vs {b sz n c : Nat} {cs : List D} {l : Array Value} {extra : Array Value} (t : TypeId) {w2 : World} {fr : Nat × Nat} (hw : w2.heap = w.heap.push (.cells (l ++ extra) t fr)) (hbw : b = w.heap.size) (hv : VLW X0 β h w cs l.toList) (hx : XLow X0 w)
    (hlive : ∀ id k, h.get id = some k → (β id).1 < w.heap.size) (hfl : cs.all D.isCell = true) (hb : rbL 0 cs = true) (hlen : n * sz ≤ cs.length) (hc : n ≤ c) (clip : Bool) (hcl : clip = true → c = n) (nx : Nx X0 β h w β h w2) :
    VW X0 β h w2 (.vs (chunks sz n cs) clip) (.slice (some ⟨b, 0, none⟩) n c) := by
  simp only [VW, V]
  refine ⟨⟨b, 0, none⟩, c, sz, by rw [chunks_length], by rw [chunks_length]; exact hc, by rw [chunks_length]; exact hcl, VE.chunks (VA.of_get fun i d hd => ?_) hlen⟩
  obtain ⟨u, h1, h2⟩ := hv.get hd
  refine ⟨u, ?_, ?_, rbL_iff.1 hb d (List.mem_of_getElem? hd), List.all_eq_true.1 hfl d (List.mem_of_getElem? hd), ?_⟩
  · rw [add_plain]
    simp only [World.cell?, hw, hbw, Array.getElem?_push_size, Option.isSome_none, Bool.false_eq_true, if_false]
    have hi := (List.getElem?_eq_some_iff.1 h1).1
    simp only [Array.length_toList] at hi
    rw [Array.getElem?_append_left (by omega), ← Array.getElem?_toList]
    simpa using h1
  · simp only
    rintro (h0 | ⟨id, k, hk, e⟩)
    · have := hx _ h0
      omega
    · have := hlive id k hk
      omega
  · exact V.free (rbL_iff.1 hb d (List.mem_of_getElem? hd)) (VW.next nx (rb_mono (by omega) (rbL_iff.1 hb d (List.mem_of_getElem? hd))) h2)

theorem Rel.low (r : Rel X0 β h w) : ∀ id k, h.get id = some k → (β id).1 < w.heap.size := fun id k hk => by
  obtain ⟨c, t, fr, hc, _⟩ := r.blk id k hk
  exact (Array.getElem?_eq_some_iff.1 hc).1

/-- Memory that is new and nobody's. -/
theorem Step.junk {base : Nat} (r : Rel X0 β h w) (o : Obj) {w2 : World} (hw : w2.heap = w.heap.push o) (h1 : w2.os = w.os) (h2 : w2.tape = w.tape) (h3 : w2.output = w.output) : Step X0 base β h w β h w2 := by
  have nx : Nx X0 β h w β h w2 := by
    refine ⟨by simp [hw], h1, h2, h3, fun b hb _ => ?_, fun b hb _ => ?_, Nat.le_refl _, fun id k' hi hk => ⟨k', hk, Nat.le_refl _, fun _ => ⟨rfl, fun n hr => ?_⟩⟩, fun b hl => .inr hl⟩
    · simp [hw, Array.getElem?_push, Nat.ne_of_lt hb]
    · simp [hw, Array.getElem?_push, Nat.ne_of_lt hb]
    · obtain ⟨c, t', fr, hc, hn⟩ := hr
      have hlt : (β id).1 < w.heap.size := (Array.getElem?_eq_some_iff.1 hc).1
      exact ⟨c, t', fr, by simp [hw, Array.getElem?_push, Nat.ne_of_lt hlt, hc], hn⟩
  refine ⟨⟨fun id k hk => ?_, r.inj⟩, nx, Keeps.refl _ _⟩
  obtain ⟨c, t', fr, hc, ok⟩ := r.blk id k hk
  have hlt : (β id).1 < w.heap.size := (Array.getElem?_eq_some_iff.1 hc).1
  exact ⟨c, t', fr, by simp [hw, Array.getElem?_push, Nat.ne_of_lt hlt, hc], ⟨ok.frz, ok.len, VLW.next nx ok.rb ok.val, ok.out, ok.rb, ok.flat⟩⟩

/-- A new row, as the evaluator has it. -/
theorem newRow_ok {base : Nat} (r : Rel X0 β h w) (hx : XLow X0 w) {fz : Bool} {sz n c : Nat} {cs : List D} {d : D} {l extra : Array Value} (t : TypeId) {w2 : World} {fr : Nat × Nat} (hfr : fr.1 = fr.2 ∨ (l ++ extra).size ≤ fr.1) (hw : w2.heap = w.heap.push (.cells (l ++ extra) t fr)) (h1 : w2.os = w.os) (h2 : w2.tape = w.tape) (h3 : w2.output = w.output)
    (hn : newRow fz h sz n cs = some (d, h')) (hv : VLW X0 β h w cs l.toList) (hfl : cs.all D.isCell = true) (hb : rbL h.length cs = true) (hlen : cs.length = n * sz) (hc : n ≤ c) (hcs : c * sz ≤ l.size + extra.size) :
    ∃ β', Step X0 base β h w β' h' w2 ∧ VW X0 β' h' w2 d (.slice (some ⟨w.heap.size, 0, none⟩) n c) ∧ rb h'.length d = true := by
  unfold newRow at hn
  split at hn
  · split at hn
    · rename_i hb0
      simp only [Option.some.injEq, Prod.mk.injEq] at hn
      obtain ⟨rfl, rfl⟩ := hn
      have st := Step.junk (base := base) r _ hw h1 h2 h3
      exact ⟨β, st, row_vs t hw rfl hv hx r.low hfl hb0 (by omega) hc false (by simp) st.nx, rfl⟩
    · cases hn
  · simp only [Option.some.injEq, Prod.mk.injEq] at hn
    obtain ⟨rfl, rfl⟩ := hn
    have st := Step.alloc r base t hx hb hfl hv extra fr hfr
    have e2 : w2.heap = ({ w with heap := w.heap.push (.cells (l ++ extra) t fr) } : World).heap := hw
    have st2 := st.trans (Step.heap (base := base) st.rel e2 h1 h2 h3)
    refine ⟨_, st2, ?_, by simp [rb]⟩
    simp only [VW, V]
    refine ⟨_, c, rfl, Nat.le_refl _, hc, by simp, fun k hk => ?_, fun _ => ⟨by simp, l ++ extra, t, fr, by simp [hw], by simpa using hcs⟩⟩
    rw [get_append_new] at hk
    simp only [Option.some.injEq] at hk
    subst hk
    exact Nat.zero_le _

/-- What append does once it knows how many. -/
def appTail (elem : TypeId) (size : Nat) (base : Option Addr) (sLen sCap : Nat) (s x : Value) (zeros : Bool) (n : Nat) (appended : Sem (Array Value)) : Sem Value := do
  let need := sLen + n
  if need ≤ sCap then
    let new ← appended
    if let some a := base then storeCells (a.add (sLen * size)) new.toList
    pure (.slice base need sCap)
  else
    if (need : Int) > IntKind.i64.max ∧ (zeros ∨ (← typeInfo elem).bytes = 0) then runtimePanic (.error "growslice: len out of range")
    if Builtin.nextslicecap need sCap * (← typeInfo elem).bytes > 2 ^ 48 then (if zeros then runtimePanic (.error "growslice: len out of range") else do
      if !(← Builtin.mayShare size sLen n base x) then mark .noRoom
      unsupported (.resourceLimit "append: a slice or a string whose bytes no memory bears"))
    let newCap ← choose (.appendCap need sCap elem)
    askRoom (newCap * (← typeInfo elem).bytes)
    let old ← Builtin.firstCells size sLen s
    let new ← appended
    let rest := Builtin.zeroCells (← zeroValue elem).cells (newCap - need)
    pure (.slice (some (← Go.newRow elem (old ++ new ++ rest))) need newCap)
def appSrc (elem : TypeId) (size n : Nat) (zeros : Bool) (x : Value) : Sem (Array Value) :=
  if !zeros then Builtin.firstCells size n x
  else if n * size = 0 then pure #[]
  else do pure (Builtin.zeroCells (← zeroValue elem).cells n)

theorem append_eq (t xt ty : TypeId) (b : Option Addr) (sLen sCap : Nat) (x : Value) : Builtin.append_ #[t, xt] ty #[.slice b sLen sCap, x] = (do
    let .slice elem ← underlying t | stuck "append: slice type expected"
    let size ← sizeOf elem
    let zeros ← match (some xt : Option TypeId) with
      | some xType => do pure ((← underlying xType) matches .int _)
      | none => pure false
    let n ← if zeros then do
        let l := IntKind.i64.wrap (← asInt x)
        if l < 0 then runtimePanic (.error "makeslice: len out of range")
        if l * (← typeInfo elem).bytes > 2 ^ 48 then
          let made ← choose (.extern "append.ofMake.carriedOut" 2)
          runtimePanic (.error (if made == 1 then "makeslice: len out of range" else "growslice: len out of range"))
        pure l.toNat
      else Builtin.lenOf x
    appTail elem size b sLen sCap (.slice b sLen sCap) x zeros n (appSrc elem size n zeros x)) := by
  unfold Builtin.append_ appTail appSrc
  rfl

theorem run_append_false {t xt e : TypeId} {de dx : TypeDesc} (hu : P.underlying t = some (.slice e)) (hue : P.underlying e = some de) (hxt : P.underlying xt = some dx) (hz : (match dx with | .int _ => true | _ => false) = false) (ty : TypeId)
    (b : Option Addr) (sLen sCap m : Nat) (x : Value) (hn : (Builtin.lenOf x).run P w = .ok m w) :
    (Builtin.append_ #[t, xt] ty #[.slice b sLen sCap, x]).run P w = (appTail e (sizeP P e) b sLen sCap (.slice b sLen sCap) x false m (appSrc e (sizeP P e) m false x)).run P w := by
  rw [append_eq]
  cases dx <;> simp at hz <;> simp [Sem.run_bind, run_underlying hu, run_underlying hxt, run_sizeOfP hue, hn]
theorem run_append_true {t xt e : TypeId} {de : TypeDesc} {k k' : IntKind} (hu : P.underlying t = some (.slice e)) (hue : P.underlying e = some de) (hxt : P.underlying xt = some (.int k)) (ty : TypeId)
    (b : Option Addr) (sLen sCap m : Nat) (hm : m ≤ maxN) (hb : m * P.bytesOf e ≤ 2 ^ 48) :
    (Builtin.append_ #[t, xt] ty #[.slice b sLen sCap, .int k' (m : Int)]).run P w = (appTail e (sizeP P e) b sLen sCap (.slice b sLen sCap) (.int k' (m : Int)) true m (appSrc e (sizeP P e) m true (.int k' (m : Int)))).run P w := by
  obtain ⟨i, hi, hs, hby⟩ := info_of_underlying hue
  have hw : IntKind.i64.wrap (m : Int) = m := by
    simp [maxN] at hm
    simp [IntKind.wrap, IntKind.bits, IntKind.signed]
    omega
  have h1 : ¬ ((m : Int) < 0) := by omega
  have h2 : ¬ ((m : Int) * (i.bytes : Int) > 2 ^ 48) := by
    rw [hby] at hb
    have : ((m * i.bytes : Nat) : Int) ≤ ((2 ^ 48 : Nat) : Int) := Int.ofNat_le.2 hb
    rw [Int.natCast_mul] at this
    have e : ((2 ^ 48 : Nat) : Int) = 2 ^ 48 := by norm_cast
    omega
  have hti : ∀ w2 : World, (typeInfo e).run P w2 = .ok i w2 := fun w2 => by simp [typeInfo, hi]
  have hai : ∀ w2 : World, (asInt (.int k' (m : Int))).run P w2 = .ok (m : Int) w2 := fun w2 => by simp [asInt, asIntOf]
  rw [append_eq]
  simp only [Sem.run_bind, run_underlying hu, run_underlying hxt, run_sizeOfP hue, Result.andThen_ok, Sem.run_pure, if_true, hai, hw]
  rw [if_neg h1]
  simp only [Sem.run_bind, hti, Result.andThen_ok]
  rw [if_neg h2]
  simp only [Sem.run_bind, Sem.run_pure, Result.andThen_ok, Int.toNat_natCast]

/-- The row is grown: a new one. -/
theorem run_appTail_new {e : TypeId} {i : TypeInfo} {zv : Value} (hi : P.info? e = some i) (hz : i.zero = some zv) {b : Option Addr} {sLen sCap m : Nat} {x s : Value} {zs : Bool} {ap : Sem (Array Value)} {size : Nat} {old new : Array Value}
    (hg : sCap < sLen + m) (h1 : (sLen + m) * i.bytes ≤ maxN) (h2 : sLen + m ≤ maxN)
    (hold : ∀ w2 : World, w2.heap = w.heap → (Builtin.firstCells size sLen s).run P w2 = .ok old w2) (hnew : ∀ w2 : World, w2.heap = w.heap → ap.run P w2 = .ok new w2) :
    ∃ c w2, sLen + m ≤ c ∧ (appTail e size b sLen sCap s x zs m ap).run P w = .ok (.slice (some ⟨w.heap.size, 0, none⟩) (sLen + m) c) w2 ∧
      w2.heap = w.heap.push (.cells (old ++ new ++ Builtin.zeroCells zv.cells (c - (sLen + m))) e) ∧ w2.os = w.os ∧ w2.tape = w.tape ∧ w2.output = w.output := by
  have hfit : ¬ (Builtin.nextslicecap (sLen + m) sCap * i.bytes > 2 ^ 48) := by
    have := growslice_fits hg (show (sLen + m) * i.bytes ≤ 140737488355328 by simp [maxN] at h1; omega)
    omega
  have hmax : ¬ (((sLen + m : Nat) : Int) > IntKind.i64.max ∧ (zs = true ∨ i.bytes = 0)) := by
    simp [maxN] at h2
    simp [IntKind.max, IntKind.bits, IntKind.signed]
    omega
  let q := Question.appendCap (sLen + m) sCap e
  let c := q.cut (w.tape w.drawn q)
  let w1 : World := { w with drawn := w.drawn + 1 }
  have hc : sLen + m ≤ c := by
    show sLen + m ≤ Question.cut (.appendCap (sLen + m) sCap e) _
    simp only [Question.cut]
    omega
  have hch : (choose q).run P w = .ok c w1 := by
    rw [run_choose]
    simp [Question.forced, q, c, w1]
  have ho := hold w1 rfl
  have hn := hnew w1 rfl
  refine ⟨c, { w1 with heap := w1.heap.push (.cells (old ++ new ++ Builtin.zeroCells zv.cells (c - (sLen + m))) e) }, hc, ?_, rfl, rfl, rfl, rfl⟩
  unfold appTail
  have hti : ∀ w2 : World, (typeInfo e).run P w2 = .ok i w2 := fun w2 => by simp [typeInfo, hi]
  have hzv : ∀ w2 : World, (zeroValue e).run P w2 = .ok zv w2 := fun w2 => by simp [zeroValue, typeInfo, hi, hz]
  simp only [Nat.not_le.2 hg, if_false, Sem.run_bind, hti, Result.andThen_ok]
  rw [if_neg hmax]
  simp only [Sem.run_bind, Sem.run_pure, Result.andThen_ok, hti]
  rw [if_neg hfit]
  simp only [Sem.run_bind, Sem.run_pure, Result.andThen_ok]
  rw [show (choose (Question.appendCap (sLen + m) sCap e)).run P w = .ok c w1 from hch]
  simp only [Result.andThen_ok, run_askRoom, Sem.run_bind, hti, ho, hn, hzv, Sem.run_pure]
  rfl
/-- There is room: the cells are stored. -/
theorem run_appTail_room {e : TypeId} {a : Addr} {sLen sCap m : Nat} {x s : Value} {zs : Bool} {ap : Sem (Array Value)} {size : Nat} {new : Array Value} (hg : sLen + m ≤ sCap) (hnew : ap.run P w = .ok new w) {w2 : World}
    (hst : (storeCells (a.add (sLen * size)) new.toList).run P w = .ok () w2) :
    (appTail e size (some a) sLen sCap s x zs m ap).run P w = .ok (.slice (some a) (sLen + m) sCap) w2 := by
  unfold appTail
  simp [hg, Sem.run_bind, hnew, hst]
end Go.Dn

namespace Go.Dn
variable {X0 : Nat → Prop} {β β' β'' : Bt} {h h' h'' : H} {w w' w'' : World} {P : Program} {A : Ann}

theorem zeroCells_list (zv : Array Value) (n : Nat) : (Builtin.zeroCells zv n).size = n * zv.size := by simp [Builtin.zeroCells]

theorem run_appTail_none {e : TypeId} {sCap : Nat} {x s : Value} {zs : Bool} {ap : Sem (Array Value)} {size : Nat} {new : Array Value} (hnew : ap.run P w = .ok new w) :
    (appTail e size none 0 sCap s x zs 0 ap).run P w = .ok (.slice none 0 sCap) w := by
  unfold appTail
  simp [Sem.run_bind, hnew]

theorem wrC_some {id ver off : Nat} {cs : List D} (hw : wrC h id ver off cs = some h') : ∃ k, h.get id = some k ∧ k.ver = ver ∧ off + cs.length ≤ k.cells.length ∧ h' = h.set id (some { k with cells := splice k.cells off cs }) := by
  unfold wrC at hw
  split at hw
  · rename_i k hk
    split at hw
    · rename_i hc
      exact ⟨k, hk, hc.1, hc.2, by simpa using hw.symm⟩
    · cases hw
  · cases hw

theorem appendC_ok (hA : A.ty = tyOf P) (hT : TypesOk P) (r : Rel X0 β h w) (hx : XLow X0 w) {fz : Bool} {base m : Nat} {t e : TypeId} {s d : D} {src : List D} {vs vx : Value} {zs : Bool} {l : List Value} {run : Sem Value}
    (hu : P.underlying t = some (.slice e)) (hl : appendC A fz base h t s src m = some (d, h')) (hv : VW X0 β h w s vs) (hsb : rb h.length s = true)
    (hlen : src.length = m * sizeP P e) (hval : VLW X0 β h w src l) (hfl : src.all D.isCell = true) (hrb : rbL h.length src = true)
    (hrun : ∀ a n c, vs = .slice a n c → run.run P w = (appTail e (sizeP P e) a n c vs vx zs m (appSrc e (sizeP P e) m zs vx)).run P w)
    (happ : ∀ w2 : World, w2.heap = w.heap → (appSrc e (sizeP P e) m zs vx).run P w2 = .ok l.toArray w2) :
    Did P X0 base β h w run d h' := by
  unfold appendC at hl
  cases hk : (A.ty t).kd <;> rw [hk] at hl <;> (first | (cases hl; done) | skip)
  rename_i esz eb ez by_
  obtain ⟨e', hu', rfl, rfl, hez, _⟩ := slice_kd hA hk
  rw [hu] at hu'
  simp only [Option.some.injEq, TypeDesc.slice.injEq] at hu'
  subst hu'
  cases hn : lenD s with
  | none => simp [hn] at hl
  | some n =>
  simp only [hn] at hl
  split at hl
  · cases hl
  rename_i hz0
  simp only [not_or, Nat.not_lt, Decidable.not_not] at hz0
  obtain ⟨hz0, hzl, hmax1, hmax2⟩ := hz0
  obtain ⟨i, zv, hi, hzv, zval, zrb, zfl⟩ := zero_ok hez hzl hz0 X0 β h w
  have hby : P.bytesOf e = i.bytes := by simp [Program.bytesOf, hi]
  rw [hby] at hmax1
  have hll : l.length = m * sizeP P e := by rw [hval.length, hlen]
  have happ0 := happ w rfl
  -- a new row
  have grow : ∀ (a : Option Addr) (c : Nat) (oldc : List D) (oldl : List Value) (d : D) (h' : H), vs = .slice a n c → c < n + m → (∀ w2 : World, w2.heap = w.heap → (Builtin.firstCells (sizeP P e) n vs).run P w2 = .ok oldl.toArray w2) →
      VLW X0 β h w oldc oldl → oldc.all D.isCell = true → rbL h.length oldc = true → oldc.length = n * sizeP P e → newRow fz h (sizeP P e) (n + m) (oldc ++ src) = some (d, h') → Did P X0 base β h w run d h' := by
    intro a c oldc oldl d h' hvs hc hold ov ofl orb olen hnr
    obtain ⟨c', w2, hc', hr2, hh, e1, e2, e3⟩ := run_appTail_new (b := a) (x := vx) (s := vs) (zs := zs) hi hzv hc hmax1 hmax2 hold happ
    have hnn : (oldc ++ src).length = (n + m) * sizeP P e := by simp [olen, hlen, Nat.add_mul]
    have hol : oldl.length = n * sizeP P e := by rw [ov.length, olen]
    have hzz := zero_len (P := P) (t := e) zval hzl
    obtain ⟨β', st, hvv, hbb⟩ := newRow_ok (base := base) (l := oldl.toArray ++ l.toArray) (extra := Builtin.zeroCells zv.cells (c' - (n + m))) r hx e (.inl rfl) hh e1 e2 e3 hnr (by simpa using ov.append hval)
      (by simp only [List.all_append, ofl, hfl, Bool.and_self]) (rbL_append.2 ⟨orb, hrb⟩) hnn hc' (by
        simp only [Array.size_append, List.size_toArray, hol, hll, zeroCells_list, hzz]
        rw [← Nat.add_mul, ← Nat.add_mul]
        exact Nat.mul_le_mul_right _ (by omega))
    exact ⟨_, β', w2, (hrun a n c hvs).trans hr2, st, hvv, hbb⟩
  -- nothing is appended
  have same : ∀ (a : Option Addr) (c : Nat), vs = .slice a n c → m = 0 → n ≤ c → (a = none → n = 0) → run.run P w = .ok vs w := by
    intro a c hvs hm hc ha
    rw [hrun a n c hvs]
    subst hm
    have hl0 : l = [] := List.eq_nil_of_length_eq_zero (by rw [hll]; simp)
    subst hl0
    cases a with
    | none =>
      obtain rfl := ha rfl
      rw [run_appTail_none happ0, hvs]
    | some a =>
      rw [run_appTail_room (by omega) happ0 (w2 := w) (by simp [storeCells]), hvs]
      rfl
  cases s <;> simp only [] at hl <;> (first | (cases hl; done) | skip)
  case nils =>
    simp only [lenD, Option.some.injEq] at hn
    subst hn
    simp only [VW, V] at hv
    split at hl
    · rename_i hm
      simp only [Option.some.injEq, Prod.mk.injEq] at hl
      obtain ⟨rfl, rfl⟩ := hl
      exact Did.value r (same none 0 hv hm (by omega) (fun _ => rfl)) (by simp only [VW, V]; exact hv) rfl
    · rename_i hm
      refine grow none 0 [] [] d h' hv (by omega) (fun w2 _ => by rw [hv]; simp [Builtin.firstCells]) VL.nil rfl rfl (by simp) (by simpa using hl)
  case vs xs clip =>
    have hn' := hn
    simp only [lenD, Option.some.injEq] at hn
    have hv' := hv
    simp only [VW, V] at hv
    obtain ⟨a, c, sz, hvs, v1, v2, v3⟩ := hv
    rw [hn] at hvs v1
    split at hl
    · rename_i hm
      simp only [Option.some.injEq, Prod.mk.injEq] at hl
      obtain ⟨rfl, rfl⟩ := hl
      exact Did.value r (same (some a) c hvs hm v1 (fun e => by cases e)) hv' hsb
    · rename_i hm
      split at hl
      · rename_i hcl
        cases hs : srcC h (sizeP P e) (.vs xs clip) with
        | none => simp [hs] at hl
        | some oc =>
          simp only [hs] at hl
          obtain ⟨ol, so⟩ := src_ok (P := P) r hs hn' hv'
          have hc := v2 hcl
          rw [hn] at hc
          have hol : ol.length = n * sizeP P e := by rw [so.val.length, so.size]
          refine grow (some a) c oc ol d h' hvs (by omega) (fun w2 hh => ?_) so.val so.flat so.rb so.size hl
          have f1 := so.first n (Nat.le_refl _) w2 hh
          rw [List.take_of_length_le (by omega)] at f1
          rw [hvs] at f1 ⊢
          exact f1
      · cases hl
  case rs id ver off len cap sz clip =>
    have hn' := hn
    simp only [lenD, Option.some.injEq] at hn
    have hv' := hv
    simp only [VW, V] at hv
    obtain ⟨a, c, hvs, v0, v1, v2, v3⟩ := hv
    subst hn
    split at hl
    · rename_i hm
      simp only [Option.some.injEq, Prod.mk.injEq] at hl
      obtain ⟨rfl, rfl⟩ := hl
      exact Did.value r (same (some a) c hvs hm (by omega) (fun e => by cases e)) hv' hsb
    rename_i hm
    split at hl
    · cases hl
    rename_i hsz
    simp only [ne_eq, Decidable.not_not] at hsz
    subst hsz
    split at hl
    · -- in its place
      rename_i hroom
      split at hl
      · rename_i hk0
        cases hw : wrC h id ver (off + len * sizeP P e) src with
        | none => simp [hw] at hl
        | some hh =>
          simp only [hw, Option.some.injEq, Prod.mk.injEq] at hl
          obtain ⟨rfl, rfl⟩ := hl
          obtain ⟨k, hg, hkv, hkl, rfl⟩ := wrC_some hw
          obtain ⟨ea, hr⟩ := v3.2 ⟨k, hg, hkv⟩
          obtain ⟨w2, hst, st⟩ := Step.write P r base hg hkl hrb hfl hk0 hval
          refine ⟨_, β, w2, (hrun (some a) len c hvs).trans (run_appTail_room (by omega) happ0 ?_), st, ?_, by simpa [rb] using hsb⟩
          · rw [ea, add_plain, Nat.add_assoc]
            simpa using hst
          · simp only [VW, V]
            refine ⟨a, c, rfl, hroom, v1, by simp, ?_⟩
            have := st.nx.rr id ver off len cap (sizeP P e) clip a c (get_lt hg) v3
            exact ⟨this.1, fun hcur => this.2 hcur⟩
      · cases hl
    · rename_i hroom
      split at hl
      · -- its capacity is its length: a copy
        rename_i hcl
        cases hs : srcC h (sizeP P e) (.rs id ver off len cap (sizeP P e) clip) with
        | none => simp [hs] at hl
        | some oc =>
          simp only [hs] at hl
          obtain ⟨ol, so⟩ := src_ok (P := P) r hs hn' hv'
          have hc := v2 hcl
          have hol : ol.length = len * sizeP P e := by rw [so.val.length, so.size]
          refine grow (some a) c oc ol d h' hvs (by omega) (fun w2 hh => ?_) so.val so.flat so.rb so.size hl
          have f1 := so.first len (Nat.le_refl _) w2 hh
          rw [List.take_of_length_le (by omega)] at f1
          rw [hvs] at f1 ⊢
          exact f1
      · -- in its place, or a new row: whatever the capacity is
        cases hg : h.get id with
        | none => simp [hg] at hl
        | some k =>
        simp only [hg] at hl
        split at hl
        · rename_i hc
          obtain ⟨hkv, hfr, hk0, hfz⟩ := hc
          simp only [Option.some.injEq, Prod.mk.injEq] at hl
          obtain ⟨rfl, rfl⟩ := hl
          obtain ⟨ea, hr⟩ := v3.2 ⟨k, hg, hkv⟩
          obtain ⟨cur, tt, fr, hcur, ok⟩ := r.blk id k hg
          have hnew : (k.cells.drop off ++ src).length = (len + m) * sizeP P e := by
            simp only [List.length_append, List.length_drop, hlen, Nat.add_mul]
            omega
          have hnrb : rbL h.length (k.cells.drop off ++ src) = true := rbL_append.2 ⟨rbL_sub ok.rb fun d hd => List.mem_of_mem_drop hd, hrb⟩
          have hnfl : (k.cells.drop off ++ src).all D.isCell = true := by
            rw [List.all_append, hfl, Bool.and_true]
            exact List.all_eq_true.2 fun d hd => List.all_eq_true.1 ok.flat d (List.mem_of_mem_drop hd)
          have hnk : base ≤ id ∨ ∀ d ∈ k.cells.drop off ++ src, d ∈ k.cells ∨ rb (id + 1) d = true :=
            hk0.imp (fun h => h) fun h1 d hd => (List.mem_append.1 hd).imp (fun h => List.mem_of_mem_drop h) (rbL_iff.1 h1 d)
          have hbnd := ok.len
          by_cases hcap : len + m ≤ c
          · -- in its place
            obtain ⟨cs', t', fr', hcs', hsz'⟩ := hr
            rw [hcur] at hcs'
            simp only [Option.some.injEq, Obj.cells.injEq] at hcs'
            obtain ⟨rfl, rfl, rfl⟩ := hcs'
            have hcm : len * sizeP P e + m * sizeP P e ≤ c * sizeP P e := by rw [← Nat.add_mul]; exact Nat.mul_le_mul_right _ hcap
            have hst := run_storeCells_fr P (β id).1 ((β id).2 + off + len * sizeP P e) tt fr l 0 cur w hcur ok.frz (by omega) (VL.oneCell hfl hval)
            simp only [Nat.add_zero] at hst
            refine ⟨_, (fun i => if i = id then ((β id).1, (β id).2 + off) else β i), _, (hrun (some a) len c hvs).trans (run_appTail_room hcap happ0 (by rw [ea, add_plain]; exact hst)), ?_, ?_, by simpa [rb] using hsb⟩
            · refine Step.upd (k' := ⟨ver + 1, k.cells.drop off ++ src⟩) r base hg hcur (by simp; omega) (by simp; omega) (fun e => by simp at e; omega) (by simp only [hnew, Nat.add_mul]; omega) hnrb hnfl hnk ?_
              have hA : (((cur.toList.take ((β id).2 + off + len * sizeP P e) ++ l ++ cur.toList.drop ((β id).2 + off + len * sizeP P e + l.length)).toArray.toList.drop ((β id).2 + off)).take (k.cells.drop off ++ src).length) =
                  (((cur.toList.drop (β id).2).take k.cells.length).drop off) ++ l := by
                rw [hnew, Nat.add_mul]
                apply List.ext_getElem?
                intro j
                have hcl : cur.toList.length = cur.size := by simp
                simp only [List.getElem?_take, List.getElem?_drop, List.getElem?_append, List.length_take, List.length_append, List.length_drop]
                repeat' split
                all_goals (first | rfl | (exfalso; omega) | (congr 1; omega) | (symm; apply List.getElem?_eq_none; omega) | (apply List.getElem?_eq_none; omega))
              rw [hA]
              exact (ok.val.drop off).append hval
            · simp only [VW, V]
              refine ⟨a, c, rfl, Nat.le_refl _, by omega, by simp, fun k2 hk2 => ?_, fun _ => ⟨by simp [ea], ?_⟩⟩
              · rw [get_set_self hg] at hk2
                simp only [Option.some.injEq] at hk2
                subst hk2
                exact Nat.le_refl _
              · refine ⟨_, tt, fr, by simpa using setRow_heap w _ cur _ tt fr hcur, ?_⟩
                simp
                omega
          · -- a new row
            have hdl : (((cur.toList.drop (β id).2).take k.cells.length).drop off).length = len * sizeP P e := by
              simp
              omega
            have hold : ∀ w2 : World, w2.heap = w.heap → (Builtin.firstCells (sizeP P e) len vs).run P w2 = .ok ((((cur.toList.drop (β id).2).take k.cells.length).drop off)).toArray w2 := by
              intro w2 hh
              obtain ⟨l2, hc2⟩ := r.cellsat hg (off := off) (n := len * sizeP P e) (by omega)
              have := first_of_cellsat (P := P) hc2 (n := len) (esz := sizeP P e) (by simp; omega) c len (Nat.le_refl _) w2 hh
              rw [hvs, ea]
              rw [this]
              congr 2
              have hl2 : l2.length = len * sizeP P e := by rw [hc2.val.length]; simp; omega
              rw [List.take_of_length_le (by omega)]
              apply List.ext_getElem?
              intro j
              by_cases hj : j < len * sizeP P e
              · rw [List.getElem?_eq_getElem (by omega)]
                have h1 := hc2.at_ j _ (List.getElem?_eq_getElem (by omega))
                rw [add_plain] at h1
                simp only [World.cell?, hcur, Option.isSome_none, Bool.false_eq_true, if_false] at h1
                rw [← h1, List.getElem?_drop, List.getElem?_take, if_pos (by omega), List.getElem?_drop, ← Array.getElem?_toList]
                congr 1
                omega
              · rw [List.getElem?_eq_none (by omega), List.getElem?_eq_none (by omega)]
            obtain ⟨c', w2, hc', hr2, hh, e1, e2, e3⟩ := run_appTail_new (b := some a) (x := vx) (s := vs) (zs := zs) hi hzv (Nat.lt_of_not_le hcap) hmax1 hmax2 hold happ
            have st := Step.move (k' := ⟨ver + 1, k.cells.drop off ++ src⟩) (l := ((((cur.toList.drop (β id).2).take k.cells.length).drop off)).toArray ++ l.toArray) (extra := Builtin.zeroCells zv.cells (c' - (len + m))) r base hx e hg (by simp; omega) hnrb hnfl hnk
              (by simpa using (ok.val.drop off).append hval)
            have eh : w2.heap = ({ w with heap := w.heap.push (.cells (((((cur.toList.drop (β id).2).take k.cells.length).drop off)).toArray ++ l.toArray ++ Builtin.zeroCells zv.cells (c' - (len + m))) e) } : World).heap := hh
            have st2 := st.trans (Step.heap (base := base) st.rel eh e1 e2 e3)
            refine ⟨_, _, w2, (hrun (some a) len c hvs).trans hr2, st2, ?_, by simpa [rb] using hsb⟩
            simp only [VW, V]
            refine ⟨_, c', rfl, Nat.le_refl _, hc', by simp, fun k2 hk2 => ?_, fun _ => ⟨by simp, _, e, (0, 0), by simp only [if_true]; rw [hh, Array.getElem?_push_size], ?_⟩⟩
            · rw [get_set_self hg] at hk2
              simp only [Option.some.injEq] at hk2
              subst hk2
              exact Nat.le_refl _
            · have hzz := zero_len (P := P) (t := e) zval hzl
              simp only [if_true, Array.size_append, List.size_toArray, hdl, hll, zeroCells_list, hzz, Nat.zero_add]
              rw [← Nat.add_mul, ← Nat.add_mul]
              exact Nat.mul_le_mul_right _ (by omega)
        · cases hl
end Go.Dn

