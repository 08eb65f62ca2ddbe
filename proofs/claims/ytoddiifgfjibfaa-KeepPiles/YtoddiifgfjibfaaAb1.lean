/-
  Resolved operations: what an operation makes of abstract values, those that leave the boxes alone.
-/
import Derived.Test.YtoddiifgfjibfaaAb0
import Derived.Still
namespace Go.Ab
open Go.RowKit

inductive Opd where
  | t (n : Nat)
  | c (x : AV)

inductive Leaf where
  | int | bool | str
  deriving DecidableEq, Repr

inductive AOp where
  | mov (x : Opd)
  | pick (c a b : Opd)
  | build (zs : List AV) (parts : List (Nat × Nat × Opd))
  | load (n : Option Nat) (x : Opd)
  | bin (op : BinOp) (x y : Opd)
  | eqs (neq : Bool) (ls : List (Nat × Leaf)) (x y : Opd)
  | eqnil (neq : Bool) (x : Opd)
  | eqb (neq : Bool) (x y : Opd)
  | un (op : UnOp) (x : Opd)
  | conv (k : IntKind) (x : Opd)
  | slc (z : Nat) (x : Opd) (lo hi mx : Option Opd)
  | slstr (x : Opd) (lo hi : Option Opd)
  | fad (off : Nat) (x : Opd)
  | fld (off : Nat) (n : Option Nat) (x : Opd)
  | iad (z : Nat) (x i : Opd)
  | iaa (z len : Nat) (x i : Opd)
  | ixs (x i : Opd)
  | ixa (z len : Nat) (n : Option Nat) (x i : Opd)
  | len (x : Opd)
  | lens (x : Opd)
  | lenc (n : Nat)
  | mm (mx : Bool) (xs : List Opd)
  | ext (x : Opd) (ix : Nat)
  | nilc (x : Opd)
  | alloc (zs : List AV)
  | bsl (z : Nat) (zs : List AV) (len : Nat) (parts : List (Nat × Opd))
  | store (n : Nat) (x v : Opd)
  | mks (z : Nat) (zs : List AV) (len cap : Opd)
  | app (z : Nat) (x y : Opd)
  | cpy (z : Nat) (x y : Opd)
  | bstr (x : Opd)
  | call (f : Nat) (args : List Opd)

structure AO where
  dst : Option Nat
  guard : Option (Nat × Bool)
  op : AOp

def ev (e : Nat → AV) : Opd → AV
  | .t n => e n
  | .c x => x

/-- The cells that a value has, each of one cell. -/
def cellsOf : AV → Option (List AV)
  | .agg cs => some cs
  | .raw v => if v.oneCell' then some [.raw v] else none
  | .tup _ | .dead => none
  | x => some [x]

def partL (n : Option Nat) (cs : List AV) (o : Nat) : Option AV :=
  match n with
  | none => cs[o]?
  | some k => if o + k ≤ cs.length then some (.agg ((cs.drop o).take k)) else none

def fillL : List AV → List (Nat × Nat × AV) → Option (List AV)
  | cs, [] => some cs
  | cs, (off, size, x) :: rest =>
    match cellsOf x with
    | none => none
    | some vs => if vs.length = size ∧ off + size ≤ cs.length then fillL (cs.take off ++ (vs ++ cs.drop (off + size))) rest else none

/-- The box that a reference speaks of. -/
def boxAt (h : Heap) (id : BId) (g z : Nat) : Option Box :=
  match h.lookup id with
  | some bx => if bx.gen = g ∧ bx.z = z then some bx else none
  | none => none

def binI (op : BinOp) (k : IntKind) (a b : Int) : Option AV :=
  match op with
  | .add => some (.i k (k.wrap (a + b)))
  | .sub => some (.i k (k.wrap (a - b)))
  | .mul => some (.i k (k.wrap (a * b)))
  | .quo => if b = 0 then none else some (.i k (k.wrap (a.tdiv b)))
  | .rem => if b = 0 then none else some (.i k (a.tmod b))
  | .and => some (.i k (k.wrap (BitVec.ofInt k.bits a &&& BitVec.ofInt k.bits b).toNat))
  | .or => some (.i k (k.wrap (BitVec.ofInt k.bits a ||| BitVec.ofInt k.bits b).toNat))
  | .xor => some (.i k (k.wrap (BitVec.ofInt k.bits a ^^^ BitVec.ofInt k.bits b).toNat))
  | .andNot => some (.i k (k.wrap (BitVec.ofInt k.bits a &&& ~~~ BitVec.ofInt k.bits b).toNat))
  | .eql => some (.b (a == b))
  | .neq => some (.b (a != b))
  | .lss => some (.b (a < b))
  | .leq => some (.b (a ≤ b))
  | .gtr => some (.b (a > b))
  | .geq => some (.b (a ≥ b))
  | _ => none

def binS (op : BinOp) (a b : List UInt8) : Option AV :=
  match op with
  | .add => if a.length + b.length ≤ 9223372036854775807 then some (.s (a ++ b)) else none
  | .eql => some (.b (a == b))
  | .neq => some (.b (!(a == b)))
  | .lss => some (.b (Op.bytesLess a b))
  | .leq => some (.b (Op.bytesLess a b || a == b))
  | .gtr => some (.b (!(Op.bytesLess a b || a == b)))
  | .geq => some (.b (!Op.bytesLess a b))
  | _ => none

def binV (op : BinOp) (x y : AV) : Option AV :=
  match op, x, y with
  | .shl, .i k a, .i _ b => if b < 0 then none else some (.i k (k.wrap (a * 2 ^ (min b.toNat k.bits))))
  | .shr, .i k a, .i _ b => if b < 0 then none else some (.i k (a.fdiv (2 ^ (min b.toNat k.bits))))
  | op, .i k a, .i k' b => if k = k' then binI op k a b else none
  | op, .s a, .s b => binS op a b
  | _, _, _ => none

def leafEq : Leaf → AV → AV → Option Bool
  | .int, .i k a, .i k' b => if k = k' then some (a == b) else none
  | .bool, .b a, .b b => some (a == b)
  | .str, .s a, .s b => some (a == b)
  | _, _, _ => none

def eqL : List (Nat × Leaf) → List AV → List AV → Option Bool
  | [], _, _ => some true
  | (o, l) :: rest, xs, ys =>
    match xs[o]?, ys[o]? with
    | some x, some y => (leafEq l x y).bind fun t => (eqL rest xs ys).map fun u => t && u
    | _, _ => none

def mm2 (mx : Bool) (x y : AV) : Option AV :=
  match x, y with
  | .i k a, .i k' b => if k = k' then some (.i k (if mx then (if b > a then b else a) else (if b < a then b else a))) else none
  | _, _ => none

def mmL (mx : Bool) : AV → List AV → Option AV
  | x, [] => some x
  | x, y :: r => (mm2 mx x y).bind fun z => mmL mx z r

def bnd (x : AV) (y : Int) : Option Nat :=
  match x with
  | .i _ n => if 0 ≤ n ∧ n ≤ y then some n.toNat else none
  | _ => none

def pickAV (c a b : AV) : Option AV :=
  match c with
  | .b t => some (if t then a else b)
  | _ => none

def loadAV (n : Option Nat) (h : Heap) : AV → Option AV
  | .ep cs o => partL n cs o
  | .ptr id g z i o => (boxAt h id g z).bind fun bx => (bx.els[i]?).bind fun r => partL n r o
  | _ => none

def eqsAV (neq : Bool) (ls : List (Nat × Leaf)) (x y : AV) : Option AV :=
  match x, y with
  | .agg xs, .agg ys => (eqL ls xs ys).map fun t => .b (if neq then !t else t)
  | _, _ => none

def eqnilAV (neq : Bool) : AV → Option AV
  | .sl _ .nl => some (.b (!neq))
  | .sl _ .fu | .sl _ .so => some (.b neq)
  | _ => none

def eqbAV (neq : Bool) (x y : AV) : Option AV :=
  match x, y with
  | .b s, .b t => some (.b (if neq then s != t else s == t))
  | _, _ => none

def unAV (op : UnOp) (x : AV) : Option AV :=
  match op, x with
  | .neg, .i k n => some (.i k (k.wrap (0 - n)))
  | .not, .b t => some (.b (!t))
  | _, _ => none

def convAV (k : IntKind) : AV → Option AV
  | .i _ n => some (.i k (k.wrap n))
  | _ => none

def bndO (x : Option AV) (dflt y : Nat) : Option Nat :=
  match x with
  | none => some dflt
  | some v => bnd v y

def slcAV (z : Nat) (h : Heap) (x : AV) (lo hi mx : Option AV) : Option AV :=
  match x with
  | .sl els f =>
    (bndO hi els.length els.length).bind fun k =>
    (bndO mx k els.length).bind fun m =>
    (bndO lo 0 k).bind fun l =>
      if k ≤ m ∧ (els.head?.all fun r => r.length = z) then some (.sl ((els.take k).drop l) (if f = .nl then .nl else .an)) else none
  | .bs id g z' off n =>
    (boxAt h id g z').bind fun _ =>
    (bndO hi n n).bind fun k =>
    (bndO lo 0 k).bind fun l =>
      if z' = z ∧ mx.isNone then
        if l = 0 then some (.bs id g z off k)
        else if l < k then some (.bs id g z (off + l) (k - l)) else some (.sl [] .an)
      else none
  | _ => none

def slstrAV (x : AV) (lo hi : Option AV) : Option AV :=
  match x with
  | .s l => (bndO hi l.length l.length).bind fun h => (bndO lo 0 h).map fun k => .s ((l.take h).drop k)
  | _ => none

def liveP (h : Heap) (id : BId) (g z i : Nat) : Bool :=
  match boxAt h id g z with
  | some bx => i < bx.els.length
  | none => false

def fadAV (off : Nat) (h : Heap) : AV → Option AV
  | .ep cs o => some (.ep cs (o + off))
  | .ptr id g z i o => if liveP h id g z i then some (.ptr id g z i (o + off)) else none
  | _ => none

def fldAV (off : Nat) (n : Option Nat) : AV → Option AV
  | .agg cs => partL n cs off
  | _ => none

def iadAV (z : Nat) (h : Heap) (x i : AV) : Option AV :=
  match x, i with
  | .sl els _, .i _ n => if 0 ≤ n ∧ n < els.length then (els[n.toNat]?).bind fun r => if r.length = z then some (.ep r 0) else none else none
  | .bs id g z' off len, .i _ n => (boxAt h id g z').bind fun _ => if z' = z ∧ 0 ≤ n ∧ n < len then some (.ptr id g z (off + n.toNat) 0) else none
  | _, _ => none

def iaaAV (z len : Nat) (h : Heap) (x i : AV) : Option AV :=
  match x, i with
  | .ep cs o, .i _ n => if 0 ≤ n ∧ n < len then some (.ep cs (o + n.toNat * z)) else none
  | .ptr id g z' j o, .i _ n => if liveP h id g z' j ∧ 0 ≤ n ∧ n < len then some (.ptr id g z' j (o + n.toNat * z)) else none
  | _, _ => none

def ixsAV (x i : AV) : Option AV :=
  match x, i with
  | .s l, .i _ n => if 0 ≤ n ∧ n < l.length then (l[n.toNat]?).map fun b => .i .u8 b.toNat else none
  | _, _ => none

def ixaAV (z len : Nat) (n : Option Nat) (x i : AV) : Option AV :=
  match x, i with
  | .agg cs, .i _ j => if 0 ≤ j ∧ j < len then partL n cs (j.toNat * z) else none
  | _, _ => none

def lenAV (h : Heap) : AV → Option AV
  | .sl els _ => some (.i .i64 els.length)
  | .bs id g z _ n => (boxAt h id g z).map fun _ => .i .i64 n
  | _ => none

def lensAV : AV → Option AV
  | .s l => some (.i .i64 l.length)
  | _ => none

def mmAV (mx : Bool) : List AV → Option AV
  | [] => none
  | x :: r => mmL mx x r

def extAV (ix : Nat) : AV → Option AV
  | .tup vs => vs[ix]?
  | _ => none

def nilcAV (h : Heap) : AV → Option AV
  | .ep cs o => some (.ep cs o)
  | .ptr id g z i o => if liveP h id g z i then some (.ptr id g z i o) else none
  | _ => none

def evO (e : Nat → AV) : Option Opd → Option AV
  | none => none
  | some x => some (ev e x)

/-- Operations that leave the boxes alone. -/
def stepQ (op : AOp) (e : Nat → AV) (h : Heap) : Option AV :=
  match op with
  | .mov x => some (ev e x)
  | .pick c a b => pickAV (ev e c) (ev e a) (ev e b)
  | .build zs parts => (fillL zs (parts.map fun p => (p.1, p.2.1, ev e p.2.2))).map .agg
  | .load n x => loadAV n h (ev e x)
  | .bin op x y => binV op (ev e x) (ev e y)
  | .eqs neq ls x y => eqsAV neq ls (ev e x) (ev e y)
  | .eqnil neq x => eqnilAV neq (ev e x)
  | .eqb neq x y => eqbAV neq (ev e x) (ev e y)
  | .un op x => unAV op (ev e x)
  | .conv k x => convAV k (ev e x)
  | .slc z x lo hi mx => slcAV z h (ev e x) (evO e lo) (evO e hi) (evO e mx)
  | .slstr x lo hi => slstrAV (ev e x) (evO e lo) (evO e hi)
  | .fad off x => fadAV off h (ev e x)
  | .fld off n x => fldAV off n (ev e x)
  | .iad z x i => iadAV z h (ev e x) (ev e i)
  | .iaa z len x i => iaaAV z len h (ev e x) (ev e i)
  | .ixs x i => ixsAV (ev e x) (ev e i)
  | .ixa z len n x i => ixaAV z len n (ev e x) (ev e i)
  | .len x => lenAV h (ev e x)
  | .lens x => lensAV (ev e x)
  | .lenc n => some (.i .i64 n)
  | .mm mx xs => mmAV mx (xs.map (ev e))
  | .ext x ix => extAV ix (ev e x)
  | .nilc x => nilcAV h (ev e x)
  | _ => none

/-! ### From the model's operations -/

def ofConst : Value → Option AV
  | .int k n => some (.i k n)
  | .bool t => some (.b t)
  | .string s => some (.s s.data.toList)
  | .slice none 0 0 => some (.sl [] .nl)
  | .agg _ | .tuple _ => none
  | v => some (.raw v)

def resOpd : Operand → Option Opd
  | .tmp t => some (.t t)
  | .const v => (ofConst v).map .c
  | .func f => some (.c (.raw (.func (.func f) #[] #[])))
  | .global _ => none

def resOpt : Option Operand → Option (Option Opd)
  | none => some none
  | some x => (resOpd x).map some

def resList : List Operand → Option (List Opd)
  | [] => some []
  | x :: r => (resOpd x).bind fun a => (resList r).map fun b => a :: b

def zeros (P : Program) (t : TypeId) : Option (List AV) :=
  ((P.info? t).bind (·.zero)).bind fun v => (v.cells.toList.mapM ofConst)

/-- How many cells a part of this type has: 'none': it is one cell, and no struct or array. -/
def isAggD : TypeDesc → Bool
  | .struct _ | .array _ _ => true
  | _ => false

def partN (P : Program) (t : TypeId) : Option (Option Nat) :=
  (P.underlying t).bind fun d => (P.info? t).map fun inf => if isAggD d then some inf.size else none

def sizeT (P : Program) (t : TypeId) : Option Nat := (P.info? t).map (·.size)

def leafOf (P : Program) (t : TypeId) : Option Leaf :=
  match P.underlying t with
  | some (.int _) => some .int
  | some .bool => some .bool
  | some .string => some .str
  | _ => none

def leaves (P : Program) : List Field → Option (List (Nat × Leaf))
  | [] => some []
  | f :: r => if f.name = "_" then none else (leafOf P f.type).bind fun l => (leaves P r).map fun b => (f.offset, l) :: b

def resParts (P : Program) (fields : Array Field) : List (Nat × Operand) → Option (List (Nat × Nat × Opd))
  | [] => some []
  | (i, x) :: r =>
    match fields[i]? with
    | none => none
    | some f => (sizeT P f.type).bind fun n => (resOpd x).bind fun a => (resParts P fields r).map fun b => (f.offset, n, a) :: b

def resPartsS : List (Nat × Operand) → Option (List (Nat × Opd))
  | [] => some []
  | (i, x) :: r => (resOpd x).bind fun a => (resPartsS r).map fun b => (i, a) :: b

def isNilConst : Operand → Bool
  | .const (.slice none 0 0) => true
  | _ => false

def resOp (P : Program) (op : Op) : Option AOp :=
  match op with
  | .move x | .assign x => (resOpd x).map .mov
  | .pick c a b => (resOpd c).bind fun c => (resOpd a).bind fun a => (resOpd b).map fun b => .pick c a b
  | .build t parts =>
    match P.underlying t with
    | some (.struct fields) => if fields.toList.all fun f => (sizeT P f.type).isSome then (zeros P t).bind fun zs => (resParts P fields parts.toList).map fun ps => .build zs ps else none
    | _ => none
  | .load t x => (partN P t).bind fun n => (resOpd x).map fun x => .load n x
  | .binOp op t x y _ =>
    (resOpd x).bind fun a => (resOpd y).bind fun b =>
      match P.underlying t with
      | some (.int _) | some .string => some (.bin op a b)
      | some .bool => match op with | .eql => some (.eqb false a b) | .neq => some (.eqb true a b) | _ => none
      | some (.struct fs) =>
        if !P.eqGuardType P.depth t && !P.stoodInHeld t then
          match op with
          | .eql => (leaves P fs.toList).map fun ls => .eqs false ls a b
          | .neq => (leaves P fs.toList).map fun ls => .eqs true ls a b
          | _ => none
        else none
      | some (.slice _) =>
        if isNilConst y then match op with | .eql => some (.eqnil false a) | .neq => some (.eqnil true a) | _ => none else none
      | _ => none
  | .unOp op _ x => (resOpd x).map fun a => .un op a
  | .convert s d x =>
    match P.underlying s, P.underlying d with
    | some (.int _), some (.int k) => (resOpd x).map fun a => .conv k a
    | some (.slice e), some .string => match P.underlying e with | some (.int .u8) => (resOpd x).map .bstr | _ => none
    | _, _ => none
  | .slice t x lo hi mx =>
    match P.underlying t with
    | some (.slice e) => (sizeT P e).bind fun z => (resOpd x).bind fun x => (resOpt lo).bind fun lo => (resOpt hi).bind fun hi => (resOpt mx).bind fun mx => if hi.isNone && mx.isSome then none else some (.slc z x lo hi mx)
    | some .string => if mx.isNone then (resOpd x).bind fun x => (resOpt lo).bind fun lo => (resOpt hi).map fun hi => .slstr x lo hi else none
    | _ => none
  | .fieldAddr t x i =>
    match P.underlying t with
    | some (.struct fields) => match fields[i]? with
      | some f => (sizeT P f.type).bind fun n => if n = 0 then none else (resOpd x).map fun x => .fad f.offset x
      | none => none
    | _ => none
  | .field t x i =>
    match P.underlying t with
    | some (.struct fields) => match fields[i]? with
      | some f => (partN P f.type).bind fun n => (resOpd x).map fun x => .fld f.offset n x
      | none => none
    | _ => none
  | .indexAddr t x i =>
    match P.underlying t with
    | some (.slice e) => (sizeT P e).bind fun z => (resOpd x).bind fun x => (resOpd i).map fun i => .iad z x i
    | some (.array n e) => (sizeT P e).bind fun z => (resOpd x).bind fun x => (resOpd i).map fun i => .iaa z n x i
    | _ => none
  | .index t x i =>
    match P.underlying t with
    | some .string => (resOpd x).bind fun x => (resOpd i).map fun i => .ixs x i
    | some (.array n e) => (sizeT P e).bind fun z => (partN P e).bind fun k => (resOpd x).bind fun x => (resOpd i).map fun i => .ixa z n k x i
    | _ => none
  | .extract x i => (resOpd x).map fun x => .ext x i
  | .nilCheck x => (resOpd x).map fun x => .nilc x
  | .alloc t => (zeros P t).map fun zs => .alloc zs
  | .buildSlice t len parts =>
    match P.underlying t with
    | some (.slice e) => (sizeT P e).bind fun z => if len * z ≤ 16777216 ∧ z ≠ 0 then (zeros P e).bind fun zs => if zs.length = z then (resPartsS parts.toList).map fun ps => .bsl z zs len ps else none else none
    | _ => none
  | .store t x v => (sizeT P t).bind fun n => (resOpd x).bind fun x => (resOpd v).map fun v => .store n x v
  | .makeSlice t l c =>
    match P.underlying t with
    | some (.slice e) => match P.info? e with
      | some inf => if inf.size ≠ 0 ∧ inf.bytes ≤ 32768 then (zeros P e).bind fun zs => if zs.length = inf.size then (resOpd l).bind fun l => (resOpd c).map fun c => .mks inf.size zs l c else none else none
      | none => none
    | _ => none
  | .call { callee := .builtin b, args, argTypes } =>
    match b, args.toList, argTypes.toList with
    | .len, [x], [t] =>
      (match P.underlying t with
      | some .string => (resOpd x).map .lens
      | some (.slice _) => (resOpd x).map .len
      | some (.array n _) => some (.lenc n)
      | _ => none)
    | .min, xs, _ => (resList xs).bind fun l => if l.isEmpty then none else some (.mm false l)
    | .max, xs, _ => (resList xs).bind fun l => if l.isEmpty then none else some (.mm true l)
    | .append, [x, y], [t, u] =>
      if t = u then
        match P.underlying t with
        | some (.slice e) => match P.info? e with
          | some inf => if inf.size ≠ 0 ∧ inf.bytes ≤ 32768 ∧ inf.zero.any (·.cells.size = inf.size) then (resOpd x).bind fun x => (resOpd y).map fun y => .app inf.size x y else none
          | none => none
        | _ => none
      else none
    | .copy, [x, y], [t, u] =>
      if t = u then
        match P.underlying t with
        | some (.slice e) => (sizeT P e).bind fun z => if z ≠ 0 then (resOpd x).bind fun x => (resOpd y).map fun y => .cpy z x y else none
        | _ => none
      else none
    | _, _, _ => none
  | .call { callee := .value (.func f), args, argTypes := _ } => (resList args.toList).map fun l => .call f l
  | _ => none

def resGuard (ops : Array Oper) : Option (Nat × Bool) → Option (Option (Nat × Bool))
  | none => some none
  | some (j, w) => ((ops[j]?).bind (·.dst)).map fun d => some (d, w)

def resOper (P : Program) (nt : Nat) (ops : Array Oper) (o : Oper) : Option AO :=
  (resOp P o.op).bind fun op => (resGuard ops o.guard).bind fun g =>
    match o.dst with
    | none => some ⟨none, g, op⟩
    | some d => if d < nt then some ⟨some d, g, op⟩ else none

def resOpers (P : Program) (nt : Nat) (ops : Array Oper) : List Oper → Option (List AO)
  | [] => some []
  | o :: r => (resOper P nt ops o).bind fun a => (resOpers P nt ops r).map fun b => a :: b

/-- operations that make or change boxes -/
def AOp.writes : AOp → Bool
  | .alloc .. | .store .. | .mks .. | .app .. | .cpy .. => true
  | _ => false

/-- operations whose value hangs on no box -/
def AOp.free : AOp → Bool
  | .mov .. | .pick .. | .build .. | .bin .. | .eqs .. | .eqnil .. | .eqb .. | .un .. | .conv .. | .slstr .. | .fld .. | .ixs .. | .ixa .. | .lens .. | .lenc .. | .mm .. | .ext .. | .call .. | .bsl .. => true
  | _ => false

/-- must operation i be done ahead of operation j? -/
def precedes (ops : Array Oper) : Nat → Nat → Nat → Bool
  | 0, _, _ => false
  | n + 1, i, j => match ops[j]? with
    | none => false
    | some o => o.after.any fun e => Region.binds .any e && (e.on == i || precedes ops n i e.on)

/-- an operation of a drawn region: how many writing ones are done ahead of it at the least; whether it writes -/
structure DO where
  ao : AO
  lo : Nat

def writersOf (l : List AO) : List Nat := (l.zipIdx.filter fun p => p.1.op.writes).map (·.2)

def lowOf (ops : Array Oper) (ws : List Nat) (i : Nat) : Nat := (ws.filter fun v => precedes ops ops.size v i).length
def highOf (ops : Array Oper) (ws : List Nat) (i : Nat) : Nat := (ws.filter fun v => !precedes ops ops.size i v).length

def chained (ops : Array Oper) : List Nat → Bool
  | a :: b :: r => (match ops[b]? with | some o => o.after.any fun e => Region.binds .any e && e.on == a | none => false) && chained ops (b :: r)
  | _ => true

def drawOk (ops : Array Oper) (l : List AO) : Bool :=
  let ws := writersOf l
  Region.lexB .any ops && chained ops ws &&
  l.zipIdx.all fun p => if p.1.op.writes then p.1.guard.isNone else p.1.op.free || decide (highOf ops ws p.2 ≤ (ws.filter (· < p.2)).length)

def drawOf (ops : Array Oper) (l : List AO) : List DO := l.zipIdx.map fun p => ⟨p.1, lowOf ops (writersOf l) p.2⟩

inductive AC where
  | skip
  | reg (ops : List AO)
  | draw (ops : List DO)
  | seq (a b : AC)
  | cond (c : Opd) (x y : AC)
  | block (id : Nat) (c : AC)
  | loop (c : AC)
  | exit (id : Nat)
  | ret

def resCode (P : Program) (nt : Nat) : Code → Option AC
  | .skip => some .skip
  | .region _ ops draw => (resOpers P nt ops ops.toList).bind fun l => if draw then (if drawOk ops l then some (.draw (drawOf ops l)) else none) else some (.reg l)
  | .seq a b => (resCode P nt a).bind fun a => (resCode P nt b).map fun b => .seq a b
  | .cond c x y => (resOpd c).bind fun c => (resCode P nt x).bind fun x => (resCode P nt y).map fun y => .cond c x y
  | .block id c => (resCode P nt c).map (.block id)
  | .loop c => (resCode P nt c).map .loop
  | .exit id => some (.exit id)
  | .label _ => some .skip
  | .ret => some .ret
  | _ => none

/-- A result: a slot, or what the slot's address leads to. -/
inductive RV where
  | t (n : Nat)
  | cell (n : Nat) (k : Option Nat)

structure AF where
  np : Nat
  nt : Nat
  res : List RV
  body : AC

def resRes (P : Program) : List ResultVar → Option (List RV)
  | [] => some []
  | .tmp t :: r => (resRes P r).map fun b => .t t :: b
  | .cell a t :: r => (partN P t).bind fun k => (resRes P r).map fun b => .cell a k :: b

def resFn (P : Program) (f : FuncId) : Option AF :=
  match P.funcs[f]? with
  | some fn =>
    match fn.body with
    | some c => (resRes P fn.results.toList).bind fun rs => (resCode P fn.ntmps c).bind fun c => if fn.params.size ≤ fn.ntmps ∧ fn.nfree = 0 ∧ (fn.name == "runtime.NumGoroutine") = false then some ⟨fn.params.size, fn.ntmps, rs, c⟩ else none
    | none => none
  | none => none

def pureC : AV → Bool
  | .bs .. | .ptr .. | .agg _ | .tup _ => false
  | _ => true

def noRef : AV → Bool
  | .bs .. | .ptr .. | .tup _ => false
  | .agg cs => cs.all pureC
  | _ => true

def refs : AV → List BId
  | .bs id .. => [id]
  | .agg cs => cs.flatMap fun c => match c with | .bs id .. => [id] | _ => []
  | .tup cs => cs.flatMap fun c => match c with | .bs id .. => [id] | .agg ds => ds.flatMap (fun d => match d with | .bs id .. => [id] | _ => []) | _ => []
  | _ => []

def frzC (h : Heap) : AV → Option AV
  | .bs id g z off n => (boxAt h id g z).bind fun bx => if bx.kind ≠ .str ∧ off + n ≤ bx.els.length then some (.sl ((bx.els.drop off).take n) .an) else none
  | .ptr .. | .agg _ | .tup _ => none
  | x => some x

def frz1 (h : Heap) : AV → Option AV
  | .agg cs => (cs.mapM (frzC h)).map .agg
  | x => frzC h x

def frz (h : Heap) : AV → Option AV
  | .tup cs => (cs.mapM (frz1 h)).map .tup
  | x => frz1 h x

def shareIds (ids : List BId) (h : Heap) : Heap :=
  match ids with
  | [] => h
  | _ => h.map fun p => (p.1, if ids.contains p.1 then { p.2 with kind := .sh } else p.2)

def fillS (z : Nat) : List (List AV) → List (Nat × AV) → Option (List (List AV))
  | els, [] => some els
  | els, (i, x) :: rest =>
    (cellsOf x).bind fun cs => if cs.length = z ∧ cs.all pureC = true ∧ i < els.length then fillS z (els.set i cs) rest else none

def frzP (h : Heap) : List (Nat × AV) → Option (List (Nat × AV))
  | [] => some []
  | (i, x) :: r => (frz1 h x).bind fun y => (frzP h r).map fun q => (i, y) :: q

def bslAV (z : Nat) (zs : List AV) (len : Nat) (h : Heap) (ps : List (Nat × AV)) : Option (AV × Heap) :=
  (frzP h ps).bind fun qs => (fillS z (List.replicate len zs) qs).map fun els => (.sl els .fu, shareIds (ps.flatMap fun p => refs p.2) h)

end Go.Ab
