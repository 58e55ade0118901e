/- A small language, its meaning on data, a check, and why the check is sound: part 1. -/
import GoSem.Core.Sem
import GoSem.Core.View
import GoSem.Op.String
import GoSem.Machine.Return
import Derived.Below
import Derived.Deep.AppendSrc
import Derived.Calls
import Derived.WalkKit
set_option linter.all false
/- The data semantics: a small language of structured code over trees of cells, its evaluator with fuel, and the laws by which it is unfolded. -/
set_option linter.unusedVariables false
namespace Go.Opt

/-- What a cell holds, read through. 's': the cells of an element. -/
inductive C where
  | int (k : IntKind) (n : Int)
  | bool (b : Bool)
  | str (l : List UInt8)
  | sl (s : Nat) (rows : List (List C))
instance : Inhabited C := ⟨.bool false⟩

/-- The kind of a cell; its zero. -/
inductive K where
  | int (k : IntKind)
  | bool
  | str
  | sl (s : Nat)
deriving DecidableEq, Repr

def K.zero : K → C
  | .int k => .int k 0
  | .bool => .bool false
  | .str => .str []
  | .sl s => .sl s []

def K.mem : K → Bool
  | .sl _ => true
  | _ => false

abbrev Path := List (Nat × Nat)

/-- Where a cell lies: in a variable of the frame, in a box. -/
inductive Place where
  | tmp (t : Nat)
  | box (b j : Nat)
deriving DecidableEq, Repr

inductive DV where
  | undef
  | c (x : C)
  | agg (xs : List C)
  | tup (xs : List DV)
instance : Inhabited DV := ⟨.undef⟩

/-- An operand. -/
inductive X where
  | t (n : Nat)
  | int (k : IntKind) (n : Int)
  | bool (v : Bool)
  | str (l : List UInt8)
  | nil (sz : Nat)
deriving DecidableEq, Repr

def X.ev (t : Nat → DV) : X → DV
  | .t n => t n
  | .int k n => .c (.int k n)
  | .bool v => .c (.bool v)
  | .str l => .c (.str l)
  | .nil sz => .c (.sl sz [])

/-- An element's index, as an operand, and the cell in it. -/
abbrev PathX := List (X × Nat)

/-- Where a pointer leads: to a cell of a box; to a cell of an element that is reached from a place. -/
inductive Ptr where
  | box (b off : Nat)
  | el (p : Place) (path : PathX)
deriving DecidableEq, Repr

/-- An argument: a value; the pointer to a box; a slice that is changed in place, and where it lies. -/
inductive AX where
  | v (x : X)
  | p (a b : Nat)
  | io (x : X) (p : Place) (path : PathX)
deriving DecidableEq, Repr

inductive O where
  | zap
  | mov (x : X)
  | adr (src off : Nat) (ptr : Ptr)
  | iadr (s : Nat) (x i : X) (ptr : Ptr)
  | pick (c a b : X)
  | alloc (ks : List K)
  | box (n : Nat) (x : X)
  | build (ks : List K) (parts : List (Nat × Nat × X))
  | bslice (ks : List K) (len : Nat) (parts : List (Nat × X))
  | ldB (agg : Bool) (ks : List K) (a b off : Nat)
  | stB (n a b off : Nat) (x : X)
  | ldE (agg : Bool) (ks : List K) (a : Nat) (p : Place) (path : PathX)
  | stE (n a : Nat) (p : Place) (path : PathX) (x : X)
  | bin (op : BinOp) (x y : X)
  | beq (neg : Bool) (x y : X)
  | aeq (neg : Bool) (ks : List K) (x y : X)
  | un (op : UnOp) (x : X)
  | conv (k : IntKind) (x : X)
  | b2s (x : X)
  | field (agg : Bool) (off n : Nat) (x : X)
  | sidx (x i : X)
  | extr (x : X) (i : Nat)
  | slc (s : Nat) (x : X) (lo hi mx : Option X)
  | sslc (x : X) (lo hi : Option X)
  | mks (ks : List K) (bytes : Nat) (l : X)
  | call (f : Nat) (args : List AX)
  | len (x : X)
  | slen (x : X)
  | app (ks : List K) (bytes : Nat) (x y : X)
  | apps (bytes : Nat) (x y : X)
  | mx (x y : X)
  | mn (x y : X)
deriving DecidableEq, Repr

structure Op' where
  dst : Option Nat
  op : O
  guard : Option (Nat × Bool)
  after : List Nat
deriving DecidableEq, Repr

inductive Cd where
  | skip
  | region (draw : Bool) (ops : List Op')
  | seq (a b : Cd)
  | cond (x : X) (a b : Cd)
  | block (id : Nat) (c : Cd)
  | loop (c : Cd)
  | exit (id : Nat)
  | ret
deriving DecidableEq, Repr

inductive RVar where
  | tmp (t : Nat)
  | ptr (t b : Nat)
  | cell (a b : Nat) (agg : Bool) (n : Nat)
deriving DecidableEq, Repr

inductive IoAt where
  | tmp
  | box (b : Nat)
deriving DecidableEq, Repr

structure Fn' where
  ntmps : Nat
  res : List RVar
  io : List (Nat × IoAt)
  body : Cd
deriving DecidableEq, Repr

inductive Arg where
  | c (x : C)
  | agg (xs : List C)
  | ptr (cs : List C)

inductive RV where
  | c (x : C)
  | agg (xs : List C)
  | tup (xs : List RV)
  | ptr (cs : List C)

structure Res where
  val : RV
  outs : List (List C)

/-! ### States -/
def upd {α : Type} (f : Nat → α) (k : Nat) (v : α) : Nat → α := fun j => if j = k then v else f j
theorem upd_same {α : Type} (f : Nat → α) (k : Nat) (v : α) : upd f k v k = v := by simp [upd]
theorem upd_ne {α : Type} (f : Nat → α) {k j : Nat} (v : α) (h : j ≠ k) : upd f k v j = f j := by simp [upd, h]

structure S where
  t : Nat → DV
  b : Nat → List C

def S.put (s : S) (d : Option Nat) (v : DV) : S :=
  match d with
  | some d => ⟨upd s.t d v, s.b⟩
  | none => s
def S.setB (s : S) (b : Nat) (cs : List C) : S := ⟨s.t, upd s.b b cs⟩
def S.setT (s : S) (t : Nat) (v : DV) : S := ⟨upd s.t t v, s.b⟩

/-- 'cs' laid over a list from 'k' on. -/
def splice (l : List C) (k : Nat) (cs : List C) : List C := l.take k ++ cs ++ l.drop (k + cs.length)

def C.rows : C → List (List C)
  | .sl _ rows => rows
  | _ => []

def C.isSl : C → Bool
  | .sl _ _ => true
  | _ => false
/-- What is of a kind without memory holds none. -/
def fitK : List K → List C → Bool
  | k :: ks, c :: cs => (k.mem || !c.isSl) && fitK ks cs
  | _, _ => true
def flatRow (row : List C) : Bool := row.all fun c => !c.isSl
def flatRows (rows : List (List C)) : Bool := rows.all flatRow

/-- The cells at a path's end: 'n' of them. -/
def C.get (n : Nat) : Path → C → Option (List C)
  | [], _ => none
  | [(i, k)], .sl _ rows =>
    match rows[i]? with
    | some row => if k + n ≤ row.length then some ((row.drop k).take n) else none
    | none => none
  | (i, k) :: rest, .sl _ rows =>
    match rows[i]? with
    | some row => match row[k]? with
      | some x => x.get n rest
      | none => none
    | none => none
  | _, _ => none

def C.set (cs : List C) : Path → C → Option C
  | [], _ => none
  | [(i, k)], .sl s rows =>
    match rows[i]? with
    | some row => if k + cs.length ≤ row.length then some (.sl s (rows.set i (splice row k cs))) else none
    | none => none
  | (i, k) :: rest, .sl s rows =>
    match rows[i]? with
    | some row => match row[k]? with
      | some x => match x.set cs rest with
        | some y => some (.sl s (rows.set i (row.set k y)))
        | none => none
      | none => none
    | none => none
  | _, _ => none

def S.cellAt (s : S) : Place → Option C
  | .tmp t => match s.t t with
    | .c x => some x
    | _ => none
  | .box b j => (s.b b)[j]?

def S.setCell (s : S) (p : Place) (x : C) : S :=
  match p with
  | .tmp t => s.setT t (.c x)
  | .box b j => s.setB b ((s.b b).set j x)

def oneOrAgg (agg : Bool) (cs : List C) : Option DV :=
  if agg then some (.agg cs) else match cs with
    | [x] => some (.c x)
    | _ => none

def DV.cells : DV → Option (List C)
  | .c x => some [x]
  | .agg xs => some xs
  | _ => none

/-! ### Scalars -/
abbrev bytesLt : List UInt8 → List UInt8 → Bool := Go.Op.bytesLess

def C.eqv : K → C → C → Option Bool
  | .int k, .int k1 a, .int k2 b => if k1 = k ∧ k2 = k then some (a == b) else none
  | .bool, .bool a, .bool b => some (a == b)
  | .str, .str a, .str b => some (a == b)
  | _, _, _ => none

def eqvs : List K → List C → List C → Option Bool
  | [], [], [] => some true
  | k :: ks, a :: x, b :: y => match C.eqv k a b, eqvs ks x y with
    | some p, some q => some (p && q)
    | _, _ => none
  | _, _, _ => none

def maxStr : Nat := 4611686018427387904

def binInt (op : BinOp) (k : IntKind) (a b : Int) : Option C :=
  match op with
  | .add => some (.int k (k.wrap (a + b)))
  | .sub => some (.int k (k.wrap (a - b)))
  | .mul => some (.int k (k.wrap (a * b)))
  | .quo => if b = 0 then none else some (.int k (k.wrap (a.tdiv b)))
  | .rem => if b = 0 then none else some (.int k (a.tmod b))
  | .and => some (.int k (k.wrap (BitVec.ofInt k.bits a &&& BitVec.ofInt k.bits b).toNat))
  | .xor => some (.int k (k.wrap (BitVec.ofInt k.bits a ^^^ BitVec.ofInt k.bits b).toNat))
  | .eql => some (.bool (a == b))
  | .neq => some (.bool (a != b))
  | .lss => some (.bool (a < b))
  | .leq => some (.bool (a ≤ b))
  | .gtr => some (.bool (a > b))
  | .geq => some (.bool (a ≥ b))
  | _ => none

def binStr (op : BinOp) (a b : List UInt8) : Option C :=
  match op with
  | .add => if a.length + b.length ≤ maxStr then some (.str (a ++ b)) else none
  | .eql => some (.bool (a == b))
  | .neq => some (.bool !(a == b))
  | .lss => some (.bool (bytesLt a b))
  | .leq => some (.bool (bytesLt a b || a == b))
  | .gtr => some (.bool !(bytesLt a b || a == b))
  | .geq => some (.bool !(bytesLt a b))
  | _ => none

def shrInt (k : IntKind) (a b : Int) : Option C :=
  if b < 0 then none else some (.int k (a.fdiv (2 ^ (min b.toNat k.bits))))

def binDV (op : BinOp) (x y : DV) : Option C :=
  match op, x, y with
  | .shr, .c (.int k a), .c (.int _ b) => shrInt k a b
  | op, .c (.int k a), .c (.int k' b) => if k = k' then binInt op k a b else none
  | op, .c (.str a), .c (.str b) => binStr op a b
  | _, _, _ => none

def unDV (op : UnOp) (x : DV) : Option C :=
  match op, x with
  | .neg, .c (.int k n) => some (.int k (k.wrap (0 - n)))
  | .not, .c (.bool b) => some (.bool !b)
  | _, _ => none

def C.byte : C → Option UInt8
  | .int .u8 n => if 0 ≤ n ∧ n < 256 then some (UInt8.ofNat n.toNat) else none
  | _ => none

def rowsBytes : List (List C) → Option (List UInt8)
  | [] => some []
  | [x] :: r => match x.byte, rowsBytes r with
    | some b, some l => some (b :: l)
    | _, _ => none
  | _ => none

def idxOf (x : DV) : Option Int :=
  match x with
  | .c (.int _ n) => some n
  | _ => none

/-- A bound of a slice expression: 0 to 'most'. -/
def bnd (t : Nat → DV) (x : Option X) (dflt most : Nat) : Option Nat :=
  match x with
  | none => some dflt
  | some x => match idxOf (x.ev t) with
    | some n => if 0 ≤ n ∧ n ≤ most then some n.toNat else none
    | none => none

def byteRow (b : UInt8) : List C := [.int .u8 b.toNat]

def maxBytes : Nat := 140737488355328

/-! ### One operation -/
section
variable (Φ : Nat → List Arg → Option Res)

def toArg (s : S) : AX → Option Arg
  | .v x | .io x _ _ => match x.ev s.t with
    | .c x => some (.c x)
    | .agg xs => some (.agg xs)
    | _ => none
  | .p _ b => some (.ptr (s.b b))

def toArgs (s : S) : List AX → Option (List Arg)
  | [] => some []
  | x :: r => match toArg s x, toArgs s r with
    | some a, some l => some (a :: l)
    | _, _ => none

def evPath (t : Nat → DV) : PathX → Option Path
  | [] => some []
  | (x, k) :: r => match idxOf (x.ev t), evPath t r with
    | some n, some l => if 0 ≤ n then some ((n.toNat, k) :: l) else none
    | _, _ => none

/-- Cells laid at a place: at a path's end, or over the place itself. -/
def S.lay (s : S) (p : Place) (path : Path) (cs : List C) : Option S :=
  match path with
  | [] => match p with
    | .tmp t => match s.t t, cs with
      | .c _, [x] => some (s.setT t (.c x))
      | .agg _, cs => some (s.setT t (.agg cs))
      | _, _ => none
    | .box b j => if j + cs.length ≤ (s.b b).length then some (s.setB b (splice (s.b b) j cs)) else none
  | path => match s.cellAt p with
    | some x => match x.set cs path with
      | some y => some (s.setCell p y)
      | none => none
    | none => none

/-- What the call left in what was handed over to be changed: box contents; arguments that are changed in place. 'T': the variables before the call. -/
def layOuts (T : Nat → DV) : List AX → List (List C) → S → Option S
  | [], [], s => some s
  | .v _ :: r, outs, s => layOuts T r outs s
  | .p _ b :: r, cs :: outs, s => layOuts T r outs (s.setB b cs)
  | .io _ p path :: r, cs :: outs, s => match evPath T path with
    | some q => match s.lay p q cs with
      | some s => layOuts T r outs s
      | none => none
    | none => none
  | _, _, _ => none

def RV.dv : RV → Option DV
  | .c x => some (.c x)
  | .agg xs => some (.agg xs)
  | .tup xs => some (.tup (xs.map fun | .c x => .c x | .agg xs => .agg xs | _ => .undef))
  | .ptr _ => none

def fillCells : List (Nat × Nat × List C) → List C → Option (List C)
  | [], l => some l
  | (off, n, cs) :: r, l => if cs.length = n ∧ off + n ≤ l.length then fillCells r (splice l off cs) else none

def evParts (t : Nat → DV) : List (Nat × Nat × X) → Option (List (Nat × Nat × List C))
  | [] => some []
  | (off, n, x) :: r => match (x.ev t).cells, evParts t r with
    | some cs, some l => some ((off, n, cs) :: l)
    | _, _ => none

def fillRows (n : Nat) : List (Nat × List C) → List (List C) → Option (List (List C))
  | [], l => some l
  | (i, cs) :: r, l => if cs.length = n ∧ i < l.length then fillRows n r (l.set i cs) else none

def evRows (t : Nat → DV) : List (Nat × X) → Option (List (Nat × List C))
  | [] => some []
  | (i, x) :: r => match (x.ev t).cells, evRows t r with
    | some cs, some l => some ((i, cs) :: l)
    | _, _ => none

def step (d : Option Nat) (o : O) (s : S) : Option S :=
  match o with
  | .zap => some (s.put d .undef)
  | .adr _ _ _ => some (s.put d .undef)
  | .mov x =>
    match x.ev s.t with
    | .undef => none
    | v => some (s.put d v)
  | .iadr sz x i _ =>
    match x.ev s.t, idxOf (i.ev s.t) with
    | .c (.sl sz' rows), some j => if sz' = sz ∧ 0 ≤ j ∧ j < rows.length then some (s.put d .undef) else none
    | _, _ => none
  | .pick c a b =>
    match c.ev s.t with
    | .c (.bool v) => if v then some (s.put d (a.ev s.t)) else some (s.put d (b.ev s.t))
    | _ => none
  | .alloc ks =>
    match d with
    | some d => some ⟨upd s.t d .undef, upd s.b d (ks.map K.zero)⟩
    | none => none
  | .box n x =>
    match d, (x.ev s.t).cells with
    | some d, some cs => if cs.length = n then some ⟨upd s.t d .undef, upd s.b d cs⟩ else none
    | _, _ => none
  | .build ks parts =>
    match evParts s.t parts with
    | some ps => (fillCells ps (ks.map K.zero)).map fun cs => s.put d (.agg cs)
    | none => none
  | .bslice ks len parts =>
    match evRows s.t parts with
    | some ps => (fillRows ks.length ps (List.replicate len (ks.map K.zero))).map fun rows => s.put d (.c (.sl ks.length rows))
    | none => none
  | .ldB agg ks _ b off =>
    if off + ks.length ≤ (s.b b).length then
      (oneOrAgg agg (((s.b b).drop off).take ks.length)).map fun v => s.put d v
    else none
  | .ldE agg ks _ p path =>
    match s.cellAt p, evPath s.t path with
    | some x, some q => match x.get ks.length q with
      | some cs => if fitK ks cs then (oneOrAgg agg cs).map fun v => s.put d v else none
      | none => none
    | _, _ => none
  | .stB n _ b off x =>
    match (x.ev s.t).cells with
    | some cs => if cs.length = n ∧ off + n ≤ (s.b b).length then some (s.setB b (splice (s.b b) off cs)) else none
    | none => none
  | .stE n _ p path x =>
    match (x.ev s.t).cells, evPath s.t path with
    | some cs, some q => if cs.length = n ∧ q ≠ [] then s.lay p q cs else none
    | _, _ => none
  | .bin op x y => (binDV op (x.ev s.t) (y.ev s.t)).map fun c => s.put d (.c c)
  | .beq neg x y =>
    match x.ev s.t, y.ev s.t with
    | .c (.bool a), .c (.bool b) => some (s.put d (.c (.bool (if neg then !(a == b) else (a == b)))))
    | _, _ => none
  | .aeq neg ks x y =>
    match x.ev s.t, y.ev s.t with
    | .agg xs, .agg ys => (eqvs ks xs ys).map fun e => s.put d (.c (.bool (if neg then !e else e)))
    | _, _ => none
  | .un op x => (unDV op (x.ev s.t)).map fun c => s.put d (.c c)
  | .conv k x =>
    match x.ev s.t with
    | .c (.int _ n) => some (s.put d (.c (.int k (k.wrap n))))
    | _ => none
  | .b2s x =>
    match x.ev s.t with
    | .c (.sl _ rows) => (rowsBytes rows).map fun l => s.put d (.c (.str l))
    | _ => none
  | .field agg off n x =>
    match x.ev s.t with
    | .agg xs => if off + n ≤ xs.length then (oneOrAgg agg ((xs.drop off).take n)).map fun v => s.put d v else none
    | _ => none
  | .sidx x i =>
    match x.ev s.t, idxOf (i.ev s.t) with
    | .c (.str l), some j =>
      if 0 ≤ j then match l[j.toNat]? with
        | some b => some (s.put d (.c (.int .u8 b.toNat)))
        | none => none
      else none
    | _, _ => none
  | .extr x i =>
    match x.ev s.t with
    | .tup xs => match xs[i]? with
      | some v => some (s.put d v)
      | none => none
    | _ => none
  | .slc sz x lo hi mx =>
    match x.ev s.t with
    | .c (.sl sz' rows) =>
      if sz' ≠ sz then none else
      match bnd s.t mx rows.length rows.length with
      | some m =>
        match bnd s.t hi rows.length (if mx.isSome then m else rows.length) with
        | some h => match bnd s.t lo 0 h with
          | some l => some (s.put d (.c (.sl sz' ((rows.take h).drop l))))
          | none => none
        | none => none
      | none => none
    | _ => none
  | .sslc x lo hi =>
    match x.ev s.t with
    | .c (.str l) =>
      match bnd s.t hi l.length l.length with
      | some h => match bnd s.t lo 0 h with
        | some k => some (s.put d (.c (.str ((l.take h).drop k))))
        | none => none
      | none => none
    | _ => none
  | .mks ks bytes l =>
    match idxOf (l.ev s.t) with
    | some n => if 0 ≤ n ∧ n.toNat * bytes ≤ maxBytes ∧ n.toNat ≤ maxStr then
        some (s.put d (.c (.sl ks.length (List.replicate n.toNat (ks.map K.zero))))) else none
    | none => none
  | .call f args =>
    match toArgs s args with
    | some as => match Φ f as with
      | some r => match layOuts s.t args r.outs s with
        | some s' => match r.val.dv with
          | some v => some (s'.put d v)
          | none => none
        | none => none
      | none => none
    | none => none
  | .len x =>
    match x.ev s.t with
    | .c (.sl _ rows) => some (s.put d (.c (.int .i64 rows.length)))
    | _ => none
  | .slen x =>
    match x.ev s.t with
    | .c (.str l) => some (s.put d (.c (.int .i64 l.length)))
    | _ => none
  | .apps bytes x y =>
    match x.ev s.t, y.ev s.t with
    | .c (.sl sz rows), .c (.str l) =>
      if sz = 1 ∧ flatRows rows ∧ (rows.length + l.length) * bytes ≤ maxBytes ∧ rows.length + l.length ≤ maxStr then some (s.put d (.c (.sl 1 (rows ++ l.map byteRow)))) else none
    | _, _ => none
  | .app ks bytes x y =>
    match x.ev s.t, y.ev s.t with
    | .c (.sl sz rows), .c (.sl sz' more) =>
      if sz = ks.length ∧ sz' = ks.length ∧ (ks.any K.mem ∨ flatRows rows ∧ flatRows more) ∧ (rows.length + more.length) * bytes ≤ maxBytes ∧ rows.length + more.length ≤ maxStr then some (s.put d (.c (.sl ks.length (rows ++ more)))) else none
    | _, _ => none
  | .mx x y =>
    match x.ev s.t, y.ev s.t with
    | .c (.int k a), .c (.int k' b) => if k = k' then some (s.put d (.c (.int k (if b > a then b else a)))) else none
    | _, _ => none
  | .mn x y =>
    match x.ev s.t, y.ev s.t with
    | .c (.int k a), .c (.int k' b) => if k = k' then some (s.put d (.c (.int k (if b < a then b else a)))) else none
    | _, _ => none

/-- The operation under its guard; where the guard does not want it the variable holds nothing. -/
def stepG (o : Op') (s : S) : Option S :=
  match o.guard with
  | none => step Φ o.dst o.op s
  | some (g, want) =>
    match s.t g with
    | .c (.bool v) => if v = want then step Φ o.dst o.op s else some (s.put o.dst .undef)
    | .undef => some (s.put o.dst .undef)
    | _ => none

def runOps : List Op' → S → Option S
  | [], s => some s
  | o :: r, s => match stepG Φ o s with
    | some s' => runOps r s'
    | none => none

inductive Ex where
  | normal
  | exit (id : Nat)
  | ret
deriving DecidableEq, Repr

def iter (g : S → Option (Ex × S)) : Nat → S → Option (Ex × S)
  | 0, _ => none
  | n + 1, s => match g s with
    | some (.normal, s') => iter g n s'
    | r => r

def ev (n : Nat) : Cd → S → Option (Ex × S)
  | .skip, s => some (.normal, s)
  | .region _ ops, s => (runOps Φ ops s).map fun s' => (.normal, s')
  | .seq a b, s => match ev n a s with
    | some (.normal, s') => ev n b s'
    | r => r
  | .cond x a b, s => match x.ev s.t with
    | .c (.bool v) => if v then ev n a s else ev n b s
    | _ => none
  | .block id c, s => match ev n c s with
    | some (.exit j, s') => if j = id then some (.normal, s') else some (.exit j, s')
    | r => r
  | .loop c, s => iter (ev n c) n s
  | .exit id, s => some (.exit id, s)
  | .ret, s => some (.ret, s)
end

/-! ### Functions -/
def extBox (i : Nat) : Nat := 1000000 + i

def initT (args : List Arg) : Nat → DV := fun i =>
  match args[i]? with
  | some (.c x) => .c x
  | some (.agg xs) => .agg xs
  | _ => .undef
def initB (args : List Arg) : Nat → List C := fun b =>
  if b < extBox 0 then [] else match args[b - extBox 0]? with
    | some (.ptr cs) => cs
    | _ => []
def init (args : List Arg) : S := ⟨initT args, initB args⟩

def rvOf (s : S) : RVar → Option RV
  | .tmp t => match s.t t with
    | .c x => some (.c x)
    | .agg xs => some (.agg xs)
    | _ => none
  | .ptr _ b => some (.ptr (s.b b))
  | .cell _ b agg n => if (s.b b).length = n then match oneOrAgg agg (s.b b) with
        | some (.c x) => some (.c x)
        | some (.agg xs) => some (.agg xs)
        | _ => none
      else none

def rvsOf (s : S) : List RVar → Option (List RV)
  | [] => some []
  | r :: l => match rvOf s r, rvsOf s l with
    | some v, some vs => some (v :: vs)
    | _, _ => none

def outOf (io : List (Nat × IoAt)) (s : S) (i : Nat) : Arg → Option (List (List C))
  | .ptr _ => some [s.b (extBox i)]
  | .c _ => match io.lookup i with
    | some .tmp => match s.t i with
      | .c x => some [[x]]
      | _ => none
    | some (.box b) => some [s.b b]
    | none => some []
  | .agg _ => match io.lookup i with
    | some .tmp => match s.t i with
      | .agg xs => some [xs]
      | _ => none
    | some (.box b) => some [s.b b]
    | none => some []

def outsOf (io : List (Nat × IoAt)) (s : S) : Nat → List Arg → Option (List (List C))
  | _, [] => some []
  | i, a :: r => match outOf io s i a, outsOf io s (i + 1) r with
    | some x, some y => some (x ++ y)
    | _, _ => none

def mkRes (fn : Fn') (args : List Arg) (s : S) : Option Res :=
  match rvsOf s fn.res, outsOf fn.io s 0 args with
  | some [v], some outs => some ⟨v, outs⟩
  | some vs, some outs => some ⟨.tup vs, outs⟩
  | _, _ => none

def finish (fn : Fn') (args : List Arg) : Option (Ex × S) → Option Res
  | some (.exit _, _) => none
  | some (_, s) => mkRes fn args s
  | none => none

/-- The table of functions. -/
abbrev Table := Nat → Option Fn'

def calN (D : Table) : Nat → Nat → List Arg → Option Res
  | 0, _, _ => none
  | n + 1, f, args => match D f with
    | some fn => finish fn args (ev (calN D n) n fn.body (init args))
    | none => none
end Go.Opt
/- The data semantics without fuel: calls as a partial function, weakest preconditions, and the laws by which a function's body is walked. -/
set_option linter.unusedVariables false
namespace Go.Opt

abbrev Cl := Nat → List Arg → Option Res
def Cl.le (Φ Ψ : Cl) : Prop := ∀ f a r, Φ f a = some r → Ψ f a = some r

theorem step_mono {Φ Ψ : Cl} (h : Φ.le Ψ) (d : Option Nat) (o : O) (s s' : S) (hs : step Φ d o s = some s') : step Ψ d o s = some s' := by
  cases o with
  | call f args =>
    simp only [step] at hs ⊢
    cases hA : toArgs s args with
    | none => simp [hA] at hs
    | some as =>
      simp only [hA] at hs ⊢
      cases hF : Φ f as with
      | none => simp [hF] at hs
      | some r => simp only [hF] at hs; rw [h _ _ _ hF]; exact hs
  | _ => exact hs

theorem stepG_mono {Φ Ψ : Cl} (h : Φ.le Ψ) (o : Op') (s s' : S) (hs : stepG Φ o s = some s') : stepG Ψ o s = some s' := by
  unfold stepG at hs ⊢
  split at hs
  · exact step_mono h _ _ _ _ hs
  · split at hs
    · split at hs
      · rename_i hb; rw [if_pos hb]; exact step_mono h _ _ _ _ hs
      · rename_i hb; rw [if_neg hb]; exact hs
    · exact hs
    · exact hs

theorem runOps_mono {Φ Ψ : Cl} (h : Φ.le Ψ) : ∀ (ops : List Op') (s s' : S), runOps Φ ops s = some s' → runOps Ψ ops s = some s'
  | [], _, _, hs => hs
  | o :: r, s, s', hs => by
    simp only [runOps] at hs ⊢
    cases h1 : stepG Φ o s with
    | none => simp [h1] at hs
    | some s1 => simp only [h1] at hs; rw [stepG_mono h _ _ _ h1]; exact runOps_mono h r _ _ hs

theorem iter_mono {g g' : S → Option (Ex × S)} (h : ∀ s r, g s = some r → g' s = some r) : ∀ (n m : Nat) (s : S) (r : Ex × S), n ≤ m → iter g n s = some r → iter g' m s = some r
  | 0, _, _, _, _, hr => by simp [iter] at hr
  | n + 1, 0, _, _, hm, _ => by omega
  | n + 1, m + 1, s, r, hm, hr => by
    simp only [iter] at hr ⊢
    cases hg : g s with
    | none => simp [hg] at hr
    | some q =>
      obtain ⟨e, s1⟩ := q
      rw [h _ _ hg]
      cases e with
      | normal => simp only [hg] at hr ⊢; exact iter_mono h n m s1 r (by omega) hr
      | exit id => simp only [hg] at hr ⊢; exact hr
      | ret => simp only [hg] at hr ⊢; exact hr

theorem ev_mono {Φ Ψ : Cl} (h : Φ.le Ψ) {n m : Nat} (hm : n ≤ m) : ∀ (c : Cd) (s : S) (r : Ex × S), ev Φ n c s = some r → ev Ψ m c s = some r
  | .skip, _, _, hr => hr
  | .exit _, _, _, hr => hr
  | .ret, _, _, hr => hr
  | .region d ops, s, r, hr => by
    simp only [ev, Option.map_eq_some_iff] at hr ⊢
    obtain ⟨s', h1, h2⟩ := hr
    exact ⟨s', runOps_mono h _ _ _ h1, h2⟩
  | .seq a b, s, r, hr => by
    simp only [ev] at hr ⊢
    cases ha : ev Φ n a s with
    | none => simp [ha] at hr
    | some q =>
      obtain ⟨e, s1⟩ := q
      rw [ev_mono h hm a _ _ ha]
      cases e with
      | normal => simp only [ha] at hr ⊢; exact ev_mono h hm b _ _ hr
      | exit id => simp only [ha] at hr ⊢; exact hr
      | ret => simp only [ha] at hr ⊢; exact hr
  | .cond x a b, s, r, hr => by
    simp only [ev] at hr ⊢
    split at hr
    · rename_i v hv
      cases v
      · simp only [Bool.false_eq_true, if_false] at hr ⊢; exact ev_mono h hm b _ _ hr
      · simp only [if_true] at hr ⊢; exact ev_mono h hm a _ _ hr
    · simp at hr
  | .block id c, s, r, hr => by
    simp only [ev] at hr ⊢
    cases ha : ev Φ n c s with
    | none => simp [ha] at hr
    | some q => rw [ev_mono h hm c _ _ ha]; rw [ha] at hr; exact hr
  | .loop c, s, r, hr => by
    simp only [ev] at hr ⊢
    exact iter_mono (fun s r => ev_mono h hm c s r) n m s r hm hr

theorem calN_le (D : Table) : ∀ (n m : Nat), n ≤ m → Cl.le (calN D n) (calN D m)
  | 0, _, _ => fun f a r h => by simp [calN] at h
  | n + 1, 0, hm => by omega
  | n + 1, m + 1, hm => fun f a r h => by
    simp only [calN] at h ⊢
    cases hD : D f with
    | none => simp [hD] at h
    | some fn =>
      simp only [hD] at h ⊢
      cases he : ev (calN D n) n fn.body (init a) with
      | none => simp [he, finish] at h
      | some q => rw [ev_mono (calN_le D n m (by omega)) (by omega : n ≤ m) _ _ _ he]; rw [he] at h; exact h

open Classical in
noncomputable def Cal (D : Table) (f : Nat) (a : List Arg) : Option Res :=
  if h : ∃ r n, calN D n f a = some r then some h.choose else none

theorem Cal_iff (D : Table) (f : Nat) (a : List Arg) (r : Res) : Cal D f a = some r ↔ ∃ n, calN D n f a = some r := by
  unfold Cal
  constructor
  · intro h
    split at h
    · rename_i hx
      cases h
      exact hx.choose_spec
    · simp at h
  · rintro ⟨n, hn⟩
    have hx : ∃ r n, calN D n f a = some r := ⟨r, n, hn⟩
    rw [dif_pos hx]
    obtain ⟨m, hm⟩ := hx.choose_spec
    have h1 := calN_le D n (n + m) (by omega) _ _ _ hn
    have h2 := calN_le D m (n + m) (by omega) _ _ _ hm
    rw [h1] at h2
    exact h2.symm

theorem calN_le_Cal (D : Table) (n : Nat) : Cl.le (calN D n) (Cal D) := fun f a r h => (Cal_iff D f a r).2 ⟨n, h⟩

theorem step_Cal {D : Table} {d : Option Nat} {o : O} {s s' : S} (h : step (Cal D) d o s = some s') : ∃ n, step (calN D n) d o s = some s' := by
  cases o with
  | call f args =>
    simp only [step] at h
    cases hA : toArgs s args with
    | none => simp [hA] at h
    | some as =>
      simp only [hA] at h
      cases hF : Cal D f as with
      | none => simp [hF] at h
      | some r =>
        obtain ⟨n, hn⟩ := (Cal_iff _ _ _ _).1 hF
        refine ⟨n, ?_⟩
        simp only [step, hA, hn]
        simp only [hF] at h
        exact h
  | _ => exact ⟨0, h⟩

theorem stepG_Cal {D : Table} {o : Op'} {s s' : S} (h : stepG (Cal D) o s = some s') : ∃ n, stepG (calN D n) o s = some s' := by
  unfold stepG at h ⊢
  split at h
  · exact step_Cal h
  · split at h
    · split at h
      · rename_i hb; obtain ⟨n, hn⟩ := step_Cal h; exact ⟨n, by rw [if_pos hb]; exact hn⟩
      · rename_i hb; exact ⟨0, by rw [if_neg hb]; exact h⟩
    · exact ⟨0, h⟩
    · exact ⟨0, h⟩

theorem runOps_Cal {D : Table} : ∀ {ops : List Op'} {s s' : S}, runOps (Cal D) ops s = some s' → ∃ n, runOps (calN D n) ops s = some s'
  | [], _, _, h => ⟨0, h⟩
  | o :: r, s, s', h => by
    simp only [runOps] at h ⊢
    cases h1 : stepG (Cal D) o s with
    | none => simp [h1] at h
    | some s1 =>
      simp only [h1] at h
      obtain ⟨n, hn⟩ := stepG_Cal h1
      obtain ⟨m, hm⟩ := runOps_Cal h
      refine ⟨n + m, ?_⟩
      rw [stepG_mono (calN_le D n (n + m) (by omega)) _ _ _ hn]
      exact runOps_mono (calN_le D m (n + m) (by omega)) _ _ _ hm

/-! ### Weakest preconditions -/
def onSome {α : Type} (x : Option α) (K : α → Prop) : Prop :=
  match x with
  | some s => K s
  | none => False
theorem onSome_some {α : Type} (s : α) (K : α → Prop) : onSome (some s) K = K s := rfl
theorem onSome_none {α : Type} (K : α → Prop) : onSome (none : Option α) K = False := rfl
theorem onSome_ite {α : Type} (c : Prop) [Decidable c] (x y : Option α) (K : α → Prop) : onSome (if c then x else y) K = if c then onSome x K else onSome y K := by
  split <;> rfl
theorem onSome_map {α β : Type} (f : α → β) (x : Option α) (K : β → Prop) : onSome (x.map f) K = onSome x (fun a => K (f a)) := by
  cases x <;> rfl
theorem onSome_iff {α : Type} (x : Option α) (K : α → Prop) : onSome x K ↔ ∃ s, x = some s ∧ K s := by
  cases x <;> simp [onSome]

def wpo (D : Table) (ops : List Op') (K : S → Prop) (s : S) : Prop := onSome (runOps (Cal D) ops s) K
def wp (D : Table) (c : Cd) (Q : Ex → S → Prop) (s : S) : Prop := ∃ n e s', ev (calN D n) n c s = some (e, s') ∧ Q e s'

theorem wpo_nil (D : Table) (K : S → Prop) (s : S) : wpo D [] K s = K s := rfl
theorem wpo_cons (D : Table) (o : Op') (r : List Op') (K : S → Prop) (s : S) : wpo D (o :: r) K s = onSome (stepG (Cal D) o s) (wpo D r K) := by
  unfold wpo
  simp only [runOps]
  cases stepG (Cal D) o s <;> rfl

section
variable {D : Table} {Q : Ex → S → Prop} {s : S}

theorem wp_mono {c : Cd} {Q' : Ex → S → Prop} (h : wp D c Q s) (hq : ∀ e s, Q e s → Q' e s) : wp D c Q' s :=
  let ⟨n, e, s', h1, h2⟩ := h; ⟨n, e, s', h1, hq _ _ h2⟩

theorem ev_up {c : Cd} {n m : Nat} {r : Ex × S} (hm : n ≤ m) (h : ev (calN D n) n c s = some r) : ev (calN D m) m c s = some r :=
  ev_mono (calN_le D n m hm) hm _ _ _ h

theorem wp_skip : wp D .skip Q s = Q .normal s := by
  apply propext; constructor
  · rintro ⟨n, e, s', h, hq⟩; simp only [ev, Option.some.injEq, Prod.mk.injEq] at h; obtain ⟨rfl, rfl⟩ := h; exact hq
  · intro h; exact ⟨0, _, _, rfl, h⟩
theorem wp_exit (id : Nat) : wp D (.exit id) Q s = Q (.exit id) s := by
  apply propext; constructor
  · rintro ⟨n, e, s', h, hq⟩; simp only [ev, Option.some.injEq, Prod.mk.injEq] at h; obtain ⟨rfl, rfl⟩ := h; exact hq
  · intro h; exact ⟨0, _, _, rfl, h⟩
theorem wp_ret : wp D .ret Q s = Q .ret s := by
  apply propext; constructor
  · rintro ⟨n, e, s', h, hq⟩; simp only [ev, Option.some.injEq, Prod.mk.injEq] at h; obtain ⟨rfl, rfl⟩ := h; exact hq
  · intro h; exact ⟨0, _, _, rfl, h⟩

theorem wp_region (d : Bool) (ops : List Op') : wp D (.region d ops) Q s = wpo D ops (fun s' => Q .normal s') s := by
  apply propext; constructor
  · rintro ⟨n, e, s', h, hq⟩
    simp only [ev, Option.map_eq_some_iff, Prod.mk.injEq] at h
    obtain ⟨s1, h1, rfl, rfl⟩ := h
    unfold wpo
    have := runOps_mono (calN_le_Cal D n) _ _ _ h1
    rw [this]
    exact hq
  · intro h
    unfold wpo at h
    obtain ⟨s1, h1, h2⟩ := (onSome_iff _ _).1 h
    obtain ⟨n, hn⟩ := runOps_Cal h1
    exact ⟨n, .normal, s1, by simp only [ev, Option.map_eq_some_iff]; exact ⟨s1, hn, rfl⟩, h2⟩

theorem wp_seq (a b : Cd) : wp D (.seq a b) Q s = wp D a (fun e s' => match e with | .normal => wp D b Q s' | e => Q e s') s := by
  apply propext; constructor
  · rintro ⟨n, e, s', h, hq⟩
    simp only [ev] at h
    cases ha : ev (calN D n) n a s with
    | none => simp [ha] at h
    | some q =>
      obtain ⟨e1, s1⟩ := q
      refine ⟨n, e1, s1, ha, ?_⟩
      cases e1 with
      | normal => simp only [ha] at h; exact ⟨n, e, s', h, hq⟩
      | exit id => simp only [ha, Option.some.injEq, Prod.mk.injEq] at h; obtain ⟨rfl, rfl⟩ := h; exact hq
      | ret => simp only [ha, Option.some.injEq, Prod.mk.injEq] at h; obtain ⟨rfl, rfl⟩ := h; exact hq
  · rintro ⟨n, e, s1, h, hq⟩
    cases e with
    | normal =>
      obtain ⟨m, e, s', h2, hq⟩ := hq
      refine ⟨n + m, e, s', ?_, hq⟩
      simp only [ev]
      rw [ev_up (by omega : n ≤ n + m) h]
      exact ev_up (by omega : m ≤ n + m) h2
    | exit id => exact ⟨n, _, _, by simp only [ev]; rw [h], hq⟩
    | ret => exact ⟨n, _, _, by simp only [ev]; rw [h], hq⟩

theorem wp_cond (x : X) (a b : Cd) : wp D (.cond x a b) Q s = (match x.ev s.t with | .c (.bool v) => if v then wp D a Q s else wp D b Q s | _ => False) := by
  apply propext; constructor
  · rintro ⟨n, e, s', h, hq⟩
    simp only [ev] at h
    split at h
    · rename_i v hv
      try rw [hv]
      cases v
      · simp only [Bool.false_eq_true, if_false] at h ⊢; exact ⟨n, e, s', h, hq⟩
      · simp only [if_true] at h ⊢; exact ⟨n, e, s', h, hq⟩
    · simp at h
  · intro h
    split at h
    · rename_i v hv
      cases v
      · simp only [Bool.false_eq_true, if_false] at h
        obtain ⟨n, e, s', h, hq⟩ := h
        exact ⟨n, e, s', by simp only [ev, hv]; simpa using h, hq⟩
      · simp only [if_true] at h
        obtain ⟨n, e, s', h, hq⟩ := h
        exact ⟨n, e, s', by simp only [ev, hv]; simpa using h, hq⟩
    · exact h.elim

theorem wp_block (id : Nat) (c : Cd) : wp D (.block id c) Q s = wp D c (fun e s' => match e with | .exit j => if j = id then Q .normal s' else Q (.exit j) s' | e => Q e s') s := by
  apply propext; constructor
  · rintro ⟨n, e, s', h, hq⟩
    simp only [ev] at h
    cases ha : ev (calN D n) n c s with
    | none => simp [ha] at h
    | some q =>
      obtain ⟨e1, s1⟩ := q
      refine ⟨n, e1, s1, ha, ?_⟩
      cases e1 with
      | normal => simp only [ha, Option.some.injEq, Prod.mk.injEq] at h; obtain ⟨rfl, rfl⟩ := h; exact hq
      | ret => simp only [ha, Option.some.injEq, Prod.mk.injEq] at h; obtain ⟨rfl, rfl⟩ := h; exact hq
      | exit j =>
        simp only [ha] at h ⊢
        by_cases hj : j = id
        · simp only [hj, if_true, Option.some.injEq, Prod.mk.injEq] at h ⊢; obtain ⟨rfl, rfl⟩ := h; exact hq
        · simp only [hj, if_false, Option.some.injEq, Prod.mk.injEq] at h ⊢; obtain ⟨rfl, rfl⟩ := h; exact hq
  · rintro ⟨n, e, s1, h, hq⟩
    cases e with
    | normal => exact ⟨n, _, _, by simp only [ev]; rw [h], hq⟩
    | ret => exact ⟨n, _, _, by simp only [ev]; rw [h], hq⟩
    | exit j =>
      simp only at hq
      by_cases hj : j = id
      · simp only [hj, if_true] at hq; exact ⟨n, _, _, by simp only [ev]; rw [h]; simp [hj], hq⟩
      · simp only [hj, if_false] at hq; exact ⟨n, _, _, by simp only [ev]; rw [h]; simp [hj], hq⟩

theorem wp_loop (c : Cd) : wp D (.loop c) Q s = wp D c (fun e s' => match e with | .normal => wp D (.loop c) Q s' | e => Q e s') s := by
  apply propext; constructor
  · rintro ⟨n, e, s', h, hq⟩
    simp only [ev] at h
    cases n with
    | zero => simp [iter] at h
    | succ n =>
      simp only [iter] at h
      cases ha : ev (calN D (n + 1)) (n + 1) c s with
      | none => simp [ha] at h
      | some q =>
        obtain ⟨e1, s1⟩ := q
        refine ⟨n + 1, e1, s1, ha, ?_⟩
        cases e1 with
        | normal =>
          simp only [ha] at h
          exact ⟨n + 1, e, s', by simp only [ev]; exact iter_mono (fun _ _ h => h) n (n + 1) _ _ (by omega) h, hq⟩
        | exit id => simp only [ha, Option.some.injEq, Prod.mk.injEq] at h; obtain ⟨rfl, rfl⟩ := h; exact hq
        | ret => simp only [ha, Option.some.injEq, Prod.mk.injEq] at h; obtain ⟨rfl, rfl⟩ := h; exact hq
  · rintro ⟨n, e, s1, h, hq⟩
    cases e with
    | normal =>
      obtain ⟨m, e, s', h2, hq⟩ := hq
      refine ⟨n + m + 1, e, s', ?_, hq⟩
      simp only [ev, iter]
      rw [ev_up (by omega : n ≤ n + m + 1) h]
      simp only [ev] at h2
      exact iter_mono (fun s r h => ev_up (by omega : m ≤ n + m + 1) h) m (n + m) _ _ (by omega) h2
    | exit id => exact ⟨n + 1, _, _, by simp only [ev, iter]; rw [ev_up (by omega : n ≤ n + 1) h], hq⟩
    | ret => exact ⟨n + 1, _, _, by simp only [ev, iter]; rw [ev_up (by omega : n ≤ n + 1) h], hq⟩

/-- A loop by what holds at each round's head, and a number that each round lowers. -/
theorem wp_loop_inv {c : Cd} (I : Nat → S → Prop)
    (h : ∀ m s, I m s → wp D c (fun e s' => match e with | .normal => ∃ m', m' < m ∧ I m' s' | e => Q e s') s) : ∀ m s, I m s → wp D (.loop c) Q s := by
  intro m
  induction m using Nat.strongRecOn with
  | _ m ih =>
    intro s hI
    rw [wp_loop]
    refine wp_mono (h m s hI) ?_
    intro e s' hq
    cases e with
    | normal => obtain ⟨m', hm, hI'⟩ := hq; exact ih m' hm s' hI'
    | exit id => exact hq
    | ret => exact hq

end

theorem Cal_of_wp {D : Table} {f : Nat} {fn : Fn'} {a : List Arg} {r : Res} (hD : D f = some fn)
    (h : wp D fn.body (fun e s' => finish fn a (some (e, s')) = some r) (init a)) : Cal D f a = some r := by
  obtain ⟨n, e, s', h1, h2⟩ := h
  refine (Cal_iff _ _ _ _).2 ⟨n + 1, ?_⟩
  simp only [calN, hD, h1, h2]
end Go.Opt
/- When a text of the small language says what the Go program's code says: types resolved, functions renumbered. -/
set_option linter.unusedVariables false
namespace Go.Opt

def elemOf (P : Program) (t : TypeId) : Option TypeId :=
  match P.underlying t with
  | some (.slice e) => some e
  | _ => none

def isAggT (P : Program) (t : TypeId) : Bool :=
  match P.underlying t with
  | some (.struct _) | some (.array _ _) => true
  | _ => false

mutual
def kindsOf (P : Program) : Nat → TypeId → Option (List K)
  | 0, _ => none
  | n + 1, t =>
    match P.underlying t with
    | some .bool => some [.bool]
    | some (.int k) => some [.int k]
    | some .string => some [.str]
    | some (.slice e) => some [.sl (P.cellsOf e)]
    | some (.struct fs) => kindsOfs P n 0 fs.toList
    | _ => none
def kindsOfs (P : Program) : Nat → Nat → List Field → Option (List K)
  | 0, _, _ => none
  | _ + 1, _, [] => some []
  | n + 1, off, f :: r =>
    match kindsOf P n f.type with
    | some ks => if f.offset = off ∧ 0 < ks.length then match kindsOfs P n (off + ks.length) r with
        | some l => some (ks ++ l)
        | none => none
      else none
    | none => none
end
def depthK : Nat := 200

def K.fits : K → Value → Bool
  | .int k, .int k' n => k == k' && n == 0
  | .bool, .bool b => !b
  | .str, .string s => s.data.isEmpty
  | .sl _, .slice none 0 0 => true
  | _, _ => false

def fitsAll : List K → List Value → Bool
  | [], [] => true
  | k :: r, v :: l => k.fits v && fitsAll r l
  | _, _ => false

/-- The kinds of a type's cells; the type's size and zero are as they say. -/
def kinds (P : Program) (t : TypeId) : Option (List K) :=
  match kindsOf P depthK t, P.info? t with
  | some ks, some i =>
    if i.size = ks.length ∧ 0 < ks.length then match i.zero with
      | some z => if fitsAll ks z.cells.toList then some ks else none
      | none => none
    else none
  | _, _ => none

def normX (P : Program) (t : TypeId) : Operand → Option X
  | .tmp n => some (.t n)
  | .const (.int k n) => some (.int k n)
  | .const (.bool b) => some (.bool b)
  | .const (.string s) => some (.str s.data.toList)
  | .const (.slice none 0 0) => match elemOf P t with
    | some e => some (.nil (P.cellsOf e))
    | none => none
  | _ => none

def normXs (P : Program) : List (TypeId × Operand) → Option (List X)
  | [] => some []
  | (t, x) :: r => match normX P t x, normXs P r with
    | some x, some l => some (x :: l)
    | _, _ => none

def normO (P : Program) (t : TypeId) : Option Operand → Option (Option X)
  | none => some none
  | some x => (normX P t x).map some

def fieldOf (P : Program) (t : TypeId) (i : Nat) : Option Field :=
  match P.underlying t with
  | some (.struct fs) => fs[i]?
  | _ => none

def normParts (P : Program) (t : TypeId) : List (Nat × Operand) → Option (List (Nat × Nat × X))
  | [] => some []
  | (i, x) :: r => match fieldOf P t i with
    | some f => match normX P f.type x, normParts P t r with
      | some x, some l => some ((f.offset, P.cellsOf f.type, x) :: l)
      | _, _ => none
    | none => none

/-- The fields' types are known. -/
def partsInfo (P : Program) (t : TypeId) : Bool :=
  match P.underlying t with
  | some (.struct fs) => fs.toList.all fun f => (P.info? f.type).isSome
  | _ => false

def normRows (P : Program) (e : TypeId) : List (Nat × Operand) → Option (List (Nat × X))
  | [] => some []
  | (i, x) :: r => match normX P e x, normRows P e r with
    | some x, some l => some ((i, x) :: l)
    | _, _ => none

def sameX : Operand → Operand → Bool
  | .tmp a, .tmp b => a == b
  | .const (.int k a), .const (.int k' b) => k == k' && a == b
  | _, _ => false

/-- Types that are compared, or reckoned with: scalars; structs of scalars. -/
def plainT (P : Program) (t : TypeId) : Bool :=
  match P.underlying t with
  | some .bool | some (.int _) | some .string => true
  | _ => false
def aggEqT (P : Program) (t : TypeId) : Bool :=
  match P.underlying t with
  | some (.struct fs) => !P.stoodInHeld t && !P.eqGuardType P.depth t && fs.toList.map (·.offset) == List.range' 0 fs.toList.length && fs.toList.all fun f => f.name != "_" && plainT P f.type
  | _ => false
def eqNeg : BinOp → Option Bool
  | .eql => some false
  | .neq => some true
  | _ => none

/-- What the renumbering is. -/
abbrev Names := FuncId → Option Nat

/-- An operation that neither makes a pointer nor follows one. -/
def normOp (P : Program) (ty : TypeId) : Op → Option O
  | .assign (.const (.pointer none)) => some .zap
  | .move x | .assign x => (normX P ty x).map .mov
  | .pick c a b => match normX P ty c, normX P ty a, normX P ty b with
    | some c, some a, some b => some (.pick c a b)
    | _, _, _ => none
  | .alloc t => (kinds P t).map .alloc
  | .box t x => match kinds P t, normX P t x with
    | some ks, some x => some (.box ks.length x)
    | _, _ => none
  | .build t ps => match isAggT P t && partsInfo P t, kinds P t, normParts P t ps.toList with
    | true, some ks, some l => some (.build ks l)
    | _, _, _ => none
  | .buildSlice t n ps => match elemOf P t with
    | some e => match kinds P e, normRows P e ps.toList with
      | some ks, some l => if n * ks.length ≤ 1000 then some (.bslice ks n l) else none
      | _, _ => none
    | none => none
  | .binOp op t x y u => match normX P t x, normX P u y with
    | some x, some y => match P.underlying t with
      | some .bool => (eqNeg op).map fun n => .beq n x y
      | some (.struct _) => match eqNeg op, kinds P t, aggEqT P t with
        | some n, some ks, true => some (.aeq n ks x y)
        | _, _, _ => none
      | some (.int _) | some .string => some (.bin op x y)
      | _ => none
    | _, _ => none
  | .unOp op t x => (normX P t x).map (.un op)
  | .convert s d x => match P.underlying s, P.underlying d, normX P s x with
    | some (.int _), some (.int k), some x => some (.conv k x)
    | some (.slice e), some .string, some x => match P.underlying e with
      | some (.int .u8) => some (.b2s x)
      | _ => none
    | _, _, _ => none
  | .field s x i => match fieldOf P s i, normX P s x with
    | some f, some x => match kinds P f.type with
      | some ks => some (.field (isAggT P f.type) f.offset ks.length x)
      | none => none
    | _, _ => none
  | .index t x i => match P.underlying t, normX P t x, normX P 0 i with
    | some .string, some x, some i => some (.sidx x i)
    | _, _, _ => none
  | .extract (.tmp n) i => some (.extr (.t n) i)
  | .slice t x lo hi mx => match P.underlying t, normX P t x, normO P 0 lo, normO P 0 hi, normO P 0 mx with
    | some .string, some x, some lo, some hi, some none => some (.sslc x lo hi)
    | some (.slice e), some x, some lo, some hi, some mx => if (P.info? e).isNone || (mx.isSome && hi.isNone) then none else some (.slc (P.cellsOf e) x lo hi mx)
    | _, _, _, _, _ => none
  | .makeSlice t l c => match elemOf P t, normX P 0 l with
    | some e, some l' => match kinds P e with
      | some ks => if sameX l c then some (.mks ks (P.bytesOf e) l') else none
      | none => none
    | _, _ => none
  | .call c => match c.callee, c.args.toList, c.argTypes.toList with
    | .builtin .len, [x], [t] => match P.underlying t with
      | some (.slice _) => (normX P t x).map .len
      | some .string => (normX P t x).map .slen
      | _ => none
    | .builtin .append, [x, y], [t, u] => match elemOf P t, normX P t x, normX P u y with
      | some e, some x, some y => match kinds P e with
        | some ks => match P.underlying u with
          | some .string => if ks = [.int .u8] then some (.apps (P.bytesOf e) x y) else none
          | some (.slice e') => if P.cellsOf e' = ks.length then some (.app ks (P.bytesOf e) x y) else none
          | _ => none
        | none => none
      | _, _, _ => none
    | .builtin .max, [x, y], [t, u] => match normX P t x, normX P u y with
      | some x, some y => some (.mx x y)
      | _, _ => none
    | .builtin .min, [x, y], [t, u] => match normX P t x, normX P u y with
      | some x, some y => some (.mn x y)
      | _, _ => none
    | _, _, _ => none
  | _ => none

def argOk (P : Program) (t : TypeId) (x : Operand) : AX → Bool
  | .v y => normX P t x == some y
  | .io y _ _ => normX P t x == some y
  | .p a _ => match x with
    | .tmp n => n == a
    | _ => false

def argsOk (P : Program) : List TypeId → List Operand → List AX → Bool
  | [], [], [] => true
  | t :: ts, x :: xs, a :: as => argOk P t x a && argsOk P ts xs as
  | _, _, _ => false

def isTmp (x : Operand) (n : Nat) : Bool :=
  match x with
  | .tmp m => m == n
  | _ => false

def opOk (P : Program) (N : Names) (ty : TypeId) (op : Op) (o : O) : Bool :=
  match op, o with
  | .move x, .adr src off _ | .assign x, .adr src off _ | .nilCheck x, .adr src off _ => isTmp x src && off == 0
  | .fieldAddr s x i, .adr src off _ => match fieldOf P s i with
    | some f => isTmp x src && off == f.offset && decide (0 < P.cellsOf f.type)
    | none => false
  | .indexAddr t x i, .iadr sz y j _ => match elemOf P t with
    | some e => normX P t x == some y && normX P 0 i == some j && sz == P.cellsOf e && (P.info? e).isSome
    | none => false
  | .load t a, .ldB agg ks a' _ _ => isTmp a a' && kinds P t == some ks && isAggT P t == agg
  | .load t a, .ldE agg ks a' _ _ => isTmp a a' && kinds P t == some ks && isAggT P t == agg
  | .store t a x, .stB n a' _ _ y => match kinds P t with
    | some ks => isTmp a a' && ks.length == n && normX P t x == some y
    | none => false
  | .store t a x, .stE n a' _ _ y => match kinds P t with
    | some ks => isTmp a a' && ks.length == n && normX P t x == some y
    | none => false
  | .call c, .call g as => match c.callee with
    | .value (.func f) => N f == some g && argsOk P c.argTypes.toList c.args.toList as
    | _ => false
  | .call c, o => match c.callee with
    | .builtin _ => normOp P ty (.call c) == some o
    | _ => false
  | op, o => normOp P ty op == some o

def guardOk (ops : Array Oper) (g : Option (Nat × Bool)) (h : Option (Nat × Bool)) : Bool :=
  match g, h with
  | none, none => true
  | some (j, b), some (t, b') => (ops[j]?).bind (·.dst) == some t && b == b'
  | _, _ => false

def afterOk (o : Oper) (l : List Nat) : Bool := (o.after.toList.filter (Region.binds .any)).map (·.on) == l

def operOk (P : Program) (N : Names) (ops : Array Oper) (draw : Bool) (o : Oper) (q : Op') : Bool :=
  opOk P N o.type o.op q.op && o.dst == q.dst && (match q.op with | .stB .. | .stE .. => q.dst == none | _ => true) && guardOk ops o.guard q.guard && (!draw || afterOk o q.after)

def opersOk (P : Program) (N : Names) (ops : Array Oper) (draw : Bool) : List Oper → List Op' → Bool
  | [], [] => true
  | o :: r, q :: l => operOk P N ops draw o q && opersOk P N ops draw r l
  | _, _ => false

def cdOk (P : Program) (N : Names) : Code → Cd → Bool
  | .skip, .skip => true
  | .region _ ops draw, .region d l => draw == d && opersOk P N ops draw ops.toList l
  | .seq a b, .seq a' b' => cdOk P N a a' && cdOk P N b b'
  | .cond c a b, .cond x a' b' => normX P 0 c == some x && cdOk P N a a' && cdOk P N b b'
  | .block id c, .block id' c' => id == id' && cdOk P N c c'
  | .loop c, .loop c' => cdOk P N c c'
  | .exit id, .exit id' => id == id'
  | .ret, .ret => true
  | _, _ => false

def resOk (P : Program) : ResultVar → RVar → Bool
  | .tmp t, .tmp t' => t == t'
  | .tmp t, .ptr t' _ => t == t'
  | .cell a t, .cell a' _ agg n => match kinds P t with
    | some ks => a == a' && agg == isAggT P t && n == ks.length
    | none => false
  | _, _ => false

def ressOk (P : Program) : List ResultVar → List RVar → Bool
  | [], [] => true
  | r :: l, r' :: l' => resOk P r r' && ressOk P l l'
  | _, _ => false

def fnOk (P : Program) (N : Names) (fn : Func) (q : Fn') : Bool :=
  match fn.body with
  | some c => cdOk P N c q.body && ressOk P fn.results.toList q.res && fn.ntmps == q.ntmps && !(fn.name == "runtime.NumGoroutine")
  | none => false
end Go.Opt
/- The static check: which slices a function owns alone, which pointers and copies it holds at each point. Run by the kernel. -/
set_option linter.unusedVariables false
namespace Go.Opt

/-- What is known of a cell: the classes of memory that it may reach ('deps': all must be alive); how much of it is the holder's alone: 0 nothing, 1 the slice's own row, 2 all that it reaches. -/
structure CM where
  deps : List Nat
  own : Nat
deriving DecidableEq, Repr

def CM.free : CM := ⟨[], 2⟩

inductive M where
  | dead
  | c (m : CM)
  | agg (ms : List CM)
  | tup (ms : List (Bool × List CM))
deriving DecidableEq, Repr

/-- How a cell is handed over: a scalar, shared, owned. -/
inductive BM where
  | sc | sh | ow
deriving DecidableEq, Repr

inductive AM where
  | v (ms : List BM)
  | io (ms : List BM)
  | p (ins outs : List BM)
deriving DecidableEq, Repr

inductive RM where
  | v (agg : Bool) (ms : List BM)
  | p (ms : List BM)
deriving DecidableEq, Repr

/-- 'aggs': is the parameter a struct? -/
structure Sg where
  args : List AM
  res : List RM
  aggs : List Bool
deriving DecidableEq, Repr

structure SS where
  t : Nat → M
  b : Nat → Option (List CM)
  p : Nat → Option (Ptr × Option (Nat × Bool))
  a : Nat → Option (Place × PathX)
  L : Nat → Bool
  U : Nat → Bool

def alive (L : Nat → Bool) (m : CM) : Bool := m.deps.all L
def alives (L : Nat → Bool) (ms : List CM) : Bool := ms.all (alive L)

def XM (s : SS) : X → M
  | .t n => s.t n
  | _ => .c .free

def M.cells : M → Option (List CM)
  | .c m => some [m]
  | .agg ms => some ms
  | _ => none

def X.tmps : X → List Nat
  | .t n => [n]
  | _ => []
def pathTmps (q : PathX) : List Nat := q.flatMap fun (x, _) => x.tmps
def Place.tmps : Place → List Nat
  | .tmp t => [t]
  | _ => []
def Place.boxes : Place → List Nat
  | .box b _ => [b]
  | _ => []
def Ptr.tmps : Ptr → List Nat
  | .box _ _ => []
  | .el p q => p.tmps ++ pathTmps q
def gTmps : Option (Nat × Bool) → List Nat
  | some (g, _) => [g]
  | none => []
def Ptr.boxes : Ptr → List Nat
  | .box _ _ => []
  | .el p _ => p.boxes

/-- A variable is written: what leans on its old value is forgotten. -/
def SS.cutT (s : SS) (n : Nat) : SS :=
  { s with
    p := fun k => match s.p k with
      | some (q, g) => if k = n ∨ n ∈ q.tmps ∨ n ∈ gTmps g then none else some (q, g)
      | none => none
    a := fun k => match s.a k with
      | some (r, q) => if k = n ∨ n ∈ r.tmps ∨ n ∈ pathTmps q then none else some (r, q)
      | none => none }
/-- A box is written (not its address): what leans on its cells is forgotten. -/
def SS.cutB (s : SS) (b : Nat) : SS :=
  { s with
    p := fun k => match s.p k with
      | some (q, g) => if b ∈ q.boxes then none else some (q, g)
      | none => none
    a := fun k => match s.a k with
      | some (r, q) => if b ∈ r.boxes then none else some (r, q)
      | none => none }
/-- A box is made anew: its old address is forgotten, too. -/
def SS.cutA (s : SS) (b : Nat) : SS :=
  let s := s.cutB b
  { s with
    p := fun k => match s.p k with
      | some (.box b' o, g) => if b' = b then none else some (.box b' o, g)
      | q => q }

def SS.put (s : SS) (d : Option Nat) (m : M) : SS :=
  match d with
  | some d => { s.cutT d with t := upd s.t d m }
  | none => s
def SS.putP (s : SS) (d : Option Nat) (q : Ptr × Option (Nat × Bool)) : SS :=
  match d with
  | some d => let s' := s.cutT d; { s' with t := upd s.t d .dead, p := upd s'.p d (some q) }
  | none => s
def SS.putA (s : SS) (d : Option Nat) (m : M) (q : Option (Place × PathX)) : SS :=
  match d with
  | some d => let s' := s.cutT d
    { s' with
      t := upd s.t d m
      a := upd s'.a d (match q with
        | some (r, l) => if d ∈ r.tmps ∨ d ∈ pathTmps l then none else some (r, l)
        | none => none) }
  | none => s

/-- A fresh class. -/
def SS.fresh (s : SS) (e : Nat) : Option SS :=
  if s.U e then none else some { s with L := upd s.L e true, U := upd s.U e true }
def SS.kill (s : SS) (es : List Nat) : SS := { s with L := fun e => s.L e && !es.contains e }

def overlaps (a b : List Nat) : Bool := a.any b.contains

/-- The classes of the cells that are owned whole. -/
def owned (ms : List CM) : List Nat := ms.flatMap fun m => if 2 ≤ m.own then m.deps else []

/-- Cells laid over others: what both would own is owned by none of the new ones. -/
def layM (l : List CM) (k : Nat) (ms : List CM) : List CM :=
  let others := owned (l.take k) ++ owned (l.drop (k + ms.length))
  l.take k ++ ms.map (fun m => if 2 ≤ m.own ∧ overlaps m.deps others then { m with own := 0 } else m) ++ l.drop (k + ms.length)

def modeAt (s : SS) : Place → Option CM
  | .tmp t => match s.t t with
    | .c m => some m
    | _ => none
  | .box b j => match s.b b with
    | some ms => ms[j]?
    | none => none

/-- A cell of a place gets another mode; what leans on the place is forgotten. -/
def SS.setMode (s : SS) (p : Place) (m : CM) : SS :=
  match p with
  | .tmp t => { s.cutT t with t := upd s.t t (.c m) }
  | .box b j => match s.b b with
    | some ms => { s.cutB b with b := upd s.b b (some (layM ms j [m])) }
    | none => s

def oneOrAggM (agg : Bool) (ms : List CM) : Option M :=
  if agg then some (.agg ms) else match ms with
    | [m] => some (.c m)
    | _ => none

def atom (d : Nat) (k : Nat) : Nat := (d + 1) * 4096 + k

def partsM (s : SS) : List (Nat × Nat × X) → List CM → Option (List CM)
  | [], l => some l
  | (off, n, x) :: r, l => match (XM s x).cells with
    | some ms => if ms.length = n ∧ off + n ≤ l.length ∧ alives s.L ms then partsM s r (layM l off ms) else none
    | none => none

/-- The elements' cells: all alive; all classes; whether all are owned whole, each class once. -/
def rowsM (s : SS) (n : Nat) : List (Nat × X) → Option (List Nat × Bool)
  | [] => some ([], true)
  | (_, x) :: r => match (XM s x).cells, rowsM s n r with
    | some ms, some (ds, ok) =>
      if ms.length = n ∧ alives s.L ms then
        let d := ms.flatMap (·.deps)
        some (d ++ ds, ok && ms.all (fun m => 2 ≤ m.own) && !overlaps d ds)
      else none
    | _, _ => none

def avoids (d : Option Nat) (q : Ptr) (g : Option (Nat × Bool)) : Bool :=
  match d with
  | some d => !q.tmps.contains d && !(gTmps g).contains d
  | none => false

/-- A pointer is held, for an operation under a guard: it was made under no guard, or under this one. -/
def SS.holds (s : SS) (g : Option (Nat × Bool)) (a : Nat) (q : Ptr) : Bool :=
  match s.p a with
  | some (r, none) => r == q
  | some (r, some h) => r == q && g == some h
  | none => false

def scalarX (s : SS) (x : X) : Bool :=
  match XM s x with
  | .c m => m.deps == []
  | _ => false
def memX (s : SS) (x : X) : Bool :=
  match XM s x with
  | .c m => alive s.L m
  | _ => false

def scalarO (s : SS) : Option X → Bool
  | none => true
  | some x => scalarX s x

def pathOk (s : SS) (q : PathX) : Bool := q.all fun (x, _) => scalarX s x

/-- Owned cells that are handed over: their classes, if they are owned whole. -/
def takeO (L : Nat → Bool) : List BM → List CM → Option (List Nat)
  | [], [] => some []
  | .ow :: r, m :: ms => match takeO L r ms with
    | some l => if 2 ≤ m.own ∧ alive L m then some (m.deps ++ l) else none
    | none => none
  | .sh :: r, m :: ms => match takeO L r ms with
    | some l => if alive L m then some l else none
    | none => none
  | .sc :: r, m :: ms => match takeO L r ms with
    | some l => if 2 ≤ m.own ∧ m.deps = [] then some l else none
    | none => none
  | _, _ => none
/-- Shared cells that are handed over: their classes. -/
def takeS : List BM → List CM → List Nat
  | .sh :: r, m :: ms => m.deps ++ takeS r ms
  | _ :: r, _ :: ms => takeS r ms
  | _, _ => []

/-- The arguments: the classes that the callee takes over (each once), those that it only reads. -/
def argsM (s : SS) (g : Option (Nat × Bool)) : List AM → List AX → Option (List Nat × List Nat)
  | [], [] => some ([], [])
  | m :: ms, x :: xs => match argsM s g ms xs with
    | none => none
    | some (os, ss) =>
      match m, x with
      | .v bs, .v x => match (XM s x).cells with
        | some cs => match takeO s.L bs cs with
          | some o => if overlaps o os then none else some (o ++ os, takeS bs cs ++ ss)
          | none => none
        | none => none
      | .io bs, .io x p q => match (XM s x).cells with
        | some cs => match takeO s.L bs cs with
          | some o => if overlaps o os then none else
            let at_ : Bool := match x with
              | .t n => s.a n == some (p, q) || (s.a n == none && p == .tmp n && q == [])
              | _ => false
            if at_ && bs.all (· != .sh) && pathOk s q then some (o ++ os, ss) else none
          | none => none
        | none => none
      | .p ins _, .p a b => match s.b b with
        | some cs => match takeO s.L ins cs with
          | some o => if overlaps o os then none else if s.holds g a (.box b 0) then some (o ++ os, takeS ins cs ++ ss) else none
          | none => none
        | none => none
      | _, _ => none
  | _, _ => none

/-- The modes of cells that come back: owned ones get classes of their own. -/
def backM (e : Nat) (sh : List Nat) : Nat → List BM → List CM
  | _, [] => []
  | j, .ow :: r => ⟨[e + j], 2⟩ :: backM e sh (j + 1) r
  | j, .sh :: r => ⟨sh, 0⟩ :: backM e sh (j + 1) r
  | j, .sc :: r => .free :: backM e sh (j + 1) r
def backE (e : Nat) : Nat → List BM → List Nat
  | _, [] => []
  | j, .ow :: r => (e + j) :: backE e (j + 1) r
  | j, _ :: r => backE e (j + 1) r

def SS.freshs (s : SS) : List Nat → Option SS
  | [] => some s
  | e :: r => match s.fresh e with
    | some s => s.freshs r
    | none => none

/-- The classes of what is changed through pointers; its boxes. 'k': the argument's number. (Arguments that are changed in place are not taken here.) -/
def AM.outs : AM → List BM
  | .p _ outs => outs
  | .v _ => []
  | .io bs => bs
def outE (d : Nat) : Nat → List AM → List Nat
  | _, [] => []
  | k, m :: ms => backE (atom d (64 * (k + 1))) 0 m.outs ++ outE d (k + 1) ms
def outB (d : Nat) (sh : List Nat) : Nat → List AM → List AX → SS → SS
  | k, m :: ms, .p _ b :: xs, s => outB d sh (k + 1) ms xs { s.cutB b with b := upd s.b b (some (backM (atom d (64 * (k + 1))) sh 0 m.outs)) }
  | k, _ :: ms, _ :: xs, s => outB d sh (k + 1) ms xs s
  | _, _, _, s => s

def resM (d : Nat) (sh : List Nat) : Nat → List RM → List (Bool × List CM)
  | _, [] => []
  | k, .v agg bs :: r => (agg, backM (atom d (64 * (k + 20))) sh 0 bs) :: resM d sh (k + 1) r
  | k, .p bs :: r => (true, backM (atom d (64 * (k + 20))) sh 0 bs) :: resM d sh (k + 1) r
def resE (d : Nat) : Nat → List RM → List Nat
  | _, [] => []
  | k, .v _ bs :: r => backE (atom d (64 * (k + 20))) 0 bs ++ resE d (k + 1) r
  | k, .p bs :: r => backE (atom d (64 * (k + 20))) 0 bs ++ resE d (k + 1) r

def AX.pb : AX → List Nat
  | .p _ b => [b]
  | _ => []
def AX.isIo : AX → Bool
  | .io _ _ _ => true
  | _ => false
def RM.isV : RM → Bool
  | .v _ _ => true
  | .p _ => false
/-- A call's boxes: handed over once each, none of those that are never stored into. -/
def callOk (ro : List Nat) (sg : Sg) (args : List AX) : Bool :=
  let bs := args.flatMap AX.pb
  decide bs.Nodup && bs.all (!ro.contains ·) && args.all (!AX.isIo ·) && sg.res.all RM.isV

/-- Structs where structs are expected. -/
def aggsOk (s : SS) : List Bool → List AX → Bool
  | [], [] => true
  | g :: gs, .v x :: xs => (match XM s x with
    | .c _ => !g
    | .agg _ => g
    | _ => false) && aggsOk s gs xs
  | _ :: gs, _ :: xs => aggsOk s gs xs
  | _, _ => false

section
variable (G : Nat → Option Sg) (ro : List Nat)

def sstep (g : Option (Nat × Bool)) (d : Option Nat) (o : O) (s : SS) : Option SS :=
  match o with
  | .zap => some (s.put d .dead)
  | .adr src off q =>
    match s.p src with
    | none => none
    | some (r, h) =>
      let r' := match r with
        | .box b o => some (Ptr.box b (o + off))
        | .el p l => match l.getLast? with
          | some (x, k) => some (Ptr.el p (l.dropLast ++ [(x, k + off)]))
          | none => none
      if r' = some q ∧ (h = none ∨ h = g) ∧ avoids d q g then some (s.putP d (q, g)) else none
  | .mov x =>
    match XM s x with
    | .dead => none
    | m => match x with
      | .t n => some (s.putA d m (match s.a n with | some q => some q | none => some (.tmp n, [])))
      | _ => some (s.put d m)
  | .iadr sz x i q =>
    match x, XM s x with
    | .t n, .c m =>
      let (r, l) := (s.a n).getD (.tmp n, [])
      if scalarX s i ∧ q = .el r (l ++ [(i, 0)]) ∧ avoids d q g then some (s.putP d (q, g)) else none
    | _, _ => none
  | .pick c a b =>
    if scalarX s c then
      match XM s a, XM s b with
      | .c m, .c n => if alive s.L m ∧ alive s.L n then some (s.put d (.c ⟨m.deps ++ n.deps, if 2 ≤ m.own ∧ 2 ≤ n.own then 2 else 0⟩)) else none
      | _, _ => some (s.put d .dead)
    else none
  | .alloc ks =>
    match d with
    | some n =>
      let s := s.cutA n
      let s := s.put d .dead
      some { s with b := upd s.b n (some (ks.map fun _ => .free)), p := upd s.p n (some (.box n 0, none)) }
    | none => none
  | .box n x =>
    match d, (XM s x).cells with
    | some k, some ms => if ms.length = n ∧ alives s.L ms then
        let s := s.cutA k
        let s := s.put d .dead
        some { s with b := upd s.b k (some ms), p := upd s.p k (some (.box k 0, none)) }
      else none
    | _, _ => none
  | .build ks parts => (partsM s parts (ks.map fun _ => .free)).map fun ms => s.put d (.agg ms)
  | .bslice ks _ parts =>
    match d, rowsM s ks.length parts with
    | some n, some (ds, ok) => match s.fresh (atom n 0) with
      | some s => some (s.put d (.c ⟨atom n 0 :: ds, if ok then 3 else 1⟩))
      | none => none
    | _, _ => none
  | .ldB agg ks a b off =>
    if s.holds g a (.box b off) then
      match s.b b with
      | some ms => if off + ks.length ≤ ms.length then (oneOrAggM agg ((ms.drop off).take ks.length)).map fun m => s.putA d m (some (.box b off, [])) else none
      | none => none
    else none
  | .ldE agg ks a p q =>
    if s.holds g a (.el p q) ∧ pathOk s q then
      match modeAt s p with
      | some m => if alive s.L m then
          (oneOrAggM agg (ks.map fun k => if k.mem then ⟨m.deps, if 2 ≤ m.own then 2 else 0⟩ else .free)).map fun v => s.putA d v (some (p, q))
        else none
      | none => none
    else none
  | .stB n a b off x =>
    if s.holds g a (.box b off) ∧ !ro.contains b then
      match s.b b, (XM s x).cells with
      | some ms, some cs => if cs.length = n ∧ off + n ≤ ms.length ∧ alives s.L cs then some { s.cutB b with b := upd s.b b (some (layM ms off cs)) } else none
      | _, _ => none
    else none
  | .stE n a p q x =>
    if s.holds g a (.el p q) ∧ pathOk s q then
      match modeAt s p, (XM s x).cells with
      | some m, some cs =>
        let ds := cs.flatMap (·.deps)
        if alive s.L m ∧ cs.length = n ∧ alives s.L cs ∧ !overlaps ds m.deps then
          match s.fresh (atom a 1) with
          | some s =>
            let whole := cs.all fun c => 2 ≤ c.own
            if 2 ≤ m.own ∧ whole = true then some ((s.kill m.deps).setMode p ⟨atom a 1 :: ds, 2⟩)
            else if 2 ≤ m.own ∧ q.length = 1 then some ((s.kill m.deps).setMode p ⟨atom a 1 :: ds, 1⟩)
            else if m.own = 1 ∧ q.length = 1 then match m.deps with
              | e :: r => some ((s.kill [e]).setMode p ⟨atom a 1 :: (r ++ ds), 1⟩)
              | [] => none
            else none
          | none => none
        else none
      | _, _ => none
    else none
  | .aeq _ _ x y =>
    match XM s x, XM s y with
    | .agg ms, .agg ns => some (s.put d (.c .free))
    | _, _ => none
  | .un _ x | .conv _ x => if scalarX s x then some (s.put d (.c .free)) else none
  | .b2s x => if memX s x then some (s.put d (.c .free)) else none
  | .len x | .slen x => match XM s x with
    | .c _ => some (s.put d (.c .free))
    | _ => none
  | .apps _ x y =>
    match d, XM s x with
    | some n, .c m =>
      if alive s.L m ∧ 0 < m.own ∧ scalarX s y then
        match s.fresh (atom n 0) with
        | some s =>
          if 2 ≤ m.own then some ((s.kill m.deps).put d (.c ⟨[atom n 0], 2⟩))
          else match m.deps with
            | a :: _ => some ((s.kill [a]).put d (.c ⟨[atom n 0], 2⟩))
            | [] => none
        | none => none
      else none
    | _, _ => none
  | .field agg off n x =>
    match XM s x with
    | .agg ms => if off + n ≤ ms.length then (oneOrAggM agg ((ms.drop off).take n)).map fun m => s.put d m else none
    | _ => none
  | .bin _ x y | .beq _ x y | .sidx x y | .mx x y | .mn x y => if scalarX s x ∧ scalarX s y then some (s.put d (.c .free)) else none
  | .extr x i =>
    match XM s x with
    | .tup l => match l[i]? with
      | some (agg, ms) => (oneOrAggM agg ms).map fun m => s.put d m
      | none => none
    | _ => none
  | .slc _ x lo hi mx =>
    match XM s x with
    | .c m => if scalarO s lo ∧ scalarO s hi ∧ scalarO s mx then some (s.put d (.c m)) else none
    | _ => none
  | .sslc x lo hi => if scalarX s x ∧ scalarO s lo ∧ scalarO s hi then some (s.put d (.c .free)) else none
  | .mks _ _ l =>
    match d with
    | some n => if scalarX s l then match s.fresh (atom n 0) with
        | some s => some (s.put d (.c ⟨[atom n 0], 2⟩))
        | none => none
      else none
    | none => none
  | .call f args =>
    match d, G f with
    | some n, some sg =>
      if !(callOk ro sg args && aggsOk s sg.aggs args) then none else
      match argsM s g sg.args args with
      | some (os, sh) =>
        if overlaps os sh then none else
        match (s.kill os).freshs (outE n 0 sg.args ++ resE n 0 sg.res) with
        | some s1 =>
          let s1 := outB n sh 0 sg.args args s1
          match sg.res with
          | [.v agg bs] => (oneOrAggM agg (backM (atom n (64 * 20)) sh 0 bs)).map fun m => s1.put d m
          | rs => some (s1.put d (.tup (resM n sh 0 rs)))
        | none => none
      | none => none
    | _, _ => none
  | .app ks _ x y =>
    match d, XM s x, XM s y with
    | some n, .c m, .c e =>
      if alive s.L m ∧ alive s.L e ∧ 0 < m.own then
        match s.fresh (atom n 0) with
        | some s =>
          if 2 ≤ m.own ∧ !overlaps m.deps e.deps then
            some ((s.kill m.deps).put d (.c (if !(ks.any K.mem) then ⟨[atom n 0], 2⟩ else if 2 ≤ e.own then ⟨atom n 0 :: e.deps, 3⟩ else ⟨atom n 0 :: e.deps, 1⟩)))
          else if m.own = 1 ∨ m.own = 3 then
            match m.deps with
            | a :: r => if e.deps.contains a then none else some ((s.kill [a]).put d (.c (if !(ks.any K.mem) then ⟨[atom n 0], 2⟩ else ⟨atom n 0 :: (r ++ e.deps), 1⟩)))
            | [] => none
          else none
        | none => none
      else none
    | _, _, _ => none

/-- What an operation under a guard may be. -/
def guardable (s s1 : SS) : O → Bool
  | .mov _ | .adr _ _ _ | .iadr _ _ _ _ | .pick _ _ _ | .build _ _ | .bslice _ _ _ | .ldB _ _ _ _ _ | .ldE _ _ _ _ _ | .bin _ _ _ | .beq _ _ _ | .aeq _ _ _ _ | .un _ _ | .conv _ _ | .field _ _ _ _
  | .sidx _ _ | .extr _ _ | .slc _ _ _ _ _ | .sslc _ _ _ | .len _ | .slen _ => true
  | .call _ args => args.all fun
    | .v _ => true
    | .p _ b => s1.b b == s.b b
    | .io _ _ _ => false
  | _ => false

def sstepG (o : Op') (s : SS) : Option SS :=
  match o.guard with
  | none => sstep G ro none o.dst o.op s
  | some (g, b) =>
    if scalarX s (.t g) then
      match sstep G ro (some (g, b)) o.dst o.op s with
      | some s1 => if guardable s s1 o.op then some s1 else none
      | none => none
    else none

def srun : List Op' → SS → Option SS
  | [], s => some s
  | o :: r, s => match sstepG G ro o s with
    | some s' => srun r s'
    | none => none
end

/-! ### What an operation reads and writes -/
def oX : Option X → List Nat
  | none => []
  | some x => x.tmps

def axTmps : AX → List Nat
  | .v x => x.tmps
  | .p a _ => [a]
  | .io x p q => x.tmps ++ p.tmps ++ pathTmps q
def axRB : AX → List Nat
  | .p _ b => [b]
  | .io _ p _ => p.boxes
  | _ => []
def axWT : AX → List Nat
  | .io _ p _ => p.tmps
  | _ => []

/-- The variables that are read. -/
def O.rt : O → List Nat
  | .zap | .alloc _ => []
  | .mov x | .box _ x | .un _ x | .conv _ x | .b2s x | .field _ _ _ x | .extr x _ | .mks _ _ x | .len x | .slen x => x.tmps
  | .adr s _ q => s :: q.tmps
  | .iadr _ x i q => x.tmps ++ i.tmps ++ q.tmps
  | .pick c a b => c.tmps ++ a.tmps ++ b.tmps
  | .build _ ps => ps.flatMap fun (_, _, x) => x.tmps
  | .bslice _ _ ps => ps.flatMap fun (_, x) => x.tmps
  | .ldB _ _ a _ _ => [a]
  | .ldE _ _ a p q => a :: (p.tmps ++ pathTmps q)
  | .stB _ a _ _ x => a :: x.tmps
  | .stE _ a p q x => a :: (p.tmps ++ pathTmps q ++ x.tmps)
  | .bin _ x y | .beq _ x y | .aeq _ _ x y | .sidx x y | .app _ _ x y | .apps _ x y | .mx x y | .mn x y => x.tmps ++ y.tmps
  | .slc _ x lo hi m3 => x.tmps ++ oX lo ++ oX hi ++ oX m3
  | .sslc x lo hi => x.tmps ++ oX lo ++ oX hi
  | .call _ args => args.flatMap axTmps
/-- The variables that are written, the result apart. -/
def O.wt : O → List Nat
  | .stE _ _ p _ _ => p.tmps
  | .call _ args => args.flatMap axWT
  | _ => []
def O.rb : O → List Nat
  | .ldB _ _ _ b _ => [b]
  | .stB _ _ b _ _ => [b]
  | .ldE _ _ _ p _ => p.boxes
  | .stE _ _ p _ _ => p.boxes
  | .call _ args => args.flatMap axRB
  | _ => []
def O.wb (d : Option Nat) : O → List Nat
  | .stB _ _ b _ _ => [b]
  | .stE _ _ p _ _ => p.boxes
  | .call _ args => args.flatMap axRB
  | .alloc _ | .box _ _ => d.toList
  | _ => []
/-- Boxes that are made anew. -/
def O.nb (d : Option Nat) : O → List Nat
  | .alloc _ | .box _ _ => d.toList
  | .call _ _ => d.toList
  | _ => []
def M.deps : M → List Nat
  | .dead => []
  | .c m => m.deps
  | .agg ms => ms.flatMap (·.deps)
  | .tup l => l.flatMap fun (_, ms) => ms.flatMap (·.deps)

/-! ### Operations in any order: what one does, as data -/
structure Dl where
  n : Option Nat := none
  m : M := .dead
  pw : Option (Ptr × Option (Nat × Bool)) := none
  nb : Bool := false
  bw : List (Nat × List CM) := []
  kill : List Nat := []
  fr : List Nat := []
  rm : List Nat := []
  rq : List (Ptr × Option (Nat × Bool)) := []

def Ptr.isBox (n : Nat) : Ptr → Bool
  | .box b _ => b == n
  | _ => false

def Dl.cuts (δ : Dl) (q : Ptr) (h : Option (Nat × Bool)) : Bool :=
  (match δ.n with
   | some n => q.tmps.contains n || (gTmps h).contains n || (δ.nb && q.isBox n)
   | none => false) || δ.bw.any fun x => q.boxes.contains x.1

def Dl.on (δ : Dl) (s : SS) : SS :=
  { t := match δ.n with
      | some n => upd s.t n δ.m
      | none => s.t
    b := fun k => match δ.bw.lookup k with
      | some ms => some ms
      | none => s.b k
    p := fun k => if δ.n = some k then δ.pw else match s.p k with
      | some (q, h) => if δ.cuts q h then none else some (q, h)
      | none => none
    a := fun _ => none
    L := fun e => (s.L e && !δ.kill.contains e) || δ.fr.contains e
    U := fun e => s.U e || δ.fr.contains e }

def SS.entry (s : SS) (a : Nat) : List (Ptr × Option (Nat × Bool)) := (s.p a).toList

def AX.entry (s : SS) : AX → List (Ptr × Option (Nat × Bool))
  | .p a _ => s.entry a
  | _ => []
def callRq (s : SS) (xs : List AX) : List (Ptr × Option (Nat × Bool)) := xs.flatMap (AX.entry s)

def partsDeps (s : SS) (l : List (Nat × Nat × X)) : List Nat := l.flatMap fun q => (XM s q.2.2).deps
def rowsDeps (s : SS) (l : List (Nat × X)) : List Nat := l.flatMap fun q => (XM s q.2).deps

def outW (d : Nat) (sh : List Nat) : Nat → List AM → List AX → List (Nat × List CM)
  | k, m :: ms, .p _ b :: xs => (b, backM (atom d (64 * (k + 1))) sh 0 m.outs) :: outW d sh (k + 1) ms xs
  | k, _ :: ms, _ :: xs => outW d sh (k + 1) ms xs
  | _, _, _ => []

def stD (s : SS) (rq : List (Ptr × Option (Nat × Bool))) (p : Place) (m : CM) (K : List Nat) (e : Nat) (rm : List Nat) : Option Dl :=
  match p with
  | .tmp t => some { n := some t, m := .c m, kill := K, fr := [e], rm := rm, rq := rq }
  | .box b j => match s.b b with
    | some ms => some { bw := [(b, layM ms j [m])], kill := K, fr := [e], rm := rm, rq := rq }
    | none => none

section
variable (G : Nat → Option Sg) (ro : List Nat)

/-- The static step of a state without copies ('sstep'), as data. -/
def sdel (g : Option (Nat × Bool)) (d : Option Nat) (o : O) (s : SS) : Option Dl :=
  match o with
  | .zap => some { n := d }
  | .adr src off q =>
    match s.p src with
    | none => none
    | some (r, h) =>
      let r' := match r with
        | .box b o => some (Ptr.box b (o + off))
        | .el p l => match l.getLast? with
          | some (x, k) => some (Ptr.el p (l.dropLast ++ [(x, k + off)]))
          | none => none
      if r' = some q ∧ (h = none ∨ h = g) ∧ avoids d q g then some { n := d, pw := some (q, g), rq := [(r, h)] } else none
  | .mov x =>
    match XM s x with
    | .dead => none
    | m => some { n := d, m := m }
  | .iadr sz x i q =>
    match x, XM s x with
    | .t n, .c m => if scalarX s i ∧ q = .el (.tmp n) [(i, 0)] ∧ avoids d q g then some { n := d, pw := some (q, g) } else none
    | _, _ => none
  | .pick c a b =>
    if scalarX s c then
      match XM s a, XM s b with
      | .c m, .c n => if alive s.L m ∧ alive s.L n then some { n := d, m := .c ⟨m.deps ++ n.deps, if 2 ≤ m.own ∧ 2 ≤ n.own then 2 else 0⟩, rm := m.deps ++ n.deps } else none
      | _, _ => some { n := d }
    else none
  | .alloc ks =>
    match d with
    | some n => some { n := some n, pw := some (.box n 0, none), nb := true, bw := [(n, ks.map fun _ => .free)] }
    | none => none
  | .box n x =>
    match d, (XM s x).cells with
    | some k, some ms => if ms.length = n ∧ alives s.L ms then some { n := some k, pw := some (.box k 0, none), nb := true, bw := [(k, ms)], rm := ms.flatMap (·.deps) } else none
    | _, _ => none
  | .build ks parts => (partsM s parts (ks.map fun _ => .free)).map fun ms => { n := d, m := .agg ms, rm := partsDeps s parts }
  | .bslice ks _ parts =>
    match d, rowsM s ks.length parts with
    | some n, some (ds, ok) => if s.U (atom n 0) then none else some { n := d, m := .c ⟨atom n 0 :: ds, if ok then 3 else 1⟩, fr := [atom n 0], rm := rowsDeps s parts }
    | _, _ => none
  | .ldB agg ks a b off =>
    if s.holds g a (.box b off) then
      match s.b b with
      | some ms => if off + ks.length ≤ ms.length then (oneOrAggM agg ((ms.drop off).take ks.length)).map fun m => { n := d, m := m, rq := s.entry a } else none
      | none => none
    else none
  | .ldE agg ks a p q =>
    if s.holds g a (.el p q) ∧ pathOk s q then
      match modeAt s p with
      | some m => if alive s.L m then
          (oneOrAggM agg (ks.map fun k => if k.mem then ⟨m.deps, if 2 ≤ m.own then 2 else 0⟩ else .free)).map fun v => { n := d, m := v, rq := s.entry a, rm := m.deps }
        else none
      | none => none
    else none
  | .stB n a b off x =>
    if s.holds g a (.box b off) ∧ !ro.contains b then
      match s.b b, (XM s x).cells with
      | some ms, some cs => if cs.length = n ∧ off + n ≤ ms.length ∧ alives s.L cs then some { bw := [(b, layM ms off cs)], rq := s.entry a, rm := cs.flatMap (·.deps) } else none
      | _, _ => none
    else none
  | .aeq _ _ x y =>
    match XM s x, XM s y with
    | .agg ms, .agg ns => some { n := d, m := .c .free }
    | _, _ => none
  | .un _ x | .conv _ x => if scalarX s x then some { n := d, m := .c .free } else none
  | .b2s x => if memX s x then some { n := d, m := .c .free, rm := (XM s x).deps } else none
  | .len x | .slen x => match XM s x with
    | .c _ => some { n := d, m := .c .free }
    | _ => none
  | .apps _ x y =>
    match d, XM s x with
    | some n, .c m =>
      if alive s.L m ∧ 0 < m.own ∧ scalarX s y then
        if s.U (atom n 0) then none else
          if 2 ≤ m.own then some { n := d, m := .c ⟨[atom n 0], 2⟩, kill := m.deps, fr := [atom n 0], rm := m.deps }
          else match m.deps with
            | a :: r => some { n := d, m := .c ⟨[atom n 0], 2⟩, kill := [a], fr := [atom n 0], rm := a :: r }
            | [] => none
      else none
    | _, _ => none
  | .field agg off n x =>
    match XM s x with
    | .agg ms => if off + n ≤ ms.length then (oneOrAggM agg ((ms.drop off).take n)).map fun m => { n := d, m := m } else none
    | _ => none
  | .bin _ x y | .beq _ x y | .sidx x y | .mx x y | .mn x y => if scalarX s x ∧ scalarX s y then some { n := d, m := .c .free } else none
  | .extr x i =>
    match XM s x with
    | .tup l => match l[i]? with
      | some (agg, ms) => (oneOrAggM agg ms).map fun m => { n := d, m := m }
      | none => none
    | _ => none
  | .slc _ x lo hi mx =>
    match XM s x with
    | .c m => if scalarO s lo ∧ scalarO s hi ∧ scalarO s mx then some { n := d, m := .c m } else none
    | _ => none
  | .sslc x lo hi => if scalarX s x ∧ scalarO s lo ∧ scalarO s hi then some { n := d, m := .c .free } else none
  | .mks _ _ l =>
    match d with
    | some n => if scalarX s l then if s.U (atom n 0) then none else some { n := some n, m := .c ⟨[atom n 0], 2⟩, fr := [atom n 0] } else none
    | none => none
  | .call f args =>
    match d, G f with
    | some n, some sg =>
      if !(callOk ro sg args && aggsOk s sg.aggs args) then none else
      match argsM s g sg.args args with
      | some (os, sh) =>
        if overlaps os sh then none else
        match (s.kill os).freshs (outE n 0 sg.args ++ resE n 0 sg.res) with
        | some _ =>
          match sg.res with
          | [.v agg bs] => (oneOrAggM agg (backM (atom n (64 * 20)) sh 0 bs)).map fun m => { n := some n, m := m, bw := outW n sh 0 sg.args args, kill := os, fr := outE n 0 sg.args ++ resE n 0 sg.res, rm := os ++ sh, rq := callRq s args }
          | rs => some { n := some n, m := .tup (resM n sh 0 rs), bw := outW n sh 0 sg.args args, kill := os, fr := outE n 0 sg.args ++ resE n 0 sg.res, rm := os ++ sh, rq := callRq s args }
        | none => none
      | none => none
    | _, _ => none
  | .app ks _ x y =>
    match d, XM s x, XM s y with
    | some n, .c m, .c e =>
      if alive s.L m ∧ alive s.L e ∧ 0 < m.own then
        if s.U (atom n 0) then none else
          if 2 ≤ m.own ∧ !overlaps m.deps e.deps then
            some { n := d, m := .c (if !(ks.any K.mem) then ⟨[atom n 0], 2⟩ else if 2 ≤ e.own then ⟨atom n 0 :: e.deps, 3⟩ else ⟨atom n 0 :: e.deps, 1⟩), kill := m.deps, fr := [atom n 0], rm := m.deps ++ e.deps }
          else if m.own = 1 ∨ m.own = 3 then
            match m.deps with
            | a :: r => if e.deps.contains a then none else some { n := d, m := .c (if !(ks.any K.mem) then ⟨[atom n 0], 2⟩ else ⟨atom n 0 :: (r ++ e.deps), 1⟩), kill := [a], fr := [atom n 0], rm := a :: (r ++ e.deps) }
            | [] => none
          else none
      else none
    | _, _, _ => none
  | .stE n a p q x =>
    if s.holds g a (.el p q) ∧ pathOk s q then
      match modeAt s p, (XM s x).cells with
      | some m, some cs =>
        let ds := cs.flatMap (·.deps)
        if alive s.L m ∧ cs.length = n ∧ alives s.L cs ∧ !overlaps ds m.deps then
          if s.U (atom a 1) then none else
            let whole := cs.all fun c => 2 ≤ c.own
            if 2 ≤ m.own ∧ whole = true then stD s (s.entry a) p ⟨atom a 1 :: ds, 2⟩ m.deps (atom a 1) (m.deps ++ ds)
            else if 2 ≤ m.own ∧ q.length = 1 then stD s (s.entry a) p ⟨atom a 1 :: ds, 1⟩ m.deps (atom a 1) (m.deps ++ ds)
            else if m.own = 1 ∧ q.length = 1 then match m.deps with
              | e :: r => stD s (s.entry a) p ⟨atom a 1 :: (r ++ ds), 1⟩ [e] (atom a 1) (e :: (r ++ ds))
              | [] => none
            else none
        else none
      | _, _ => none
    else none

def sdelG (o : Op') (s : SS) : Option Dl :=
  match o.guard with
  | none => sdel G ro none o.dst o.op s
  | some (g, b) =>
    if scalarX s (.t g) then
      match sdel G ro (some (g, b)) o.dst o.op s with
      | some δ => if guardable s (δ.on s) o.op then some δ else none
      | none => none
    else none

/-- All of a drawn region's operations: what they do, in the text's order; the state behind them. -/
def dels : List Op' → SS → Option (List (Op' × Dl) × SS)
  | [], s => some ([], s)
  | o :: r, s => match sdelG G ro o s with
    | some δ => (dels r (δ.on s)).map fun q => ((o, δ) :: q.1, q.2)
    | none => none
end

def Op'.rt (o : Op') : List Nat := o.op.rt ++ gTmps o.guard
def Op'.wt (o : Op') : List Nat := o.dst.toList ++ o.op.wt
def Op'.wb (o : Op') : List Nat := o.op.wb o.dst
def Dl.wb (δ : Dl) : List Nat := δ.bw.map (·.1)
def Dl.keeps (δ : Dl) (l : List (Ptr × Option (Nat × Bool))) : Bool := l.all fun q => !δ.cuts q.1 q.2

/-- The second one does not heed what the first one does. -/
def heeds (a b : Op' × Dl) : Bool :=
  overlaps a.1.wt b.1.rt || overlaps a.2.n.toList b.1.rt || overlaps a.1.wb b.1.op.rb || overlaps a.2.wb b.1.op.rb ||
  overlaps a.2.kill b.2.rm || overlaps a.2.fr b.2.rm || overlaps a.2.kill b.2.fr || !a.2.keeps b.2.rq || !a.2.keeps b.2.pw.toList
def indep (a b : Op' × Dl) : Bool :=
  !heeds a b && !heeds b a && !overlaps a.1.wt b.1.wt && !overlaps a.2.n.toList b.2.n.toList && !overlaps a.1.wb b.1.wb && !overlaps a.2.wb b.2.wb && !overlaps a.2.fr b.2.fr

/-- Which operations come before each one, on every way. -/
def befores : List Op' → List (List Nat) → List (List Nat)
  | [], acc => acc
  | o :: r, acc => befores r (acc ++ [o.after ++ o.after.flatMap fun j => acc.getD j []])

def afterEarlier : Nat → List Op' → Bool
  | _, [] => true
  | i, o :: r => o.after.all (· < i) && afterEarlier (i + 1) r

def pairsOk (bs : List (List Nat)) (es : List (Op' × Dl)) : Bool :=
  (List.range es.length).all fun j => (List.range j).all fun i =>
    (bs.getD j []).contains i || match es[i]?, es[j]? with
      | some e, some f => indep e f
      | _, _ => false

/-- A drawn region, from a state without copies: the state behind it, whatever the order. -/
def regionD (G : Nat → Option Sg) (ro : List Nat) (ops : List Op') (s : SS) : Option SS :=
  if afterEarlier 0 ops then match dels G ro ops s with
    | some (es, s') => if pairsOk (befores ops []) es then some s' else none
    | none => none
  else none

/-! ### Where ways meet -/
/-- A state in finite form. -/
structure J where
  t : List M
  b : List (Nat × List CM)
  p : List (Nat × Ptr)
  L : List Nat
deriving DecidableEq, Repr

def J.ss (j : J) : SS :=
  { t := fun k => j.t.getD k .dead
    b := fun k => j.b.lookup k
    p := fun k => (j.p.lookup k).map fun q => (q, none)
    a := fun _ => none
    L := fun e => j.L.contains e
    U := fun e => e == 0 || j.L.contains e }

def locB (b j : Nat) : Nat := 100000000000000 + b * 4096 + j
def locT (t j : Nat) : Nat := 200000000000000 + t * 4096 + j

def itemsOf (f : Nat → Nat) (ms : List CM) : List (Nat × CM) := ms.zipIdx.map fun (m, j) => (f j, m)
def tupItems (t : Nat) : Nat → List (Bool × List CM) → List (Nat × CM)
  | _, [] => []
  | k, (_, ms) :: r => itemsOf (fun j => locT t (64 * k + j)) ms ++ tupItems t (k + 1) r

/-- The names of boxes: the variables', and those of the pointers that came in. -/
def boxNames (n : Nat) : List Nat := List.range n ++ (List.range 8).map extBox

def items0 (n : Nat) (s : SS) : List (Nat × CM) :=
  ((boxNames n).flatMap fun b => match s.b b with
    | some ms => itemsOf (locB b) ms
    | none => []) ++
  (List.range n).flatMap fun t => match s.t t with
    | .c m => [(locT t 0, m)]
    | .agg ms => itemsOf (locT t) ms
    | .tup l => tupItems t 0 l
    | .dead => []

/-- Those of few classes first. -/
def items (n : Nat) (s : SS) : List (Nat × CM) :=
  let l := items0 n s
  l.filter (fun x => x.2.deps.length ≤ 1) ++ l.filter (fun x => 1 < x.2.deps.length)

structure Cn where
  used : List Nat
  map : List (Nat × Nat)
  ids : List Nat

/-- Who is to own what: the first place that can. 'K': the places that may (none: all may). -/
def claim (L : Nat → Bool) (K : Option (List Nat)) : List (Nat × CM) → Cn → Cn
  | [], c => c
  | (id, m) :: r, c =>
    let may := (match K with | none => true | some l => l.contains id) && alive L m && !c.ids.contains id
    if 2 ≤ m.own && m.deps == [] then claim L K r (if may && K.isSome then ⟨c.used, c.map, id :: c.ids⟩ else c)
    else if may && 2 ≤ m.own && !overlaps m.deps c.used then claim L K r ⟨m.deps ++ c.used, m.deps.map (·, id) ++ c.map, id :: c.ids⟩
    else match m.deps with
      | a :: r' => if may && (m.own == 1 || m.own == 3 || (m.own == 2 && r' == [])) && !c.used.contains a then claim L K r ⟨a :: c.used, (a, id) :: c.map, id :: c.ids⟩ else claim L K r c
      | [] => claim L K r c

def canonM (L : Nat → Bool) (c : Cn) (id : Nat) (m : CM) : CM :=
  let ds := (m.deps.filterMap fun a => c.map.lookup a).eraseDups
  if !alive L m then ⟨[0], 0⟩
  else if m.deps == [] then m
  else if c.ids.contains id && (2 ≤ m.own && m.deps.all (fun a => c.map.lookup a == some id)) then ⟨[id], 2⟩
  else if c.ids.contains id && (m.own == 1 || m.own == 3) && (match m.deps with
    | a :: _ => c.map.lookup a == some id
    | [] => false) then ⟨id :: ds.filter (· != id), 1⟩
  else ⟨ds, 0⟩

def canonMs (L : Nat → Bool) (c : Cn) (f : Nat → Nat) (ms : List CM) : List CM := ms.zipIdx.map fun (m, j) => canonM L c (f j) m
def canonTup (L : Nat → Bool) (c : Cn) (t : Nat) : Nat → List (Bool × List CM) → List (Bool × List CM)
  | _, [] => []
  | k, (g, ms) :: r => (g, canonMs L c (fun j => locT t (64 * k + j)) ms) :: canonTup L c t (k + 1) r
def canonT (L : Nat → Bool) (c : Cn) (t : Nat) : M → M
  | .dead => .dead
  | .c m => .c (canonM L c (locT t 0) m)
  | .agg ms => .agg (canonMs L c (locT t) ms)
  | .tup l => .tup (canonTup L c t 0 l)

/-- A mode says no more than another one (under the same living classes). -/
def cmLe (m m' : CM) : Bool :=
  m'.deps.contains 0 ||
  m.deps.all m'.deps.contains &&
  (m'.own == 0 || (2 ≤ m.own && m.deps == []) || (m'.own == 2 && 2 ≤ m.own) || (m'.own == 1 && (m.own == 1 || m.own == 2) && (match m.deps, m'.deps with
    | a :: r, a' :: _ => a == a' && (m.own == 1 || r == [])
    | _, _ => false)))
def cmsLe : List CM → List CM → Bool
  | [], [] => true
  | m :: r, m' :: r' => cmLe m m' && cmsLe r r'
  | _, _ => false
def tupLe : List (Bool × List CM) → List (Bool × List CM) → Bool
  | [], [] => true
  | (g, ms) :: r, (g', ms') :: r' => g == g' && cmsLe ms ms' && tupLe r r'
  | _, _ => false
def mLe : M → M → Bool
  | _, .dead => true
  | .c m, .c m' => cmLe m m'
  | .agg ms, .agg ms' => cmsLe ms ms'
  | .tup l, .tup l' => tupLe l l'
  | _, _ => false

/-- All classes that are named live, or are the one that never does. -/
def cmsIn (L : List Nat) (ms : List CM) : Bool := ms.all fun m => m.deps.all fun e => e == 0 || L.contains e
def mIn (L : List Nat) : M → Bool
  | .dead => true
  | .c m => cmsIn L [m]
  | .agg ms => cmsIn L ms
  | .tup l => l.all fun q => cmsIn L q.2

def leq (n : Nat) (s : SS) (j : J) : Bool :=
  let c := claim s.L (some j.L) (items n s) ⟨[], [], []⟩
  j.L.all c.ids.contains && !j.L.contains 0 && c.map.all (fun q => s.L q.1) && j.t.length ≤ n && j.t.all (mIn j.L) && j.b.all (fun q => cmsIn j.L q.2) &&
  (j.b.all fun (b, ms) => (boxNames n).contains b && match s.b b with
    | some ms0 => cmsLe (canonMs s.L c (locB b) ms0) ms
    | none => false) &&
  (j.t.zipIdx.all fun (m, k) => mLe (canonT s.L c k (s.t k)) m) &&
  (j.p.all fun (k, q) => s.p k == some (q, none) && match q with
    | .box b _ => (j.b.lookup b).isSome
    | .el _ _ => true)

/-! A join: found by any way, held by 'leq'. -/
def joinCM (m n : CM) : CM :=
  if m.deps.contains 0 || n.deps.contains 0 then ⟨[0], 0⟩ else
  if 2 ≤ m.own && m.deps == [] then n else
  if 2 ≤ n.own && n.deps == [] then m else
  let ds := m.deps ++ n.deps.filter (!m.deps.contains ·)
  if 2 ≤ m.own && 2 ≤ n.own then ⟨ds, 2⟩
  else match m.deps, n.deps with
    | a :: _, b :: _ => if a == b && 0 < m.own && 0 < n.own then ⟨ds, 1⟩ else ⟨ds, 0⟩
    | _, _ => ⟨ds, 0⟩
def joinCMs : List CM → List CM → Option (List CM)
  | [], [] => some []
  | m :: r, n :: l => (joinCMs r l).map (joinCM m n :: ·)
  | _, _ => none
def joinTup : List (Bool × List CM) → List (Bool × List CM) → Option (List (Bool × List CM))
  | [], [] => some []
  | (g, m) :: r, (h, n) :: l => match joinCMs m n, joinTup r l with
    | some x, some y => if g == h then some ((g, x) :: y) else none
    | _, _ => none
  | _, _ => none
def joinM : M → M → M
  | .c m, .c n => .c (joinCM m n)
  | .agg m, .agg n => match joinCMs m n with
    | some l => .agg l
    | none => .dead
  | .tup m, .tup n => match joinTup m n with
    | some l => .tup l
    | none => .dead
  | _, _ => .dead

def toJ (n : Nat) (K : Option (List Nat)) (s : SS) : J :=
  let c := claim s.L K (items n s) ⟨[], [], []⟩
  { t := (List.range n).map fun k => canonT s.L c k (s.t k)
    b := (boxNames n).filterMap fun b => (s.b b).map fun ms => (b, canonMs s.L c (locB b) ms)
    p := (List.range n).filterMap fun k => match s.p k with
      | some (q, none) => match q with
        | .box b _ => if (s.b b).isSome && (boxNames n).contains b then some (k, q) else none
        | .el _ _ => some (k, q)
      | _ => none
    L := c.ids }

/-- A pointer to a box is kept as long as the box is. -/
def inB (b : List (Nat × List CM)) : Ptr → Bool
  | .box k _ => (b.lookup k).isSome
  | .el _ _ => true

def joinJ (x y : J) : J :=
  let b := x.b.filterMap fun (k, ms) => match y.b.lookup k with
      | some ns => (joinCMs ms ns).map fun l => (k, l)
      | none => none
  { t := (x.t.zip y.t).map fun (m, n) => joinM m n
    b := b
    p := x.p.filter fun (k, q) => y.p.lookup k == some q && inB b q
    L := x.L.filter y.L.contains }

def freeAt (its : List (Nat × CM)) (id : Nat) : Bool := match its.lookup id with
  | some m => 2 ≤ m.own && m.deps == []
  | none => false

def joinAll (n : Nat) (l : List SS) : Option J :=
  let cs := l.map fun s => let its := items n s; (its, (claim s.L none its ⟨[], [], []⟩).ids)
  let all := (cs.flatMap (·.2)).eraseDups
  let ids := all.filter fun id => cs.all fun (its, ids) => ids.contains id || freeAt its id
  match l with
  | [] => none
  | s :: r => some (r.foldl (fun j s' => joinJ j (toJ n (some ids) s')) (toJ n (some ids) s))

def meet (n : Nat) (l : List SS) : Option (Option SS) :=
  match l with
  | [] => some none
  | [s] => some (some s)
  | l => match joinAll n l with
    | some j => if l.all fun s => leq n s j then some (some j.ss) else none
    | none => none

/-! What need not be kept at a loop's head: found by any way (less is held of it). -/
def cdOps : Cd → List Op'
  | .region _ ops => ops
  | .seq a b => cdOps a ++ cdOps b
  | .cond x a b => ⟨none, .un .not x, none, []⟩ :: (cdOps a ++ cdOps b)
  | .block _ c | .loop c => cdOps c
  | _ => []
def readsT (o : Op') : List Nat := o.op.rt ++ gTmps o.guard
def readsB (o : Op') : List Nat := o.op.rb
/-- Is the first that the operations do with it a write? -/
def firstWrite (rd : Op' → Bool) (wr : Op' → Bool) : List Op' → Bool
  | [] => false
  | o :: r => if rd o then false else if wr o && o.guard == none then true else firstWrite rd wr r
def countRd (rd : Op' → Bool) (l : List Op') : Nat := l.countP rd
def idleT (all body : List Op') (k : Nat) : Bool :=
  let rd := fun o => (readsT o).contains k
  firstWrite rd (fun o => o.dst == some k) body && countRd rd all == countRd rd body
def idleB (all body : List Op') (k : Nat) : Bool :=
  let rd := fun o => (readsB o).contains k
  firstWrite rd (fun o => (o.op.nb o.dst).contains k) body && countRd rd all == countRd rd body
def pruneS (all body : List Op') (s : SS) : SS :=
  { s with
    t := fun k => if idleT all body k then .dead else s.t k
    b := fun k => if idleB all body k then none else s.b k
    p := fun k => match s.p k with
      | some (.box b o, g) => if idleB all body b then none else some (.box b o, g)
      | q => q }

/-! ### Code -/
abbrev Out := Option SS × List (Nat × SS)

/-- What a function is held to. -/
structure Env where
  G : Nat → Option Sg
  ro : List Nat
  n : Nat
  retOk : SS → Bool
  all : List Op'

def settle (E : Env) (c : Cd) (body : SS → Option Out) (s : SS) : Nat → J → Option (J × Out)
  | 0, _ => none
  | k + 1, j =>
    match body j.ss with
    | none => none
    | some (none, ex) => if leq E.n s j then some (j, (none, ex)) else none
    | some (some s1, ex) =>
      if leq E.n s j && leq E.n s1 j then some (j, (none, ex))
      else match joinAll E.n [pruneS E.all (cdOps c) s, pruneS E.all (cdOps c) s1] with
        | some j' => settle E c body s k j'
        | none => none

def noA (s : SS) : SS := { s with a := fun _ => none }

def chk (E : Env) : Cd → SS → Option Out
  | .skip, s => some (some s, [])
  | .region draw ops, s =>
    if draw then (regionD E.G E.ro ops (noA s)).map fun s' => (some s', [])
    else (srun E.G E.ro ops (noA s)).map fun s' => (some (noA s'), [])
  | .seq a b, s => match chk E a s with
    | some (some s1, ex) => match chk E b s1 with
      | some (n, ex') => some (n, ex ++ ex')
      | none => none
    | r => r
  | .cond x a b, s =>
    if scalarX s x then match chk E a s, chk E b s with
      | some (m, ex), some (n, ex') => (meet E.n (m.toList ++ n.toList)).map fun r => (r, ex ++ ex')
      | _, _ => none
    else none
  | .block id c, s => match chk E c s with
    | some (n, ex) => (meet E.n (n.toList ++ ((ex.filter (·.1 == id)).map (·.2)))).map fun r => (r, ex.filter (·.1 != id))
    | none => none
  | .loop c, s => match joinAll E.n [pruneS E.all (cdOps c) s] with
    | some j => (settle E c (chk E c) s 6 j).map fun (_, out) => out
    | none => none
  | .exit id, s => some (none, [(id, s)])
  | .ret, s => if E.retOk s then some (none, []) else none

/-! ### Functions -/
def inModes (e : Nat) (bs : List BM) : List CM := backM e [] 0 bs

def inAtom (i : Nat) : Nat := 300000000000000 + 64 * i

def AM.ins : AM → List BM
  | .v bs | .io bs => bs
  | .p ins _ => ins

def startM (k : Nat) (g : Bool) : AM → M
  | .p _ _ => .dead
  | .v bs | .io bs => if g then .agg (inModes (inAtom k) bs) else match inModes (inAtom k) bs with
    | [m] => .c m
    | _ => .dead
def startT : Nat → List AM → List Bool → List M
  | k, m :: ms, g :: gs => startM k g m :: startT (k + 1) ms gs
  | _, _, _ => []
def startB : Nat → List AM → List (Nat × List CM)
  | k, .p ins _ :: ms => (extBox k, inModes (inAtom k) ins) :: startB (k + 1) ms
  | k, _ :: ms => startB (k + 1) ms
  | _, [] => []
def startP : Nat → List AM → List (Nat × Ptr)
  | k, .p _ _ :: ms => (k, .box (extBox k) 0) :: startP (k + 1) ms
  | k, _ :: ms => startP (k + 1) ms
  | _, [] => []
def startL : Nat → List AM → List Nat
  | k, m :: ms => backE (inAtom k) 0 m.ins ++ startL (k + 1) ms
  | _, [] => []

/-- 'aggs': is the parameter a struct? -/
def startJ (aggs : List Bool) (sg : Sg) : J :=
  { t := startT 0 sg.args aggs
    b := startB 0 sg.args
    p := startP 0 sg.args
    L := startL 0 sg.args }

def resCells (s : SS) : RVar → Option (List CM)
  | .tmp t => (s.t t).cells
  | .ptr t b => if s.holds none t (.box b 0) then s.b b else none
  | .cell a b _ _ => if s.holds none a (.box b 0) then s.b b else none

def RM.modes : RM → List BM
  | .v _ bs => bs
  | .p bs => bs

/-- What goes back: all that is owned, each class once; and all that is shared. -/
def backs (s : SS) : List (List BM × Option (List CM)) → Option (List Nat × List Nat)
  | [] => some ([], [])
  | (bs, some cs) :: r => match takeO s.L bs cs, backs s r with
    | some o, some (os, ss) => if overlaps o os then none else some (o ++ os, takeS bs cs ++ ss)
    | _, _ => none
  | _ => none

def ioCells (s : SS) (i : Nat) : IoAt → Option (List CM)
  | .tmp => (s.t i).cells
  | .box b => s.b b

def retList (s : SS) (io : List (Nat × IoAt)) : Nat → List AM → List (List BM × Option (List CM))
  | _, [] => []
  | i, .v _ :: r => retList s io (i + 1) r
  | i, .p _ outs :: r => (outs, s.b (extBox i)) :: retList s io (i + 1) r
  | i, .io bs :: r => (bs, match io.lookup i with | some a => ioCells s i a | none => none) :: retList s io (i + 1) r

def resShape (s : SS) : RVar → RM → Bool
  | .tmp t, .v agg _ => match s.t t with
    | .c _ => !agg
    | .agg _ => agg
    | _ => false
  | .cell _ _ agg _, .v agg' _ => agg == agg'
  | _, _ => false
def resShapes (s : SS) : List RVar → List RM → Bool
  | [], [] => true
  | r :: l, m :: k => resShape s r m && resShapes s l k
  | _, _ => false
def retOk (q : Fn') (sg : Sg) (s : SS) : Bool :=
  resShapes s q.res sg.res &&
  match backs s (retList s q.io 0 sg.args ++ (sg.res.map RM.modes).zip (q.res.map (resCells s))) with
  | some (os, ss) => !overlaps os ss
  | none => false

/-- No operation writes the variable; the box is made once, of the parameter, at the begin. -/
def opWrites (n : Nat) (o : Op') : Bool := o.dst == some n
def ioFix (q : Fn') : Nat × IoAt → Bool
  | (i, .tmp) => !(cdOps q.body).any (opWrites i)
  | (i, .box b) => (cdOps q.body).countP (opWrites b) == 1 && (match q.body with
    | .seq (.region false ops) _ => ops.any fun o => o.dst == some b && o.guard == none && (match o.op with | .box _ (.t k) => k == i | _ => false)
    | _ => false) && !(cdOps q.body).any (opWrites i)

def ioBoxes (q : Fn') : List Nat := q.io.filterMap fun
  | (_, .box b) => some b
  | _ => none

def AM.isIo : AM → Bool
  | .io _ => true
  | _ => false

def opFits (n : Nat) (o : Op') : Bool := match o.dst with
  | some d => decide (d < n)
  | none => true

def checkFn (G : Nat → Option Sg) (q : Fn') (sg : Sg) : Bool :=
  sg.aggs.length == sg.args.length && q.io == [] && sg.args.all (fun m => !m.isIo) && sg.args.all (fun m => decide (m.ins.length ≤ 64)) && (cdOps q.body).all (opFits q.ntmps) && decide (sg.args.length ≤ q.ntmps) && decide (q.ntmps ≤ extBox 0) &&
  match chk ⟨G, ioBoxes q, q.ntmps, retOk q sg, cdOps q.body⟩ q.body (startJ sg.aggs sg).ss with
  | some (none, []) => true
  | some (some s, []) => retOk q sg s
  | _ => false
end Go.Opt
/- What a value of the machine holds, read through memory: the relation to the trees of cells, the blocks that are met, and how both live on when the world changes. -/
set_option linter.unusedVariables false
namespace Go.Opt
open Go.RowKit

/-- The row of cells of a block. -/
def rowOf (w : World) (b : Nat) : Option (Array Value) :=
  match w.heap[b]? with
  | some (.cells c _ _) => some c
  | _ => none
/-- A block whose cells may be written. -/
def open? (w : World) (b : Nat) : Prop := ∃ c t, w.heap[b]? = some (.cells c t (0, 0))

mutual
def Rep (w : World) : Value → C → Prop
  | v, .int k n => v = .int k n
  | v, .bool b => v = .bool b
  | v, .str l => v = .string ⟨l.toArray⟩
  | v, .sl s rows => ∃ base cap, v = .slice base rows.length cap ∧ rows.length ≤ cap ∧
    match base with
    | none => cap = 0
    | some a => 0 < cap → a.spot = none ∧ (∃ cells, rowOf w a.block = some cells ∧ a.off + cap * s ≤ cells.size) ∧ RepRows w a.block s a.off rows
def RepRows (w : World) (b s : Nat) : Nat → List (List C) → Prop
  | _, [] => True
  | off, row :: r => row.length = s ∧ RepRow w b off row ∧ RepRows w b s (off + s) r
def RepRow (w : World) (b : Nat) : Nat → List C → Prop
  | _, [] => True
  | off, c :: r => (∃ cells v, rowOf w b = some cells ∧ cells[off]? = some v ∧ Rep w v c) ∧ RepRow w b (off + 1) r
end

mutual
def fp (w : World) : Value → C → List Nat
  | v, .sl s rows => match v with
    | .slice (some a) _ cap => if cap = 0 then [] else a.block :: fpRows w a.block s a.off rows
    | _ => []
  | _, _ => []
def fpRows (w : World) (b s : Nat) : Nat → List (List C) → List Nat
  | _, [] => []
  | off, row :: r => fpRow w b off row ++ fpRows w b s (off + s) r
def fpRow (w : World) (b : Nat) : Nat → List C → List Nat
  | _, [] => []
  | off, c :: r => (match rowOf w b with
    | some cells => match cells[off]? with
      | some v => fp w v c
      | none => []
    | none => []) ++ fpRow w b (off + 1) r
end

theorem rowOf_eq {w w' : World} {b : Nat} (h : w'.heap[b]? = w.heap[b]?) : rowOf w' b = rowOf w b := by unfold rowOf; rw [h]

mutual
theorem Rep.frame {w w' : World} : ∀ (c : C) (v : Value), Rep w v c → (∀ b ∈ fp w v c, w'.heap[b]? = w.heap[b]?) → Rep w' v c ∧ fp w' v c = fp w v c
  | .int k n, v, h, _ => ⟨h, rfl⟩
  | .bool b, v, h, _ => ⟨h, rfl⟩
  | .str l, v, h, _ => ⟨h, rfl⟩
  | .sl s rows, v, h, hf => by
    simp only [Rep] at h
    obtain ⟨base, cap, rfl, hle, hb⟩ := h
    cases base with
    | none => exact ⟨by simp only [Rep]; exact ⟨none, cap, rfl, hle, hb⟩, by simp [fp]⟩
    | some a =>
      by_cases h0 : cap = 0
      · exact ⟨by simp only [Rep]; exact ⟨some a, cap, rfl, hle, fun hp => absurd hp (by omega)⟩, by simp only [fp, h0, if_true]⟩
      · obtain ⟨hs, ⟨cells, hc, hcap⟩, hr⟩ := hb (by omega)
        simp only [fp, h0, if_false, List.mem_cons, forall_eq_or_imp] at hf
        obtain ⟨hr', hfp⟩ := RepRows.frame rows a.off hr hf.1 hf.2
        have hro := rowOf_eq hf.1
        exact ⟨by simp only [Rep]; exact ⟨some a, cap, rfl, hle, fun _ => ⟨hs, ⟨cells, by rw [hro]; exact hc, hcap⟩, hr'⟩⟩, by simp only [fp, h0, if_false]; rw [hfp]⟩
theorem RepRows.frame {w w' : World} {b s : Nat} : ∀ (rows : List (List C)) (off : Nat), RepRows w b s off rows → w'.heap[b]? = w.heap[b]? → (∀ k ∈ fpRows w b s off rows, w'.heap[k]? = w.heap[k]?) →
    RepRows w' b s off rows ∧ fpRows w' b s off rows = fpRows w b s off rows
  | [], off, h, _, _ => ⟨by simp only [RepRows], by simp only [fpRows]⟩
  | row :: r, off, h, hb, hf => by
    simp only [RepRows] at h
    simp only [fpRows, List.mem_append] at hf
    obtain ⟨h1, e1⟩ := RepRow.frame row off h.2.1 hb (fun k hk => hf k (.inl hk))
    obtain ⟨h2, e2⟩ := RepRows.frame r (off + s) h.2.2 hb (fun k hk => hf k (.inr hk))
    exact ⟨by simp only [RepRows]; exact ⟨h.1, h1, h2⟩, by simp only [fpRows]; rw [e1, e2]⟩
theorem RepRow.frame {w w' : World} {b : Nat} : ∀ (row : List C) (off : Nat), RepRow w b off row → w'.heap[b]? = w.heap[b]? → (∀ k ∈ fpRow w b off row, w'.heap[k]? = w.heap[k]?) →
    RepRow w' b off row ∧ fpRow w' b off row = fpRow w b off row
  | [], off, h, _, _ => ⟨by simp only [RepRow], by simp only [fpRow]⟩
  | c :: r, off, h, hb, hf => by
    simp only [RepRow] at h
    obtain ⟨⟨cells, v, hc, hv, hR⟩, hr⟩ := h
    simp only [fpRow, hc, hv, List.mem_append] at hf
    obtain ⟨h1, e1⟩ := Rep.frame c v hR (fun k hk => hf k (.inl hk))
    obtain ⟨h2, e2⟩ := RepRow.frame r (off + 1) hr hb (fun k hk => hf k (.inr hk))
    have hro := rowOf_eq hb
    exact ⟨by simp only [RepRow]; exact ⟨⟨cells, v, by rw [hro]; exact hc, hv, h1⟩, h2⟩, by simp only [fpRow, hro, hc, hv]; rw [e1, e2]⟩
end

/-- The blocks that are met are there. -/
theorem rowOf_lt {w : World} {b : Nat} {cells : Array Value} (h : rowOf w b = some cells) : b < w.heap.size := by
  unfold rowOf at h
  by_cases hb : b < w.heap.size
  · exact hb
  · rw [Array.getElem?_eq_none (by omega)] at h; simp at h

mutual
theorem Rep.lt {w : World} : ∀ (c : C) (v : Value), Rep w v c → ∀ b ∈ fp w v c, b < w.heap.size
  | .int k n, v, h => by simp [fp]
  | .bool b, v, h => by simp [fp]
  | .str l, v, h => by simp [fp]
  | .sl s rows, v, h => by
    simp only [Rep] at h
    obtain ⟨base, cap, rfl, hle, hb⟩ := h
    cases base with
    | none => simp [fp]
    | some a =>
      by_cases h0 : cap = 0
      · simp [fp, h0]
      · obtain ⟨hs, ⟨cells, hc, hcap⟩, hr⟩ := hb (by omega)
        simp only [fp, h0, if_false, List.mem_cons, forall_eq_or_imp]
        exact ⟨rowOf_lt hc, RepRows.lt rows a.off hr⟩
theorem RepRows.lt {w : World} {b s : Nat} : ∀ (rows : List (List C)) (off : Nat), RepRows w b s off rows → ∀ k ∈ fpRows w b s off rows, k < w.heap.size
  | [], off, h => by simp [fpRows]
  | row :: r, off, h => by
    simp only [RepRows] at h
    simp only [fpRows, List.mem_append]
    rintro k (hk | hk)
    · exact RepRow.lt row off h.2.1 k hk
    · exact RepRows.lt r (off + s) h.2.2 k hk
theorem RepRow.lt {w : World} {b : Nat} : ∀ (row : List C) (off : Nat), RepRow w b off row → ∀ k ∈ fpRow w b off row, k < w.heap.size
  | [], off, h => by simp [fpRow]
  | c :: r, off, h => by
    simp only [RepRow] at h
    obtain ⟨⟨cells, v, hc, hv, hR⟩, hr⟩ := h
    simp only [fpRow, hc, hv, List.mem_append]
    rintro k (hk | hk)
    · exact Rep.lt c v hR k hk
    · exact RepRow.lt r (off + 1) hr k hk
end

/-- A value of one cell. -/
theorem Rep.one {w : World} {v : Value} {c : C} (h : Rep w v c) : v.oneCell' = true := by
  cases c with
  | sl s rows => simp only [Rep] at h; obtain ⟨base, cap, rfl, _⟩ := h; rfl
  | _ => simp only [Rep] at h; subst h; rfl

/-! ### Rows of a struct's or a box's cells -/
/-- Cells side by side. -/
def Reps (w : World) : List Value → List C → Prop
  | [], [] => True
  | v :: vs, c :: cs => Rep w v c ∧ Reps w vs cs
  | _, _ => False

theorem Reps.length {w : World} : ∀ {vs : List Value} {cs : List C}, Reps w vs cs → vs.length = cs.length
  | [], [], _ => rfl
  | v :: vs, c :: cs, h => by simp only [Reps] at h; simp [Reps.length h.2]
  | [], _ :: _, h => by simp [Reps] at h
  | _ :: _, [], h => by simp [Reps] at h

theorem Reps.get {w : World} : ∀ {vs : List Value} {cs : List C}, Reps w vs cs → ∀ (j : Nat) (v : Value) (c : C), vs[j]? = some v → cs[j]? = some c → Rep w v c
  | [], [], _, j, v, c, hv, hc => by simp at hv
  | v0 :: vs, c0 :: cs, h, j, v, c, hv, hc => by
    simp only [Reps] at h
    cases j with
    | zero => simp at hv hc; subst hv; subst hc; exact h.1
    | succ j => exact Reps.get h.2 j v c (by simpa using hv) (by simpa using hc)
  | [], _ :: _, h, _, _, _, _, _ => by simp [Reps] at h
  | _ :: _, [], h, _, _, _, _, _ => by simp [Reps] at h

theorem Reps.of {w : World} : ∀ {vs : List Value} {cs : List C}, vs.length = cs.length → (∀ (j : Nat) (v : Value) (c : C), vs[j]? = some v → cs[j]? = some c → Rep w v c) → Reps w vs cs
  | [], [], _, _ => by simp [Reps]
  | v :: vs, c :: cs, hl, h => by
    simp only [Reps]
    exact ⟨h 0 v c (by simp) (by simp), Reps.of (by simpa using hl) fun j v' c' hv hc => h (j + 1) v' c' (by simpa using hv) (by simpa using hc)⟩
  | [], _ :: _, hl, _ => by simp at hl
  | _ :: _, [], hl, _ => by simp at hl

/-- A row in a block, cell by cell. -/
theorem RepRow.get {w : World} {b : Nat} : ∀ (row : List C) (off : Nat), RepRow w b off row → ∀ (j : Nat) (c : C), row[j]? = some c → ∃ cells v, rowOf w b = some cells ∧ cells[off + j]? = some v ∧ Rep w v c
  | [], _, _, j, c, hc => by simp at hc
  | c0 :: r, off, h, j, c, hc => by
    simp only [RepRow] at h
    cases j with
    | zero => simp at hc; subst hc; simpa using h.1
    | succ j =>
      have := RepRow.get r (off + 1) h.2 j c (by simpa using hc)
      rw [show off + (j + 1) = off + 1 + j by omega]
      exact this

theorem RepRow.of {w : World} {b : Nat} {cells : Array Value} (hr : rowOf w b = some cells) : ∀ (row : List C) (off : Nat), (∀ (j : Nat) (c : C), row[j]? = some c → ∃ v, cells[off + j]? = some v ∧ Rep w v c) → RepRow w b off row
  | [], _, _ => by simp [RepRow]
  | c0 :: r, off, h => by
    simp only [RepRow]
    obtain ⟨v, hv, hR⟩ := h 0 c0 (by simp)
    refine ⟨⟨cells, v, hr, by simpa using hv, hR⟩, RepRow.of hr r (off + 1) fun j c hc => ?_⟩
    obtain ⟨v, hv, hR⟩ := h (j + 1) c (by simpa using hc)
    exact ⟨v, by rw [show off + 1 + j = off + (j + 1) by omega]; exact hv, hR⟩

theorem RepRows.get {w : World} {b s : Nat} : ∀ (rows : List (List C)) (off : Nat), RepRows w b s off rows → ∀ (i : Nat) (row : List C), rows[i]? = some row → row.length = s ∧ RepRow w b (off + i * s) row
  | [], _, _, i, row, hr => by simp at hr
  | row0 :: r, off, h, i, row, hr => by
    simp only [RepRows] at h
    cases i with
    | zero => simp at hr; subst hr; simpa using ⟨h.1, h.2.1⟩
    | succ i =>
      have := RepRows.get r (off + s) h.2.2 i row (by simpa using hr)
      rw [show off + (i + 1) * s = off + s + i * s by rw [Nat.add_mul]; omega]
      exact this

theorem RepRows.of {w : World} {b s : Nat} : ∀ (rows : List (List C)) (off : Nat), (∀ (i : Nat) (row : List C), rows[i]? = some row → row.length = s ∧ RepRow w b (off + i * s) row) → RepRows w b s off rows
  | [], _, _ => by simp [RepRows]
  | row0 :: r, off, h => by
    simp only [RepRows]
    obtain ⟨h1, h2⟩ := h 0 row0 (by simp)
    refine ⟨h1, by simpa using h2, RepRows.of r (off + s) fun i row hr => ?_⟩
    have := h (i + 1) row (by simpa using hr)
    rw [show off + (i + 1) * s = off + s + i * s by rw [Nat.add_mul]; omega] at this
    exact this
end Go.Opt
/- More on what is read through memory: parts of slices, what is appended, what is stored at a path's end. -/
set_option linter.unusedVariables false
namespace Go.Opt
open Go.RowKit

theorem fpRow_append (w : World) (b : Nat) : ∀ (xs ys : List C) (off : Nat), fpRow w b off (xs ++ ys) = fpRow w b off xs ++ fpRow w b (off + xs.length) ys
  | [], ys, off => by simp [fpRow]
  | x :: xs, ys, off => by
    simp only [List.cons_append, fpRow, fpRow_append w b xs ys (off + 1), List.append_assoc, List.length_cons]
    rw [show off + (xs.length + 1) = off + 1 + xs.length by omega]

theorem fpRows_append (w : World) (b s : Nat) : ∀ (xs ys : List (List C)) (off : Nat), fpRows w b s off (xs ++ ys) = fpRows w b s off xs ++ fpRows w b s (off + xs.length * s) ys
  | [], ys, off => by simp [fpRows]
  | x :: xs, ys, off => by
    simp only [List.cons_append, fpRows, fpRows_append w b s xs ys (off + s), List.append_assoc, List.length_cons]
    rw [show off + (xs.length + 1) * s = off + s + xs.length * s by rw [Nat.add_mul]; omega]

theorem RepRow_append (w : World) (b : Nat) : ∀ (xs ys : List C) (off : Nat), RepRow w b off (xs ++ ys) ↔ RepRow w b off xs ∧ RepRow w b (off + xs.length) ys
  | [], ys, off => by simp [RepRow]
  | x :: xs, ys, off => by
    simp only [List.cons_append, RepRow, RepRow_append w b xs ys (off + 1), List.length_cons]
    rw [show off + (xs.length + 1) = off + 1 + xs.length by omega, and_assoc]

theorem RepRows_append (w : World) (b s : Nat) : ∀ (xs ys : List (List C)) (off : Nat), RepRows w b s off (xs ++ ys) ↔ RepRows w b s off xs ∧ RepRows w b s (off + xs.length * s) ys
  | [], ys, off => by simp [RepRows]
  | x :: xs, ys, off => by
    simp only [List.cons_append, RepRows, RepRows_append w b s xs ys (off + s), List.length_cons]
    rw [show off + (xs.length + 1) * s = off + s + xs.length * s by rw [Nat.add_mul]; omega]
    simp only [and_assoc]

/-- A part of a list between two others. -/
theorem parted {α : Type} (l : List α) {i j : Nat} (hij : i ≤ j) (hj : j ≤ l.length) : l = l.take i ++ ((l.take j).drop i ++ l.drop j) := by
  have h1 : (l.take j) = l.take i ++ (l.take j).drop i := by
    have : l.take i = (l.take j).take i := by rw [List.take_take, Nat.min_eq_left hij]
    rw [this, List.take_append_drop]
  calc l = l.take j ++ l.drop j := (List.take_append_drop j l).symm
    _ = (l.take i ++ (l.take j).drop i) ++ l.drop j := by rw [← h1]
    _ = _ := by rw [List.append_assoc]

theorem RepRows.part {w : World} {b s off : Nat} {rows : List (List C)} (h : RepRows w b s off rows) {i j : Nat} (hij : i ≤ j) (hj : j ≤ rows.length) :
    RepRows w b s (off + i * s) ((rows.take j).drop i) ∧ List.Sublist (fpRows w b s (off + i * s) ((rows.take j).drop i)) (fpRows w b s off rows) := by
  have hp := parted rows hij hj
  have hl : (rows.take i).length = i := by simp; omega
  have h' := h
  rw [hp, RepRows_append, RepRows_append, hl] at h'
  refine ⟨h'.2.1, ?_⟩
  conv => rhs; rw [hp]
  rw [fpRows_append, fpRows_append, hl]
  exact ((List.sublist_append_left _ _).trans (List.sublist_append_right _ _))

theorem RepRow.part {w : World} {b off : Nat} {row : List C} (h : RepRow w b off row) {i j : Nat} (hij : i ≤ j) (hj : j ≤ row.length) :
    RepRow w b (off + i) ((row.take j).drop i) ∧ ∃ A B, fpRow w b off row = A ++ fpRow w b (off + i) ((row.take j).drop i) ++ B := by
  have hp := parted row hij hj
  have hl : (row.take i).length = i := by simp; omega
  have h' := h
  rw [hp, RepRow_append, RepRow_append, hl] at h'
  refine ⟨h'.2.1, fpRow w b off (row.take i), fpRow w b (off + i + ((row.take j).drop i).length) (row.drop j), ?_⟩
  conv => lhs; rw [hp]
  rw [fpRow_append, fpRow_append, hl, List.append_assoc]

/-- The blocks of cells side by side. -/
def fps (w : World) : List Value → List C → List Nat
  | v :: vs, c :: cs => fp w v c ++ fps w vs cs
  | _, _ => []

theorem fps_append (w : World) : ∀ (vs : List Value) (cs : List C) (vs' : List Value) (cs' : List C), vs.length = cs.length → fps w (vs ++ vs') (cs ++ cs') = fps w vs cs ++ fps w vs' cs'
  | [], [], _, _, _ => by simp [fps]
  | v :: vs, c :: cs, vs', cs', h => by simp only [List.cons_append, fps, fps_append w vs cs vs' cs' (by simpa using h), List.append_assoc]
  | [], _ :: _, _, _, h => by simp at h
  | _ :: _, [], _, _, h => by simp at h

/-- A row in a block, as values side by side. -/
theorem RepRow.reps {w : World} {b : Nat} {cells : Array Value} (hb : rowOf w b = some cells) : ∀ (row : List C) (off : Nat), RepRow w b off row →
    off + row.length ≤ cells.size ∨ row = [] → Reps w ((cells.toList.drop off).take row.length) row ∧ fpRow w b off row = fps w ((cells.toList.drop off).take row.length) row
  | [], off, _, _ => by simp [Reps, fps, fpRow]
  | c :: r, off, h, hl => by
    simp only [RepRow] at h
    obtain ⟨⟨cells', v, hc, hv, hR⟩, hr⟩ := h
    rw [hb] at hc; cases hc
    have hlt : off < cells.size := by
      by_cases h : off < cells.size
      · exact h
      · rw [Array.getElem?_eq_none (by omega)] at hv; simp at hv
    have hlen : off + (c :: r).length ≤ cells.size := by simpa using hl
    obtain ⟨h1, h2⟩ := RepRow.reps hb r (off + 1) hr (.inl (by simp at hlen; omega))
    have hd : cells.toList.drop off = v :: cells.toList.drop (off + 1) := by
      rw [List.drop_eq_getElem_cons (by simpa using hlt)]
      congr 1
      rw [Array.getElem?_eq_getElem hlt] at hv
      simpa using hv
    rw [hd]
    simp only [List.length_cons, List.take_succ_cons, Reps, fps, fpRow, hb, hv, h2]
    exact ⟨⟨hR, h1⟩, trivial⟩

theorem RepRow.size {w : World} {b : Nat} {cells : Array Value} (hb : rowOf w b = some cells) : ∀ (row : List C) (off : Nat), RepRow w b off row → row ≠ [] → off + row.length ≤ cells.size
  | [], _, _, h => absurd rfl h
  | [c], off, h, _ => by
    simp only [RepRow] at h
    obtain ⟨⟨cells', v, hc, hv, _⟩, _⟩ := h
    rw [hb] at hc; cases hc
    by_cases hh : off < cells.size
    · simp; omega
    · rw [Array.getElem?_eq_none (by omega)] at hv; simp at hv
  | c :: d :: r, off, h, _ => by
    simp only [RepRow] at h
    have := RepRow.size hb (d :: r) (off + 1) (by simpa [RepRow] using h.2) (by simp)
    simp at this ⊢
    omega

/-- Values side by side that lie in a block. -/
theorem RepRow.ofReps {w : World} {b : Nat} {cells : Array Value} (hb : rowOf w b = some cells) : ∀ (row : List C) (vs : List Value) (off : Nat), Reps w vs row → (∀ (j : Nat) (v : Value), vs[j]? = some v → cells[off + j]? = some v) →
    RepRow w b off row ∧ fpRow w b off row = fps w vs row
  | [], [], off, _, _ => by simp [RepRow, fpRow, fps]
  | c :: r, v :: vs, off, h, hv => by
    simp only [Reps] at h
    have h0 : cells[off]? = some v := by simpa using hv 0 v (by simp)
    obtain ⟨h1, h2⟩ := RepRow.ofReps hb r vs (off + 1) h.2 fun j u hu => by
      have := hv (j + 1) u (by simpa using hu)
      rwa [show off + (j + 1) = off + 1 + j by omega] at this
    simp only [RepRow, fpRow, fps, hb, h0, h2]
    exact ⟨⟨⟨cells, v, rfl, h0, h.1⟩, h1⟩, trivial⟩
  | [], _ :: _, _, h, _ => by simp [Reps] at h
  | _ :: _, [], _, h, _ => by simp [Reps] at h

theorem Reps.frame {w w' : World} : ∀ (cs : List C) (vs : List Value), Reps w vs cs → (∀ b ∈ fps w vs cs, w'.heap[b]? = w.heap[b]?) → Reps w' vs cs ∧ fps w' vs cs = fps w vs cs
  | [], [], _, _ => by simp [Reps, fps]
  | c :: cs, v :: vs, h, hf => by
    simp only [Reps] at h
    simp only [fps, List.mem_append] at hf
    obtain ⟨h1, e1⟩ := Rep.frame c v h.1 fun b hb => hf b (.inl hb)
    obtain ⟨h2, e2⟩ := Reps.frame cs vs h.2 fun b hb => hf b (.inr hb)
    simp only [Reps, fps, e1, e2]
    exact ⟨⟨h1, h2⟩, trivial⟩
  | [], _ :: _, h, _ => by simp [Reps] at h
  | _ :: _, [], h, _ => by simp [Reps] at h

theorem Reps.append {w : World} : ∀ {vs : List Value} {cs : List C} {vs' : List Value} {cs' : List C}, Reps w vs cs → Reps w vs' cs' → Reps w (vs ++ vs') (cs ++ cs')
  | [], [], _, _, _, h => h
  | v :: vs, c :: cs, _, _, h, h' => by simp only [Reps] at h; simp only [List.cons_append, Reps]; exact ⟨h.1, Reps.append h.2 h'⟩
  | [], _ :: _, _, _, h, _ => by simp [Reps] at h
  | _ :: _, [], _, _, h, _ => by simp [Reps] at h

/-- Rows all cells of which lie side by side in a block. -/
theorem RepRows.ofReps {w : World} {b s : Nat} {cells : Array Value} (hb : rowOf w b = some cells) : ∀ (rows : List (List C)) (vs : List Value) (off : Nat), (∀ row ∈ rows, row.length = s) → Reps w vs rows.flatten →
    (∀ (j : Nat) (v : Value), vs[j]? = some v → cells[off + j]? = some v) → RepRows w b s off rows ∧ fpRows w b s off rows = fps w vs rows.flatten
  | [], vs, off, _, h, _ => by
    cases vs with
    | nil => simp [RepRows, fpRows, fps]
    | cons => simp [Reps] at h
  | row :: r, vs, off, hs, h, hv => by
    have hrow := hs row (by simp)
    have hlen := h.length
    simp only [List.flatten_cons, List.length_append] at hlen
    have hsplit : vs = vs.take row.length ++ vs.drop row.length := (List.take_append_drop _ _).symm
    have h1 : Reps w (vs.take row.length) row := Reps.of (by simp; omega) fun j v c hvj hcj => by
      have hj : j < row.length := by
        by_cases hh : j < row.length
        · exact hh
        · rw [List.getElem?_eq_none (by omega)] at hcj; simp at hcj
      refine h.get j v c ?_ ?_
      · rw [List.getElem?_take, if_pos hj] at hvj; exact hvj
      · simp only [List.flatten_cons]; rw [List.getElem?_append_left hj]; exact hcj
    have h2 : Reps w (vs.drop row.length) r.flatten := Reps.of (by simp only [List.length_drop]; omega) fun j v c hvj hcj => by
      refine h.get (row.length + j) v c ?_ ?_
      · rw [List.getElem?_drop] at hvj; exact hvj
      · simp only [List.flatten_cons]; rw [List.getElem?_append_right (by omega)]; simpa using hcj
    obtain ⟨a1, a2⟩ := RepRow.ofReps hb row (vs.take row.length) off h1 fun j v hvj => hv j v (by rw [List.getElem?_take] at hvj; split at hvj; exact hvj; cases hvj)
    obtain ⟨b1, b2⟩ := RepRows.ofReps hb r (vs.drop row.length) (off + s) (fun x hx => hs x (by simp [hx])) h2 fun j v hvj => by
      rw [List.getElem?_drop] at hvj
      have := hv (row.length + j) v hvj
      rwa [show off + (row.length + j) = off + s + j by omega] at this
    refine ⟨by simp only [RepRows]; exact ⟨hrow, a1, b1⟩, ?_⟩
    simp only [fpRows, List.flatten_cons, a2, b2]
    conv => rhs; rw [hsplit]
    rw [fps_append _ _ _ _ _ (by simp; omega)]

/-- The other way: rows in a block, as values side by side. -/
theorem RepRows.reps {w : World} {b s : Nat} {cells : Array Value} (hb : rowOf w b = some cells) : ∀ (rows : List (List C)) (off : Nat), RepRows w b s off rows → off + rows.length * s ≤ cells.size →
    Reps w ((cells.toList.drop off).take (rows.length * s)) rows.flatten ∧ fpRows w b s off rows = fps w ((cells.toList.drop off).take (rows.length * s)) rows.flatten
  | [], off, _, _ => by simp [Reps, fps, fpRows]
  | row :: r, off, h, hl => by
    simp only [RepRows] at h
    have hl' : off + s + r.length * s ≤ cells.size := by simp [Nat.add_mul] at hl; omega
    obtain ⟨a1, a2⟩ := RepRow.reps hb row off h.2.1 (.inl (by omega))
    obtain ⟨b1, b2⟩ := RepRows.reps hb r (off + s) h.2.2 hl'
    have e : (cells.toList.drop off).take ((row :: r).length * s) = (cells.toList.drop off).take row.length ++ (cells.toList.drop (off + s)).take (r.length * s) := by
      rw [h.1]
      simp only [List.length_cons, Nat.add_mul, Nat.one_mul]
      rw [Nat.add_comm (r.length * s) s, List.take_add, List.drop_drop]
    rw [e]
    simp only [List.flatten_cons, fpRows, a2, b2]
    refine ⟨Reps.append a1 b1, ?_⟩
    rw [fps_append _ _ _ _ _ (by simp; omega)]
end Go.Opt
/- Cells at a path's end: where they lie, what is read there, what becomes of the whole when they are overwritten. -/
set_option linter.unusedVariables false
namespace Go.Opt
open Go.RowKit

def locate (w : World) : Value → C → Path → Option (Nat × Nat)
  | .slice (some a) _ _, .sl s rows, (i, k) :: rest =>
    match rows[i]? with
    | none => none
    | some row =>
      match rest with
      | [] => some (a.block, a.off + i * s + k)
      | _ :: _ => match row[k]?, rowOf w a.block with
        | some x, some cells => match cells[a.off + i * s + k]? with
          | some u => locate w u x rest
          | none => none
        | _, _ => none
  | _, _, _ => none

theorem C.get_one (n s i k : Nat) (rows : List (List C)) : C.get n [(i, k)] (.sl s rows) = (match rows[i]? with | some row => if k + n ≤ row.length then some ((row.drop k).take n) else none | none => none) := rfl
theorem C.get_more (n s i k : Nat) (rows : List (List C)) (p : Nat × Nat) (rest : Path) : C.get n ((i, k) :: p :: rest) (.sl s rows) = (match rows[i]? with | some row => (match row[k]? with | some x => x.get n (p :: rest) | none => none) | none => none) := rfl
theorem C.set_one (cs : List C) (s i k : Nat) (rows : List (List C)) : C.set cs [(i, k)] (.sl s rows) = (match rows[i]? with | some row => if k + cs.length ≤ row.length then some (.sl s (rows.set i (splice row k cs))) else none | none => none) := rfl
theorem C.set_more (cs : List C) (s i k : Nat) (rows : List (List C)) (p : Nat × Nat) (rest : Path) : C.set cs ((i, k) :: p :: rest) (.sl s rows) = (match rows[i]? with | some row => (match row[k]? with | some x => (match x.set cs (p :: rest) with | some y => some (.sl s (rows.set i (row.set k y))) | none => none) | none => none) | none => none) := rfl

/-- A row between rows, a cell between cells. -/
theorem fpRows_at (w : World) (b s off : Nat) (rows : List (List C)) (i : Nat) (row : List C) (h : rows[i]? = some row) :
    fpRows w b s off rows = fpRows w b s off (rows.take i) ++ fpRow w b (off + i * s) row ++ fpRows w b s (off + (i + 1) * s) (rows.drop (i + 1)) := by
  obtain ⟨hi, hrow⟩ := List.getElem?_eq_some_iff.1 h
  have e : rows = rows.take i ++ (row :: rows.drop (i + 1)) := by rw [← hrow, ← List.drop_eq_getElem_cons hi, List.take_append_drop]
  have hl : (rows.take i).length = i := by simp; omega
  conv => lhs; rw [e]
  rw [fpRows_append, hl]
  simp only [fpRows, List.append_assoc]
  rw [show off + i * s + s = off + (i + 1) * s by rw [Nat.add_mul]; omega]

theorem fpRow_at (w : World) (b off : Nat) (row : List C) (k : Nat) (x : C) (h : row[k]? = some x) (cells : Array Value) (u : Value) (hb : rowOf w b = some cells) (hu : cells[off + k]? = some u) :
    fpRow w b off row = fpRow w b off (row.take k) ++ fp w u x ++ fpRow w b (off + (k + 1)) (row.drop (k + 1)) := by
  obtain ⟨hk, hx⟩ := List.getElem?_eq_some_iff.1 h
  have e : row = row.take k ++ (x :: row.drop (k + 1)) := by rw [← hx, ← List.drop_eq_getElem_cons hk, List.take_append_drop]
  have hl : (row.take k).length = k := by simp; omega
  conv => lhs; rw [e]
  rw [fpRow_append, hl]
  simp only [fpRow, hb, hu, List.append_assoc]
  rw [show off + k + 1 = off + (k + 1) by omega]

theorem get_ok {w : World} {n : Nat} : ∀ (path : Path) (v : Value) (c : C) (cs : List C), Rep w v c → c.get n path = some cs →
    ∃ b off, locate w v c path = some (b, off) ∧ RepRow w b off cs ∧ b ∈ fp w v c ∧ cs.length = n ∧ (∃ cells, rowOf w b = some cells ∧ off + n ≤ cells.size) ∧ ∃ A B, fp w v c = A ++ fpRow w b off cs ++ B
  | [], v, c, cs, h, hg => by cases c <;> simp [C.get] at hg
  | (i, k) :: rest, v, .int _ _, cs, h, hg => by cases rest <;> simp [C.get] at hg
  | (i, k) :: rest, v, .bool _, cs, h, hg => by cases rest <;> simp [C.get] at hg
  | (i, k) :: rest, v, .str _, cs, h, hg => by cases rest <;> simp [C.get] at hg
  | (i, k) :: rest, v, .sl s rows, cs, h, hg => by
    simp only [Rep] at h
    obtain ⟨base, cap, rfl, hle, hb⟩ := h
    cases hri : rows[i]? with
    | none => cases rest <;> simp [C.get, hri] at hg
    | some row =>
      have hi : i < rows.length := (List.getElem?_eq_some_iff.1 hri).1
      cases base with
      | none => simp only at hb; omega
      | some a =>
        have h0 : ¬ cap = 0 := by omega
        obtain ⟨hs, ⟨cells, hc, hcap⟩, hr⟩ := hb (by omega)
        obtain ⟨hrl, hrow⟩ := hr.get rows a.off i row hri
        have hcell : a.off + i * s + s ≤ cells.size := by
          have : (i + 1) * s ≤ cap * s := Nat.mul_le_mul_right _ (by omega)
          rw [Nat.add_mul] at this
          omega
        cases rest with
        | nil =>
          rw [C.get_one, hri] at hg
          simp only at hg
          split at hg
          · rename_i hk
            cases hg
            have hpart := hrow.part (i := k) (j := k + n) (by omega) hk
            have e : (row.take (k + n)).drop k = (row.drop k).take n := by
              rw [List.drop_take]; congr 1; omega
            rw [e] at hpart
            obtain ⟨hp, A, B, hAB⟩ := hpart
            refine ⟨a.block, a.off + i * s + k, by simp [locate, hri], hp, by simp [fp, h0], by simp; omega, ⟨cells, hc, by omega⟩, ?_⟩
            refine ⟨a.block :: (fpRows w a.block s a.off (rows.take i) ++ A), B ++ fpRows w a.block s (a.off + (i + 1) * s) (rows.drop (i + 1)), ?_⟩
            simp only [fp, h0, if_false]
            rw [fpRows_at w a.block s a.off rows i row hri, hAB]
            simp [List.append_assoc]
          · cases hg
        | cons p rest =>
          rw [C.get_more, hri] at hg
          simp only at hg
          cases hrk : row[k]? with
          | none => simp [hrk] at hg
          | some x =>
            simp only [hrk] at hg
            obtain ⟨cells', u, hc', hu, hRu⟩ := hrow.get row _ k x hrk
            rw [hc] at hc'; cases hc'
            obtain ⟨b, off, hl, h1, h2, h3, h4, A, B, hAB⟩ := get_ok (p :: rest) u x cs hRu hg
            have hin : fp w (.slice (some a) rows.length cap) (.sl s rows) = (a.block :: (fpRows w a.block s a.off (rows.take i) ++ fpRow w a.block (a.off + i * s) (row.take k))) ++ fp w u x ++ (fpRow w a.block (a.off + i * s + (k + 1)) (row.drop (k + 1)) ++ fpRows w a.block s (a.off + (i + 1) * s) (rows.drop (i + 1))) := by
              simp only [fp, h0, if_false]
              rw [fpRows_at w a.block s a.off rows i row hri, fpRow_at w a.block (a.off + i * s) row k x hrk cells u hc hu]
              simp [List.append_assoc]
            refine ⟨b, off, by simp only [locate, hri, hrk, hc, hu]; exact hl, h1, ?_, h3, h4, ?_⟩
            · rw [hin]; simp [h2]
            · exact ⟨(a.block :: (fpRows w a.block s a.off (rows.take i) ++ fpRow w a.block (a.off + i * s) (row.take k))) ++ A, B ++ (fpRow w a.block (a.off + i * s + (k + 1)) (row.drop (k + 1)) ++ fpRows w a.block s (a.off + (i + 1) * s) (rows.drop (i + 1))), by rw [hin, hAB]; simp only [List.append_assoc]⟩

/-- A row of cells that have not changed, in a block that has. -/
theorem RepRow.frame' {w w' : World} {b : Nat} {cells cells' : Array Value} (hb : rowOf w b = some cells) (hb' : rowOf w' b = some cells') (ho : ∀ k, k ≠ b → w'.heap[k]? = w.heap[k]?) :
    ∀ (row : List C) (off : Nat), RepRow w b off row → (∀ j, off ≤ j → j < off + row.length → cells'[j]? = cells[j]?) → b ∉ fpRow w b off row → RepRow w' b off row ∧ fpRow w' b off row = fpRow w b off row
  | [], off, _, _, _ => by simp [RepRow, fpRow]
  | c :: r, off, h, hsame, hnot => by
    simp only [RepRow] at h
    obtain ⟨⟨cells0, v, hc, hv, hR⟩, hr⟩ := h
    rw [hb] at hc; cases hc
    simp only [fpRow, hb, hv, List.mem_append, not_or] at hnot
    obtain ⟨h1, e1⟩ := Rep.frame (w' := w') c v hR fun k hk => ho k fun e => hnot.1 (e ▸ hk)
    obtain ⟨h2, e2⟩ := RepRow.frame' hb hb' ho r (off + 1) hr (fun j h1 h2 => hsame j (by omega) (by simp; omega)) hnot.2
    have hv' : cells'[off]? = some v := by rw [hsame off (by omega) (by simp)]; exact hv
    simp only [RepRow, fpRow, hb, hb', hv, hv', e1, e2]
    exact ⟨⟨⟨cells', v, rfl, hv', h1⟩, h2⟩, trivial⟩

theorem RepRows.frame' {w w' : World} {b s : Nat} {cells cells' : Array Value} (hb : rowOf w b = some cells) (hb' : rowOf w' b = some cells') (ho : ∀ k, k ≠ b → w'.heap[k]? = w.heap[k]?) :
    ∀ (rows : List (List C)) (off : Nat), RepRows w b s off rows → (∀ j, off ≤ j → j < off + rows.length * s → cells'[j]? = cells[j]?) → b ∉ fpRows w b s off rows → RepRows w' b s off rows ∧ fpRows w' b s off rows = fpRows w b s off rows
  | [], off, _, _, _ => by simp [RepRows, fpRows]
  | row :: r, off, h, hsame, hnot => by
    simp only [RepRows] at h
    simp only [fpRows, List.mem_append, not_or] at hnot
    have hm : (r.length + 1) * s = r.length * s + s := by rw [Nat.add_mul, Nat.one_mul]
    obtain ⟨h1, e1⟩ := RepRow.frame' hb hb' ho row off h.2.1 (fun j a1 a2 => hsame j a1 (by simp only [List.length_cons, hm]; have := h.1; omega)) hnot.1
    obtain ⟨h2, e2⟩ := RepRows.frame' hb hb' ho r (off + s) h.2.2 (fun j a1 a2 => hsame j (by omega) (by simp only [List.length_cons, hm]; omega)) hnot.2
    simp only [RepRows, fpRows, e1, e2]
    exact ⟨⟨h.1, h1, h2⟩, trivial⟩

theorem set_eq_split {α : Type} (l : List α) (i : Nat) (y : α) (h : i < l.length) : l.set i y = l.take i ++ (y :: l.drop (i + 1)) := by
  rw [List.set_eq_take_append_cons_drop, if_pos h]

/-- CELLS AT A PATH'S END ARE OVERWRITTEN. 'b': the block in which they lie; it is met once. -/
theorem set_ok {w w' : World} {b off : Nat} {vs : List Value} {cs : List C} {cells cells' : Array Value} (hb : rowOf w b = some cells) (hb' : rowOf w' b = some cells') (hsz : cells'.size = cells.size)
    (ho : ∀ k, k ≠ b → w'.heap[k]? = w.heap[k]?) (hsame : ∀ j, j < off ∨ off + cs.length ≤ j → cells'[j]? = cells[j]?) (hnew : ∀ (j : Nat) (v : Value), vs[j]? = some v → cells'[off + j]? = some v)
    (hR : Reps w vs cs) (hnb : b ∉ fps w vs cs) :
    ∀ (path : Path) (v : Value) (c c' : C), Rep w v c → c.set cs path = some c' → locate w v c path = some (b, off) → (fp w v c).count b = 1 →
      Rep w' v c' ∧ ∃ A B old, fp w v c = A ++ old ++ B ∧ fp w' v c' = A ++ fps w vs cs ++ B
  | [], v, c, c', h, hg, _, _ => by cases c <;> simp [C.set] at hg
  | (i, k) :: rest, v, .int _ _, c', h, hg, _, _ => by cases rest <;> simp [C.set] at hg
  | (i, k) :: rest, v, .bool _, c', h, hg, _, _ => by cases rest <;> simp [C.set] at hg
  | (i, k) :: rest, v, .str _, c', h, hg, _, _ => by cases rest <;> simp [C.set] at hg
  | (i, k) :: rest, v, .sl s rows, c', h, hg, hloc, hcnt => by
    obtain ⟨hR', hfps⟩ := Reps.frame (w' := w') cs vs hR fun k hk => ho k fun e => hnb (e ▸ hk)
    simp only [Rep] at h
    obtain ⟨base, cap, rfl, hle, hbase⟩ := h
    cases hri : rows[i]? with
    | none => cases rest <;> simp [C.set, hri] at hg
    | some row =>
      obtain ⟨hi, hrow0⟩ := List.getElem?_eq_some_iff.1 hri
      cases base with
      | none => simp only at hbase; omega
      | some a =>
        have h0 : ¬ cap = 0 := by omega
        obtain ⟨hs, ⟨cellsA, hc, hcap⟩, hr⟩ := hbase (by omega)
        obtain ⟨hrl, hrow⟩ := hr.get rows a.off i row hri
        have hm : (i + 1) * s = i * s + s := by rw [Nat.add_mul, Nat.one_mul]
        have hcell : a.off + i * s + s ≤ cellsA.size := by
          have : (i + 1) * s ≤ cap * s := Nat.mul_le_mul_right _ (by omega)
          omega
        have hl1 : (rows.take i).length = i := by simp; omega
        have erows : rows = rows.take i ++ (row :: rows.drop (i + 1)) := by rw [← hrow0, ← List.drop_eq_getElem_cons hi, List.take_append_drop]
        have hr0 := hr
        rw [erows, RepRows_append, hl1] at hr0
        simp only [RepRows] at hr0
        rw [show a.off + i * s + s = a.off + (i + 1) * s by omega] at hr0
        have hfpA := fpRows_at w a.block s a.off rows i row hri
        cases rest with
        | nil =>
          rw [C.set_one, hri] at hg
          simp only at hg
          split at hg
          · rename_i hk
            cases hg
            simp only [locate, hri, Option.some.injEq, Prod.mk.injEq] at hloc
            obtain ⟨rfl, rfl⟩ := hloc
            rw [hb] at hc; cases hc
            have hl3 : (row.take k).length = k := by simp; omega
            -- the head block is met nowhere further in
            have hnot : a.block ∉ fpRows w a.block s a.off rows := by
              intro hin
              simp only [fp, h0, if_false, List.count_cons_self] at hcnt
              have := List.one_le_count_iff.2 hin
              omega
            have hpr := parted row (i := k) (j := k + cs.length) (by omega) hk
            have hrow' := hrow
            rw [hpr, RepRow_append, RepRow_append, hl3] at hrow'
            have hlm : ((row.take (k + cs.length)).drop k).length = cs.length := by simp; omega
            rw [hlm] at hrow'
            have hfr : fpRow w a.block (a.off + i * s) row = fpRow w a.block (a.off + i * s) (row.take k) ++ (fpRow w a.block (a.off + i * s + k) ((row.take (k + cs.length)).drop k) ++ fpRow w a.block (a.off + i * s + k + cs.length) (row.drop (k + cs.length))) := by
              conv => lhs; rw [hpr]
              rw [fpRow_append, fpRow_append, hl3, hlm]
            rw [hfpA, hfr] at hnot
            simp only [List.mem_append, not_or] at hnot
            obtain ⟨⟨n1, n2, n3, n4⟩, n5⟩ := hnot
            obtain ⟨a1, e1⟩ := RepRows.frame' hb hb' ho (rows.take i) a.off hr0.1 (fun j j1 j2 => hsame j (.inl (by rw [hl1] at j2; omega))) n1
            obtain ⟨a2, e2⟩ := RepRow.frame' hb hb' ho (row.take k) (a.off + i * s) hrow'.1 (fun j j1 j2 => hsame j (.inl (by rw [hl3] at j2; omega))) n2
            obtain ⟨a4, e4⟩ := RepRow.frame' hb hb' ho (row.drop (k + cs.length)) (a.off + i * s + k + cs.length) hrow'.2.2 (fun j j1 j2 => hsame j (.inr (by omega))) n4
            obtain ⟨a5, e5⟩ := RepRows.frame' hb hb' ho (rows.drop (i + 1)) (a.off + (i + 1) * s) hr0.2.2.2 (fun j j1 j2 => hsame j (.inr (by omega))) n5
            obtain ⟨a3, e3⟩ := RepRow.ofReps hb' cs vs (a.off + i * s + k) hR' hnew
            have hrowN : RepRow w' a.block (a.off + i * s) (splice row k cs) := by
              unfold splice
              rw [List.append_assoc, RepRow_append, RepRow_append, hl3]
              exact ⟨a2, a3, a4⟩
            have hfpN : fpRow w' a.block (a.off + i * s) (splice row k cs) = fpRow w a.block (a.off + i * s) (row.take k) ++ (fps w vs cs ++ fpRow w a.block (a.off + i * s + k + cs.length) (row.drop (k + cs.length))) := by
              unfold splice
              rw [List.append_assoc, fpRow_append, fpRow_append, hl3, e2, e3, e4, hfps]
            have hlN : (splice row k cs).length = s := by unfold splice; simp; omega
            refine ⟨?_, ?_⟩
            · simp only [Rep]
              refine ⟨some a, cap, by simp, by simpa using hle, fun _ => ⟨hs, ⟨cells', hb', by rw [hsz]; exact hcap⟩, ?_⟩⟩
              rw [set_eq_split rows i _ hi, RepRows_append, hl1]
              simp only [RepRows]
              rw [show a.off + i * s + s = a.off + (i + 1) * s by omega]
              exact ⟨a1, hlN, hrowN, a5⟩
            · refine ⟨a.block :: (fpRows w a.block s a.off (rows.take i) ++ fpRow w a.block (a.off + i * s) (row.take k)), fpRow w a.block (a.off + i * s + k + cs.length) (row.drop (k + cs.length)) ++ fpRows w a.block s (a.off + (i + 1) * s) (rows.drop (i + 1)), fpRow w a.block (a.off + i * s + k) ((row.take (k + cs.length)).drop k), ?_, ?_⟩
              · simp only [fp, h0, if_false]; rw [hfpA, hfr]; simp [List.append_assoc]
              · simp only [fp, h0, if_false]
                rw [set_eq_split rows i _ hi, fpRows_append, hl1]
                simp only [fpRows]
                rw [show a.off + i * s + s = a.off + (i + 1) * s by omega, e1, hfpN, e5]
                simp [List.append_assoc]
          · cases hg
        | cons p rest =>
          rw [C.set_more, hri] at hg
          simp only at hg
          cases hrk : row[k]? with
          | none => simp [hrk] at hg
          | some x =>
            simp only [hrk] at hg
            cases hxy : x.set cs (p :: rest) with
            | none => simp [hxy] at hg
            | some y =>
              simp only [hxy, Option.some.injEq] at hg
              subst hg
              obtain ⟨hk, hx0⟩ := List.getElem?_eq_some_iff.1 hrk
              obtain ⟨cells0, u, hc', hu, hRu⟩ := hrow.get row _ k x hrk
              rw [hc] at hc'; cases hc'
              simp only [locate, hri, hrk, hc, hu] at hloc
              have hfr := fpRow_at w a.block (a.off + i * s) row k x hrk cellsA u hc hu
              -- the inner block is met in the inner value alone
              have hbin : b ∈ fp w u x := by
                have hg' : ∃ cs0, x.get 0 (p :: rest) = some cs0 := by
                  clear hcnt hfr hfpA
                  exact get_of_set (p :: rest) x y hxy
                obtain ⟨cs0, hg'⟩ := hg'
                obtain ⟨b', off', hl', _, hin, _⟩ := get_ok (p :: rest) u x cs0 hRu hg'
                rw [hloc] at hl'; cases hl'; exact hin
              have hcnt' : (fp w u x).count b = 1 ∧ b ≠ a.block ∧ b ∉ fpRows w a.block s a.off (rows.take i) ∧ b ∉ fpRow w a.block (a.off + i * s) (row.take k) ∧ b ∉ fpRow w a.block (a.off + i * s + (k + 1)) (row.drop (k + 1)) ∧ b ∉ fpRows w a.block s (a.off + (i + 1) * s) (rows.drop (i + 1)) := by
                have h1 := List.one_le_count_iff.2 hbin
                simp only [fp, h0, if_false] at hcnt
                rw [hfpA, hfr, List.count_cons] at hcnt
                simp only [List.count_append] at hcnt
                have hz : ∀ l : List Nat, l.count b = 0 → b ∉ l := fun l h => List.count_eq_zero.1 h
                refine ⟨by omega, fun e => ?_, hz _ (by omega), hz _ (by omega), hz _ (by omega), hz _ (by omega)⟩
                rw [if_pos (by simpa using e.symm)] at hcnt
                omega
              obtain ⟨c1, c2, c3, c4, c5, c6⟩ := hcnt'
              obtain ⟨hY, A, B, old, hA, hA'⟩ := set_ok hb hb' hsz ho hsame hnew hR hnb (p :: rest) u x y hRu hxy hloc c1
              have hheap : w'.heap[a.block]? = w.heap[a.block]? := ho a.block (fun e => c2 e.symm)
              have hrowA : rowOf w' a.block = some cellsA := by rw [rowOf_eq hheap]; exact hc
              have hl3 : (row.take k).length = k := by simp; omega
              have erow : row = row.take k ++ (x :: row.drop (k + 1)) := by rw [← hx0, ← List.drop_eq_getElem_cons hk, List.take_append_drop]
              have hrow' := hrow
              rw [erow, RepRow_append, hl3] at hrow'
              simp only [RepRow] at hrow'
              rw [show a.off + i * s + k + 1 = a.off + i * s + (k + 1) by omega] at hrow'
              have hfr1 := RepRows.frame (w' := w') (rows.take i) a.off hr0.1 hheap fun q hq => ho q fun e => c3 (e ▸ hq)
              have hfr2 := RepRow.frame (w' := w') (row.take k) (a.off + i * s) hrow'.1 hheap fun q hq => ho q fun e => c4 (e ▸ hq)
              have hfr4 := RepRow.frame (w' := w') (row.drop (k + 1)) (a.off + i * s + (k + 1)) hrow'.2.2 hheap fun q hq => ho q fun e => c5 (e ▸ hq)
              have hfr5 := RepRows.frame (w' := w') (rows.drop (i + 1)) (a.off + (i + 1) * s) hr0.2.2.2 hheap fun q hq => ho q fun e => c6 (e ▸ hq)
              have hrowN : RepRow w' a.block (a.off + i * s) (row.set k y) := by
                rw [set_eq_split row k _ hk, RepRow_append, hl3]
                simp only [RepRow]
                rw [show a.off + i * s + k + 1 = a.off + i * s + (k + 1) by omega]
                exact ⟨hfr2.1, ⟨cellsA, u, hrowA, hu, hY⟩, hfr4.1⟩
              have hfpN : fpRow w' a.block (a.off + i * s) (row.set k y) = fpRow w a.block (a.off + i * s) (row.take k) ++ (fp w' u y ++ fpRow w a.block (a.off + i * s + (k + 1)) (row.drop (k + 1))) := by
                rw [set_eq_split row k _ hk, fpRow_append, hl3]
                simp only [fpRow, hrowA, hu]
                rw [show a.off + i * s + k + 1 = a.off + i * s + (k + 1) by omega, hfr2.2, hfr4.2]
              refine ⟨?_, ?_⟩
              · simp only [Rep]
                refine ⟨some a, cap, by simp, by simpa using hle, fun _ => ⟨hs, ⟨cellsA, hrowA, hcap⟩, ?_⟩⟩
                rw [set_eq_split rows i _ hi, RepRows_append, hl1]
                simp only [RepRows]
                rw [show a.off + i * s + s = a.off + (i + 1) * s by omega]
                exact ⟨hfr1.1, by simpa using hrl, hrowN, hfr5.1⟩
              · refine ⟨a.block :: (fpRows w a.block s a.off (rows.take i) ++ fpRow w a.block (a.off + i * s) (row.take k) ++ A), B ++ (fpRow w a.block (a.off + i * s + (k + 1)) (row.drop (k + 1)) ++ fpRows w a.block s (a.off + (i + 1) * s) (rows.drop (i + 1))), old, ?_, ?_⟩
                · simp only [fp, h0, if_false]; rw [hfpA, hfr, hA]; simp [List.append_assoc]
                · simp only [fp, h0, if_false]
                  rw [set_eq_split rows i _ hi, fpRows_append, hl1]
                  simp only [fpRows]
                  rw [show a.off + i * s + s = a.off + (i + 1) * s by omega, hfr1.2, hfpN, hfr5.2, hA']
                  simp [List.append_assoc]
where
  get_of_set {cs : List C} : ∀ (path : Path) (c c' : C), c.set cs path = some c' → ∃ cs0, c.get 0 path = some cs0
    | [], c, c', h => by cases c <;> simp [C.set] at h
    | (i, k) :: rest, .int _ _, c', h => by cases rest <;> simp [C.set] at h
    | (i, k) :: rest, .bool _, c', h => by cases rest <;> simp [C.set] at h
    | (i, k) :: rest, .str _, c', h => by cases rest <;> simp [C.set] at h
    | (i, k) :: [], .sl s rows, c', h => by
      rw [C.set_one] at h
      cases hri : rows[i]? with
      | none => simp [hri] at h
      | some row =>
        simp only [hri] at h
        split at h
        · rename_i hk; exact ⟨_, by rw [C.get_one, hri]; simp only; rw [if_pos (by omega)]⟩
        · cases h
    | (i, k) :: p :: rest, .sl s rows, c', h => by
      rw [C.set_more] at h
      cases hri : rows[i]? with
      | none => simp [hri] at h
      | some row =>
        simp only [hri] at h
        cases hrk : row[k]? with
        | none => simp [hrk] at h
        | some x =>
          simp only [hrk] at h
          cases hxy : x.set cs (p :: rest) with
          | none => simp [hxy] at h
          | some y =>
            obtain ⟨cs0, h0⟩ := get_of_set (p :: rest) x y hxy
            exact ⟨cs0, by rw [C.get_more, hri]; simp only [hrk]; exact h0⟩
end Go.Opt
/- What the static state, the data state and the machine's state have to do with each other. -/
set_option linter.unusedVariables false
namespace Go.Opt
open Go.RowKit

/-- Which block a class's memory is, which block a box is, which blocks can be reached. -/
structure Gh where
  lam : Nat → List Nat
  bet : Nat → Nat
  rch : Nat → Prop

/-- What the call began with: the world; the older blocks that it may write; those that it may reach besides; how many variables it has; the parameters that lie in a box of their own whose cells are never stored into; the arguments; the blocks of the boxes that came in. -/
structure Frm where
  w0 : World
  W : Nat → Prop
  Sh : Nat → Prop
  n : Nat
  ro : List (Nat × Nat)
  v0 : Nat → Value
  eb : Nat → Nat

def Frm.mine (F : Frm) (b : Nat) : Prop := F.w0.heap.size ≤ b ∨ F.W b

structure Kept (F : Frm) (w : World) : Prop where
  os : w.os = F.w0.os
  tape : w.tape = F.w0.tape
  output : w.output = F.w0.output
  size : F.w0.heap.size ≤ w.heap.size
  block : ∀ b, b < F.w0.heap.size → ¬ F.W b → w.heap[b]? = F.w0.heap[b]?

/-- What a cell's value shows of its data without memory. -/
def Hd : Value → C → Prop
  | v, .int k n => v = .int k n
  | v, .bool b => v = .bool b
  | v, .str l => v = .string ⟨l.toArray⟩
  | v, .sl s rows => ∃ base cap, v = .slice base rows.length cap ∧ rows.length ≤ cap ∧ match base with
    | none => cap = 0
    | some a => 0 < cap → a.spot = none

theorem Rep.hd {w : World} {v : Value} {c : C} (h : Rep w v c) : Hd v c := by
  cases c with
  | sl s rows =>
    simp only [Rep] at h
    obtain ⟨base, cap, rfl, hle, hb⟩ := h
    refine ⟨base, cap, rfl, hle, ?_⟩
    cases base with
    | none => exact hb
    | some a => exact fun hp => (hb hp).1
  | _ => simpa only [Rep, Hd] using h

/-- The surroundings of a cell: the world, the living classes, the boxes there are. -/
structure Cx where
  w : World
  L : Nat → Bool
  bx : Nat → Bool
  g : Gh

def FpOK (x : Cx) (m : CM) (F : List Nat) : Prop :=
  (∀ b ∈ F, (∀ k, x.bx k = true → b ≠ x.g.bet k) ∧ (∀ e, x.L e = true → b ∈ x.g.lam e → e ∈ m.deps) ∧ x.g.rch b) ∧
  (2 ≤ m.own → F.Nodup ∧ ∀ b ∈ F, ∃ e ∈ m.deps, b ∈ x.g.lam e) ∧
  (m.own = 1 ∨ m.own = 3 → ∀ b r, F = b :: r → b ∉ r ∧ ∃ e l, m.deps = e :: l ∧ b ∈ x.g.lam e)

def CellOK (x : Cx) (v : Value) (c : C) (m : CM) : Prop :=
  Hd v c ∧ (alive x.L m = true → Rep x.w v c ∧ FpOK x m (fp x.w v c))

structure CellsOK (x : Cx) (vs : List Value) (cs : List C) (ms : List CM) : Prop where
  lenV : vs.length = ms.length
  lenC : cs.length = ms.length
  each : ∀ (j : Nat) (v : Value) (c : C) (m : CM), vs[j]? = some v → cs[j]? = some c → ms[j]? = some m → CellOK x v c m
  apart : ∀ (i j : Nat) (v v' : Value) (c c' : C) (m m' : CM), i ≠ j → vs[i]? = some v → cs[i]? = some c → ms[i]? = some m → vs[j]? = some v' → cs[j]? = some c' → ms[j]? = some m' →
    2 ≤ m.own → 2 ≤ m'.own → alive x.L m = true → alive x.L m' = true → ∀ b ∈ fp x.w v c, b ∉ fp x.w v' c'

def VOK (x : Cx) (agg : Bool) (ms : List CM) (d : DV) (v : Value) : Prop :=
  if agg then ∃ cs vs, d = .agg cs ∧ v = .agg vs ∧ CellsOK x vs.toList cs ms
  else ∃ c, d = .c c ∧ CellsOK x [v] [c] ms

def DV.cellsL : DV → List C
  | .c x => [x]
  | .agg xs => xs
  | _ => []

def TupOK (x : Cx) (l : List (Bool × List CM)) (ds : List DV) (vs : List Value) : Prop :=
  ds.length = l.length ∧ vs.length = l.length ∧
  (∀ (i : Nat) (q : Bool × List CM) (d : DV) (v : Value), l[i]? = some q → ds[i]? = some d → vs[i]? = some v → VOK x q.1 q.2 d v) ∧
  CellsOK x (vs.flatMap fun v => v.cells.toList) (ds.flatMap DV.cellsL) (l.flatMap (·.2))

def TOK (x : Cx) : M → DV → Value → Prop
  | .dead, _, _ => True
  | .c _, .undef, v => ∀ b, v ≠ .bool b
  | _, .undef, _ => True
  | .c m, d, v => VOK x false [m] d v
  | .agg ms, d, v => VOK x true ms d v
  | .tup l, d, v => ∃ ds vs, d = .tup ds ∧ v = .tuple vs ∧ TupOK x l ds vs.toList

/-- The cells of a place, as values. -/
def placeV (w : World) (g : Gh) (a : Act) : Place → Option (List Value)
  | .tmp t => some [a.tmps.getD t undef]
  | .box b j => (rowOf w (g.bet b)).map fun cells => cells.toList.drop j

def guardHolds (σ : S) : Option (Nat × Bool) → Prop
  | none => True
  | some (t, b) => σ.t t = .c (.bool b)

def PtrOK (s : SS) (σ : S) (a : Act) (w : World) (g : Gh) (v : Value) : Ptr → Prop
  | .box b off => (s.b b).isSome = true ∧ v = .pointer (some ⟨g.bet b, off, none⟩)
  | .el p q => ∃ b off, v = .pointer (some ⟨b, off, none⟩) ∧ ∀ m c u us, modeAt s p = some m → alive s.L m = true → σ.cellAt p = some c → placeV w g a p = some (u :: us) →
      ∃ path, evPath σ.t q = some path ∧ locate w u c path = some (b, off)

/-- A variable holds a copy of what lies at a place: its cells, or, at a path's end, one cell. -/
def AlOK (s : SS) (σ : S) (a : Act) (w : World) (g : Gh) (v : Value) (dv : DV) (p : Place) (q : PathX) : Prop :=
  match q with
  | [] => match p with
    | .tmp t => v = a.tmps.getD t undef ∧ dv = σ.t t
    | .box b j => (s.b b).isSome = true ∧ ∃ cells cs, rowOf w (g.bet b) = some cells ∧ (cells.toList.drop j).take v.cells.size = v.cells.toList ∧ dv.cells = some cs ∧ ((σ.b b).drop j).take cs.length = cs
  | _ :: _ => ∀ m c u us, modeAt s p = some m → alive s.L m = true → σ.cellAt p = some c → placeV w g a p = some (u :: us) →
      ∃ path b off cells cs, evPath σ.t q = some path ∧ locate w u c path = some (b, off) ∧ rowOf w b = some cells ∧ (cells.toList.drop off).take v.cells.size = v.cells.toList ∧
        dv.cells = some cs ∧ c.get cs.length path = some cs

def SS.cx (s : SS) (w : World) (g : Gh) : Cx := ⟨w, s.L, fun k => (s.b k).isSome, g⟩

structure Inv (F : Frm) (s : SS) (σ : S) (a : Act) (w : World) (g : Gh) : Prop where
  kept : Kept F w
  size : a.tmps.size = F.n
  defers : a.defers = []
  reach : ∀ b, g.rch b ↔ (F.mine b ∨ F.Sh b)
  live : ∀ e, s.L e = true → ∀ b ∈ g.lam e, F.mine b ∧ open? w b
  apart : ∀ e e', s.L e = true → s.L e' = true → e ≠ e' → ∀ b ∈ g.lam e, b ∉ g.lam e'
  used : ∀ e, s.L e = true → s.U e = true
  usedT : ∀ k, ∀ e ∈ (s.t k).deps, s.U e = true
  usedB : ∀ k ms, s.b k = some ms → ∀ m ∈ ms, ∀ e ∈ m.deps, s.U e = true
  boxes : ∀ k ms, s.b k = some ms → F.mine (g.bet k) ∧ ∃ cells t, w.heap[g.bet k]? = some (.cells cells t (0, 0)) ∧ CellsOK (s.cx w g) cells.toList (σ.b k) ms
  boxLive : ∀ k, (s.b k).isSome = true → ∀ e, s.L e = true → g.bet k ∉ g.lam e
  boxInj : ∀ k k', (s.b k).isSome = true → (s.b k').isSome = true → g.bet k = g.bet k' → k = k'
  tmps : ∀ k, TOK (s.cx w g) (s.t k) (σ.t k) (a.tmps.getD k undef)
  ptrs : ∀ k q gd, s.p k = some (q, gd) → guardHolds σ gd → PtrOK s σ a w g (a.tmps.getD k undef) q
  als : ∀ k p q, s.a k = some (p, q) → σ.t k ≠ .undef → AlOK s σ a w g (a.tmps.getD k undef) (σ.t k) p q
  boxFresh : ∀ k, (s.b k).isSome = true → k < extBox 0 → F.w0.heap.size ≤ g.bet k
  ro : ∀ i k, (i, k) ∈ F.ro → (s.b k).isSome = true → ∃ t, w.heap[g.bet k]? = some (.cells (F.v0 i).cells t (0, 0))
  small : F.n ≤ extBox 0
  ext : ∀ k, extBox 0 ≤ k → (s.b k).isSome = true → g.bet k = F.eb k

/-! ### A variable gets a value -/
theorem put_get (a : Act) (d k : Nat) (v : Value) (h : d < a.tmps.size) : (a.put (some d) v).tmps.getD k undef = if k = d then v else a.tmps.getD k undef := by
  simp only [Act.put, Array.getD_eq_getD_getElem?, Array.getElem?_setIfInBounds]
  by_cases e : d = k
  · subst e; simp [h]
  · rw [if_neg e, if_neg (fun h => e h.symm)]

theorem evPath_upd {t : Nat → DV} {d : Nat} {v : DV} : ∀ {q : PathX}, d ∉ pathTmps q → evPath (upd t d v) q = evPath t q
  | [], _ => rfl
  | (x, k) :: r, h => by
    simp only [pathTmps, List.flatMap_cons, List.mem_append, not_or] at h
    have hx : x.ev (upd t d v) = x.ev t := by
      cases x with
      | t n => simp only [X.ev]; rw [upd_ne]; intro e; apply h.1; simp [X.tmps, e]
      | _ => rfl
    simp only [evPath, hx, evPath_upd (q := r) h.2]

theorem TOK_undef (x : Cx) (m : M) (v : Value) (h : ∀ b, v ≠ .bool b) : TOK x m .undef v := by cases m <;> simp only [TOK] <;> exact h
theorem TOK.undef {x y : Cx} {m m' : M} {v : Value} (h : TOK x m .undef v) (hm : ∀ q, m' = .c q → ∃ q', m = .c q') : TOK y m' .undef v := by
  cases m' with
  | c q =>
    obtain ⟨q', rfl⟩ := hm q rfl
    simpa [TOK] using h
  | _ => simp [TOK]

section
variable {F : Frm} {s : SS} {σ : S} {a : Act} {w : World} {g : Gh}

theorem modeAt_upd (s : SS) (d : Nat) (m : M) (p : Place) (h : d ∉ p.tmps) (s' : SS) (ht : s'.t = upd s.t d m) (hb : s'.b = s.b) : modeAt s' p = modeAt s p := by
  cases p with
  | tmp t => simp only [modeAt, ht]; rw [upd_ne]; intro e; apply h; simp [Place.tmps, e]
  | box b j => simp only [modeAt, hb]

theorem cellAt_upd (σ : S) (d : Nat) (v : DV) (p : Place) (h : d ∉ p.tmps) : (σ.put (some d) v).cellAt p = σ.cellAt p := by
  cases p with
  | tmp t =>
    simp only [S.put, S.cellAt]; rw [upd_ne]; intro e; apply h; simp [Place.tmps, e]
  | box b j => simp only [S.put, S.cellAt]

theorem placeV_put (d : Nat) (v : Value) (hd : d < a.tmps.size) (p : Place) (h : d ∉ p.tmps) : placeV w g (a.put (some d) v) p = placeV w g a p := by
  cases p with
  | tmp t =>
    simp only [placeV, put_get a d t v hd]
    rw [if_neg]; intro e; apply h; simp [Place.tmps, e]
  | box b j => simp only [placeV]

/-- What is known of a pointer or a copy does not mention the variable that is written. -/
theorem PtrOK.put {s' : SS} {d : Nat} {v0 : Value} {dv : DV} {m : M} {v : Value} {q : Ptr} (hd : d < a.tmps.size) (ht : s'.t = upd s.t d m) (hb : s'.b = s.b) (hL : s'.L = s.L) (hq : d ∉ q.tmps)
    (h : PtrOK s σ a w g v q) : PtrOK s' (σ.put (some d) dv) (a.put (some d) v0) w g v q := by
  cases q with
  | box b off => simpa only [PtrOK, hb] using h
  | el p q =>
    simp only [Ptr.tmps, List.mem_append, not_or] at hq
    simp only [PtrOK] at h ⊢
    rw [modeAt_upd s d m p hq.1 s' ht hb, cellAt_upd σ d dv p hq.1, placeV_put d v0 hd p hq.1, hL]
    obtain ⟨b, off, hv, h⟩ := h
    refine ⟨b, off, hv, fun m' c u us h1 h2 h3 h4 => ?_⟩
    obtain ⟨path, e1, e2⟩ := h m' c u us h1 h2 h3 h4
    exact ⟨path, by simp only [S.put]; rw [evPath_upd hq.2]; exact e1, e2⟩

theorem AlOK.put {s' : SS} {d : Nat} {v0 : Value} {dv dv0 : DV} {m : M} {v : Value} {p : Place} {q : PathX} (hd : d < a.tmps.size) (ht : s'.t = upd s.t d m) (hb : s'.b = s.b) (hL : s'.L = s.L) (hp : d ∉ p.tmps) (hq : d ∉ pathTmps q)
    (h : AlOK s σ a w g v dv0 p q) : AlOK s' (σ.put (some d) dv) (a.put (some d) v0) w g v dv0 p q := by
  cases q with
  | nil =>
    cases p with
    | tmp t =>
      simp only [AlOK] at h ⊢
      have hne : t ≠ d := by intro e; apply hp; simp [Place.tmps, e]
      rw [put_get a d t v0 hd, if_neg hne]
      simp only [S.put, upd_ne _ _ hne]
      exact h
    | box b j => simpa only [AlOK, S.put, hb] using h
  | cons x q =>
    simp only [AlOK] at h ⊢
    rw [modeAt_upd s d m p hp s' ht hb, cellAt_upd σ d dv p hp, placeV_put d v0 hd p hp, hL]
    intro m' c u us h1 h2 h3 h4
    obtain ⟨path, b, off, cells, cs, e1, e2, e3⟩ := h m' c u us h1 h2 h3 h4
    exact ⟨path, b, off, cells, cs, by simp only [S.put]; rw [evPath_upd hq]; exact e1, e2, e3⟩

theorem guardHolds_put {d : Nat} {dv : DV} {gd : Option (Nat × Bool)} (h : d ∉ gTmps gd) : guardHolds (σ.put (some d) dv) gd ↔ guardHolds σ gd := by
  cases gd with
  | none => simp [guardHolds]
  | some q =>
    obtain ⟨t, b⟩ := q
    simp only [guardHolds, S.put]
    rw [upd_ne]
    intro e; apply h; simp [gTmps, e]

/-- THE GENERAL STEP: a variable gets a value; 's'': the static state behind it. -/
theorem Inv.put_gen (h : Inv F s σ a w g) {d : Nat} (hd : d < F.n) {m : M} {dv : DV} {v : Value} {s' : SS} (ht : s'.t = upd s.t d m) (hb : s'.b = s.b) (hL : s'.L = s.L) (hU : s'.U = s.U)
    (hT : TOK (s.cx w g) m dv v) (hm : ∀ e ∈ m.deps, s.U e = true)
    (hp : ∀ k q gd, s'.p k = some (q, gd) → (k ≠ d ∧ d ∉ q.tmps ∧ d ∉ gTmps gd ∧ s.p k = some (q, gd)) ∨ (k = d ∧ (guardHolds (σ.put (some d) dv) gd → PtrOK s' (σ.put (some d) dv) (a.put (some d) v) w g v q)))
    (ha : ∀ k p q, s'.a k = some (p, q) → (k ≠ d ∧ d ∉ p.tmps ∧ d ∉ pathTmps q ∧ s.a k = some (p, q)) ∨ (k = d ∧ (dv ≠ .undef → AlOK s' (σ.put (some d) dv) (a.put (some d) v) w g v dv p q))) :
    Inv F s' (σ.put (some d) dv) (a.put (some d) v) w g := by
  have hds : d < a.tmps.size := by rw [h.size]; exact hd
  have hcx : s'.cx w g = s.cx w g := by simp only [SS.cx, hL, hb]
  constructor
  · exact h.kept
  · simp only [Act.put, Array.size_setIfInBounds]; exact h.size
  · exact h.defers
  · exact h.reach
  · rw [hL]; exact h.live
  · rw [hL]; exact h.apart
  · rw [hL, hU]; exact h.used
  · intro k e he
    rw [ht] at he
    rw [hU]
    by_cases hk : k = d
    · subst hk; rw [upd_same] at he; exact hm e he
    · rw [upd_ne _ _ hk] at he; exact h.usedT k e he
  · rw [hb, hU]; exact h.usedB
  · rw [hb, hcx]; exact h.boxes
  · rw [hb, hL]; exact h.boxLive
  · rw [hb]; exact h.boxInj
  · intro k
    rw [hcx, ht, put_get a d k v hds]
    by_cases hk : k = d
    · subst hk; simp only [S.put, upd_same, if_true]; exact hT
    · simp only [S.put, upd_ne _ _ hk, if_neg hk]; exact h.tmps k
  · intro k q gd hk hg
    rw [put_get a d k v hds]
    rcases hp k q gd hk with ⟨h1, h2, h3, h4⟩ | ⟨rfl, h2⟩
    · rw [if_neg h1]
      exact (h.ptrs k q gd h4 ((guardHolds_put h3).1 hg)).put hds ht hb hL h2
    · rw [if_pos rfl]; exact h2 hg
  · intro k p q hk hne
    rw [put_get a d k v hds]
    rcases ha k p q hk with ⟨h1, h2, h3, h4⟩ | ⟨rfl, h2⟩
    · rw [if_neg h1]
      have e : (σ.put (some d) dv).t k = σ.t k := by simp only [S.put, upd_ne _ _ h1]
      rw [e] at hne ⊢
      exact (h.als k p q h4 hne).put hds ht hb hL h2 h3
    · rw [if_pos rfl]
      have e : (σ.put (some k) dv).t k = dv := by simp only [S.put, upd_same]
      rw [e] at hne ⊢
      exact h2 hne
  · rw [hb]; exact h.boxFresh
  · rw [hb]; exact h.ro
  · exact h.small
  · rw [hb]; exact h.ext

theorem cutT_p (s : SS) (d k : Nat) (q : Ptr) (gd : Option (Nat × Bool)) (h : (s.cutT d).p k = some (q, gd)) : k ≠ d ∧ d ∉ q.tmps ∧ d ∉ gTmps gd ∧ s.p k = some (q, gd) := by
  simp only [SS.cutT] at h
  split at h
  · rename_i q' g' hk
    split at h
    · cases h
    · rename_i hn
      simp only [not_or] at hn
      cases h
      exact ⟨hn.1, hn.2.1, hn.2.2, hk⟩
  · cases h

theorem cutT_a (s : SS) (d k : Nat) (p : Place) (q : PathX) (h : (s.cutT d).a k = some (p, q)) : k ≠ d ∧ d ∉ p.tmps ∧ d ∉ pathTmps q ∧ s.a k = some (p, q) := by
  simp only [SS.cutT] at h
  split at h
  · rename_i p' q' hk
    split at h
    · cases h
    · rename_i hn
      simp only [not_or] at hn
      cases h
      exact ⟨hn.1, hn.2.1, hn.2.2, hk⟩
  · cases h

/-- A value without a pointer, no copy noted. -/
theorem Inv.put (h : Inv F s σ a w g) {d : Nat} (hd : d < F.n) {m : M} {dv : DV} {v : Value} (hT : TOK (s.cx w g) m dv v) (hm : ∀ e ∈ m.deps, s.U e = true) :
    Inv F (s.put (some d) m) (σ.put (some d) dv) (a.put (some d) v) w g :=
  h.put_gen hd rfl rfl rfl rfl hT hm (fun k q gd hk => .inl (cutT_p s d k q gd hk)) (fun k p q hk => .inl (cutT_a s d k p q hk))
end
end Go.Opt
/- What the model does with scalars is what the small language does. -/
set_option linter.unusedVariables false
namespace Go.Opt
open Go.RowKit

theorem size_mk (l : List UInt8) : (ByteArray.mk l.toArray).size = l.length := by simp [ByteArray.size]

theorem append_mk (a b : List UInt8) : ByteArray.mk a.toArray ++ ByteArray.mk b.toArray = ByteArray.mk (a ++ b).toArray := by
  apply ByteArray.ext
  rw [ByteArray.data_append]
  simp

section
variable {P : Program} {w : World}

theorem run_binInt (op : BinOp) (k : IntKind) (a b : Int) (c : C) (x y : Operand) (t : TypeId) (h : binInt op k a b = some c) :
    ∃ v, ((do eqGuard op t x y (.int k a) (.int k b); binOp op t (.int k a) (.int k b) : Sem Value)).run P w = .ok v w ∧ Hd v c ∧ c.rows = [] ∧ (∀ s r, c ≠ .sl s r) := by
  cases op <;> simp only [binInt] at h <;> try (cases h; done)
  case quo =>
    by_cases hb : b = 0
    · simp [hb] at h
    · rw [if_neg hb] at h
      cases h
      exact ⟨_, by simp [eqGuard, binOp, Op.intDiv, hb], rfl, rfl, by simp⟩
  case rem =>
    by_cases hb : b = 0
    · simp [hb] at h
    · rw [if_neg hb] at h
      cases h
      exact ⟨_, by simp [eqGuard, binOp, Op.intDiv, hb], rfl, rfl, by simp⟩
  all_goals
    cases h
    exact ⟨_, by simp [eqGuard, binOp, Op.intArith, Op.intBits, Op.intCmp]; try rfl, by simp [Hd], rfl, by simp⟩

theorem run_shr (k k' : IntKind) (a b : Int) (c : C) (x y : Operand) (t : TypeId) (h : shrInt k a b = some c) :
    ∃ v, ((do eqGuard .shr t x y (.int k a) (.int k' b); binOp .shr t (.int k a) (.int k' b) : Sem Value)).run P w = .ok v w ∧ Hd v c ∧ c.rows = [] ∧ (∀ s r, c ≠ .sl s r) := by
  simp only [shrInt] at h
  split at h
  · cases h
  · rename_i hb
    cases h
    exact ⟨.int k (a.fdiv (2 ^ (min b.toNat k.bits))), by simp [eqGuard, binOp, Op.shift, hb], rfl, rfl, by simp⟩

theorem run_binStr (op : BinOp) (a b : List UInt8) (c : C) (x y : Operand) (t : TypeId) (h : binStr op a b = some c) :
    ∃ v, ((do eqGuard op t x y (.string ⟨a.toArray⟩) (.string ⟨b.toArray⟩); binOp op t (.string ⟨a.toArray⟩) (.string ⟨b.toArray⟩) : Sem Value)).run P w = .ok v w ∧ Hd v c ∧ c.rows = [] ∧ (∀ s r, c ≠ .sl s r) := by
  cases op <;> simp only [binStr] at h <;> try (cases h; done)
  case add =>
    split at h
    · rename_i hl
      cases h
      have hno : ¬ (9223372036854775807 < (a.length : Int) + (b.length : Int)) := by unfold maxStr at hl; omega
      refine ⟨.string (ByteArray.mk a.toArray ++ ByteArray.mk b.toArray), by simp [eqGuard, binOp, Op.stringOp, size_mk, hno], ?_, rfl, by simp⟩
      simp only [Hd]
      rw [append_mk]
    · cases h
  all_goals
    cases h
    exact ⟨_, by simp [eqGuard, binOp, Op.stringOp, ByteArray.toList_mk]; rfl, by simp [Hd], rfl, by simp⟩

theorem run_binBool (op : BinOp) (a b : Bool) (c : C) (x y : Operand) (t : TypeId) (ht : P.underlying t = some .bool) (h : (match op with | .eql => some (C.bool (a == b)) | .neq => some (C.bool !(a == b)) | _ => none) = some c) :
    ∃ v, ((do eqGuard op t x y (.bool a) (.bool b); binOp op t (.bool a) (.bool b) : Sem Value)).run P w = .ok v w ∧ Hd v c ∧ c.rows = [] ∧ (∀ s r, c ≠ .sl s r) := by
  cases op <;> simp only at h <;> try (cases h; done)
  all_goals
    cases h
    exact ⟨_, by simp only [eqGuard, Sem.run_bind, Sem.run_pure, Sem.run_ite]; simp [run_eql_bool w t a b ht, run_neq_bool w t a b ht]; try rfl, by simp [Hd], rfl, by simp⟩

theorem run_un (op : UnOp) (d : C) (v : Value) (c : C) (hv : Hd v d) (h : unDV op (.c d) = some c) :
    ∃ u, (Op.unary op v).run P w = .ok u w ∧ Hd u c ∧ c.rows = [] ∧ (∀ s r, c ≠ .sl s r) := by
  cases op <;> cases d <;> simp only [unDV] at h <;> try (cases h; done)
  all_goals
    cases h
    simp only [Hd] at hv
    subst hv
    exact ⟨_, by simp [Op.unary, Op.intArith]; rfl, by simp [Hd], rfl, by simp⟩
theorem getC {x : Array Value} {j : Nat} {v : Value} (h : x.toList[j]? = some v) : x[j]? = some v := by simpa using h

theorem run_part_plain {t : TypeId} {xs : Array Value} {j : Nat} {v : Value} (h : plainT P t = true) (hv : xs[j]? = some v) : (part t xs j).run P w = .ok v w := by
  unfold plainT at h
  split at h
  · rename_i hu; simp [part, isAgg, run_underlying hu, hv]
  · rename_i hu; simp [part, isAgg, run_underlying hu, hv]
  · rename_i hu; simp [part, isAgg, run_underlying hu, hv]
  · cases h

/-- A struct's fields, cell by cell, from the cell 'j' on. -/
theorem run_eqFields (d : Nat) (xs ys : Array Value) : ∀ (fs : List Field) (j : Nat) (ks : List K) (cs ds : List C) (e : Bool), (∀ f ∈ fs, f.name ≠ "_" ∧ plainT P f.type = true) → fs.map (·.offset) = List.range' j fs.length →
    (xs.toList.drop j).length = cs.length → (ys.toList.drop j).length = ds.length →
    (∀ (i : Nat) (v : Value) (c : C), (xs.toList.drop j)[i]? = some v → cs[i]? = some c → Hd v c) → (∀ (i : Nat) (v : Value) (c : C), (ys.toList.drop j)[i]? = some v → ds[i]? = some c → Hd v c) →
    (∀ (i : Nat) (f : Field) (k : K), fs[i]? = some f → ks[i]? = some k → match P.underlying f.type with | some .bool => k = .bool | some (.int j) => k = .int j | some .string => k = .str | _ => False) →
    ks.length = fs.length → eqvs ks cs ds = some e → (Op.eqFields (d + 1) xs ys fs).run P w = .ok e w
  | [], j, ks, cs, ds, e, _, _, _, _, _, _, _, hk, he => by
    have : ks = [] := by simpa using hk
    subst ks
    cases cs <;> cases ds <;> simp [eqvs] at he
    subst he
    simp [Op.eqFields]
  | f :: fs, j, [], cs, ds, e, _, _, _, _, _, _, _, hk, _ => by simp at hk
  | f :: fs, j, k :: ks, [], ds, e, _, _, _, _, _, _, _, _, he => by simp [eqvs] at he
  | f :: fs, j, k :: ks, c :: cs, [], e, _, _, _, _, _, _, _, _, he => by simp [eqvs] at he
  | f :: fs, j, k :: ks, c :: cs, c' :: ds, e, hn, hoff, hx, hy, hX, hY, hT, hk, he => by
    have hj : j < xs.toList.length := by simp at hx ⊢; omega
    have hj' : j < ys.toList.length := by simp at hy ⊢; omega
    simp only [List.map_cons, List.length_cons, List.range'_succ, List.cons.injEq] at hoff
    obtain ⟨o1, o2⟩ := hoff
    have dx : xs.toList.drop j = xs.toList[j] :: xs.toList.drop (j + 1) := List.drop_eq_getElem_cons hj
    have dy : ys.toList.drop j = ys.toList[j] :: ys.toList.drop (j + 1) := List.drop_eq_getElem_cons hj'
    rw [dx] at hx hX
    rw [dy] at hy hY
    have h0 := hX 0 xs.toList[j] c (by simp) (by simp)
    have h0' := hY 0 ys.toList[j] c' (by simp) (by simp)
    have hTT := hT 0 f k (by simp) (by simp)
    simp only [eqvs] at he
    cases hcc : C.eqv k c c' with
    | none => simp [hcc] at he
    | some p =>
      cases hqq : eqvs ks cs ds with
      | none => simp [hcc, hqq] at he
      | some q =>
        simp only [hcc, hqq, Option.some.injEq] at he
        subst he
        have ih := run_eqFields d xs ys fs (j + 1) ks cs ds q (fun g hg => hn g (by simp [hg])) o2 (by simpa using hx) (by simpa using hy)
          (fun i v c hv hc => hX (i + 1) v c (by simpa using hv) (by simpa using hc)) (fun i v c hv hc => hY (i + 1) v c (by simpa using hv) (by simpa using hc))
          (fun i g c h1 h2 => hT (i + 1) g c (by simpa using h1) (by simpa using h2)) (by simpa using hk) hqq
        have hpl := (hn f (by simp)).2
        have hnm := (hn f (by simp)).1
        have px : (part f.type xs f.offset).run P w = .ok xs.toList[j] w := by
          rw [o1]; exact run_part_plain hpl (by simp at hj ⊢)
        have py : (part f.type ys f.offset).run P w = .ok ys.toList[j] w := by
          rw [o1]; exact run_part_plain hpl (by simp at hj' ⊢)
        have heq : (Op.equalIn (d + 1) f.type xs.toList[j] ys.toList[j]).run P w = .ok p w := by
          split at hTT
          · rename_i hu
            subst hTT
            cases c <;> cases c' <;> simp only [C.eqv] at hcc <;> try (cases hcc; done)
            simp only [Hd] at h0 h0'
            rw [h0, h0', run_equalIn_bool w d f.type _ _ hu]
            cases hcc; rfl
          · rename_i k' hu
            subst hTT
            cases c <;> cases c' <;> simp only [C.eqv] at hcc <;> try (cases hcc; done)
            split at hcc
            · rename_i hkk
              obtain ⟨rfl, rfl⟩ := hkk
              simp only [Hd] at h0 h0'
              rw [h0, h0', run_equalIn_int w d f.type _ _ _ _ hu]
              cases hcc; rfl
            · cases hcc
          · rename_i hu
            subst hTT
            cases c <;> cases c' <;> simp only [C.eqv] at hcc <;> try (cases hcc; done)
            simp only [Hd] at h0 h0'
            rw [h0, h0', run_equalIn_string w d f.type _ _ hu, ByteArray.toList_mk, ByteArray.toList_mk]
            cases hcc; rfl
          · exact hTT.elim
        simp only [Op.eqFields, if_pos hnm, Sem.run_bind, px, py, heq, Result.andThen_ok, Sem.run_ite, Sem.run_pure]
        cases p
        · simp
        · simp [ih]
end
end Go.Opt
/- Each operation, by itself: those that neither write memory nor make any. -/
set_option linter.unusedVariables false
namespace Go.Opt
open Go.RowKit

/-- What an operation comes to: a value (or none), a world, and all that is held of them. -/
def Fin (P : Program) (F : Frm) (o : Oper) (s : SS) (σ : S) (a : Act) (w : World) : Prop :=
  ∃ nx v w' g', (execOp a.eval o).run P w = .ok nx w' ∧ (nx = .value v ∨ (nx = .skip ∧ v = undef)) ∧ Inv F s σ (a.put o.dst v) w' g'

abbrev Cl' := Nat → List Arg → Option Res

section
variable {P : Program} {F : Frm} {s : SS} {σ : S} {a : Act} {w : World} {g : Gh}

theorem FpOK.nil (x : Cx) (m : CM) : FpOK x m [] := ⟨by simp, fun _ => ⟨by simp, by simp⟩, fun _ b r h => by simp at h⟩

/-- A cell without memory. -/
theorem CellOK.scalar {x : Cx} {v : Value} {c : C} (h : Hd v c) (hs : ∀ s r, c ≠ .sl s r) (m : CM) : CellOK x v c m := by
  refine ⟨h, fun _ => ?_⟩
  cases c with
  | sl s r => exact absurd rfl (hs s r)
  | _ => simp only [Hd] at h; subst h; exact ⟨by simp [Rep], by simp only [fp]; exact FpOK.nil x m⟩

theorem CellOK.nil (x : Cx) (sz : Nat) (m : CM) : CellOK x (.slice none 0 0) (.sl sz []) m :=
  ⟨⟨none, 0, rfl, by simp, rfl⟩, fun _ => ⟨by simp only [Rep]; exact ⟨none, 0, rfl, by simp, rfl⟩, by simp only [fp]; exact FpOK.nil x m⟩⟩

theorem CellOK.zero (x : Cx) (base : Option Addr) (sz : Nat) (m : CM) : CellOK x (.slice base 0 0) (.sl sz []) m := by
  cases base with
  | none => exact CellOK.nil x sz m
  | some a => exact ⟨⟨some a, 0, rfl, by simp, fun h => absurd h (by omega)⟩, fun _ => ⟨by simp only [Rep]; exact ⟨some a, 0, rfl, by simp, fun h => absurd h (by omega)⟩, by simp only [fp, if_true]; exact FpOK.nil x m⟩⟩

theorem CellsOK.one {x : Cx} {v : Value} {c : C} {m : CM} (h : CellOK x v c m) : CellsOK x [v] [c] [m] :=
  ⟨rfl, rfl, fun j v' c' m' hv hc hm => by
    cases j with
    | zero => simp at hv hc hm; subst hv; subst hc; subst hm; exact h
    | succ j => simp at hv,
   fun i j v1 v2 c1 c2 m1 m2 hij hv1 _ _ hv2 _ _ => by
    cases i with
    | zero => cases j with
      | zero => exact absurd rfl hij
      | succ j => simp at hv2
    | succ i => simp at hv1⟩

theorem CellsOK.of_one {x : Cx} {v : Value} {c : C} {m : CM} (h : CellsOK x [v] [c] [m]) : CellOK x v c m := h.each 0 v c m (by simp) (by simp) (by simp)

theorem TOK.cell {x : Cx} {m : CM} {c : C} {v : Value} (h : CellOK x v c m) : TOK x (.c m) (.c c) v := by
  simp only [TOK, VOK, Bool.false_eq_true, if_false]
  exact ⟨c, rfl, .one h⟩

theorem TOK.of_cell {x : Cx} {m : CM} {c : C} {v : Value} (h : TOK x (.c m) (.c c) v) : CellOK x v c m := by
  simp only [TOK, VOK, Bool.false_eq_true, if_false] at h
  obtain ⟨c', hc, h⟩ := h
  cases hc
  exact h.of_one

theorem TOK.agg {x : Cx} {ms : List CM} {cs : List C} {vs : Array Value} (h : CellsOK x vs.toList cs ms) : TOK x (.agg ms) (.agg cs) (.agg vs) := by
  simp only [TOK, VOK, if_true]
  exact ⟨cs, vs, rfl, rfl, h⟩

theorem TOK.of_agg {x : Cx} {ms : List CM} {cs : List C} {v : Value} (h : TOK x (.agg ms) (.agg cs) v) : ∃ vs, v = .agg vs ∧ CellsOK x vs.toList cs ms := by
  simp only [TOK, VOK, if_true] at h
  obtain ⟨cs', vs, hc, hv, h⟩ := h
  cases hc
  exact ⟨vs, hv, h⟩

/-- Which shapes a mode and a datum can have together. -/
theorem TOK.c_shape {x : Cx} {m : CM} {d : DV} {v : Value} (h : TOK x (.c m) d v) : d = .undef ∨ ∃ c, d = .c c ∧ CellOK x v c m := by
  cases d with
  | undef => exact .inl rfl
  | c c => exact .inr ⟨c, rfl, h.of_cell⟩
  | agg xs => simp [TOK, VOK] at h
  | tup xs => simp [TOK, VOK] at h

theorem TOK.agg_shape {x : Cx} {ms : List CM} {d : DV} {v : Value} (h : TOK x (.agg ms) d v) : d = .undef ∨ ∃ cs vs, d = .agg cs ∧ v = .agg vs ∧ CellsOK x vs.toList cs ms := by
  cases d with
  | undef => exact .inl rfl
  | agg xs => obtain ⟨vs, hv, h⟩ := h.of_agg; exact .inr ⟨xs, vs, rfl, hv, h⟩
  | c c => simp [TOK, VOK] at h
  | tup xs => simp [TOK, VOK] at h

theorem CM.free_deps : CM.free.deps = [] := rfl

/-- AN OPERAND. -/
theorem Inv.x (h : Inv F s σ a w g) {t : TypeId} {x : Operand} {X : X} (hn : normX P t x = some X) : TOK (s.cx w g) (XM s X) (X.ev σ.t) (a.eval x) ∧ ∀ e ∈ (XM s X).deps, s.U e = true := by
  unfold normX at hn
  split at hn
  · cases hn; exact ⟨h.tmps _, h.usedT _⟩
  · rename_i k n; cases hn; exact ⟨TOK.cell (CellOK.scalar (v := .int k n) (c := .int k n) (by simp [Hd]) (by simp) _), by simp [XM, M.deps, CM.free]⟩
  · rename_i b; cases hn; exact ⟨TOK.cell (CellOK.scalar (v := .bool b) (c := .bool b) (by simp [Hd]) (by simp) _), by simp [XM, M.deps, CM.free]⟩
  · rename_i b
    cases hn
    refine ⟨TOK.cell (CellOK.scalar ?_ (by simp) _), by simp [XM, M.deps, CM.free]⟩
    simp [Hd, Act.eval]
  · split at hn
    · cases hn; exact ⟨TOK.cell (CellOK.nil _ _ _), by simp [XM, M.deps, CM.free]⟩
    · cases hn
  · cases hn

/-- A scalar operand. -/
theorem Inv.int (h : Inv F s σ a w g) {t : TypeId} {x : Operand} {X : X} (hn : normX P t x = some X) {c : C} (hc : X.ev σ.t = .c c) {m : CM} (hm : XM s X = .c m) : CellOK (s.cx w g) (a.eval x) c m := by
  have := (h.x hn).1
  rw [hm, hc] at this
  exact this.of_cell

theorem scalarX_m {X : X} (h : scalarX s X = true) : ∃ m, XM s X = .c m ∧ m.deps = [] := by
  unfold scalarX at h
  split at h
  · rename_i m hm; exact ⟨m, hm, by simpa using h⟩
  · cases h

theorem Inv.hd (h : Inv F s σ a w g) {t : TypeId} {x : Operand} {X : X} (hn : normX P t x = some X) (hs : scalarX s X = true) {c : C} (hc : X.ev σ.t = .c c) : Hd (a.eval x) c := by
  obtain ⟨m, hm, _⟩ := scalarX_m hs
  exact (h.int hn hc hm).1

/-- An index operand. -/
theorem Inv.idx (h : Inv F s σ a w g) {t : TypeId} {x : Operand} {X : X} (hn : normX P t x = some X) (hs : scalarX s X = true) {n : Int} (hc : idxOf (X.ev σ.t) = some n) : ∃ k, a.eval x = .int k n := by
  unfold idxOf at hc
  split at hc
  · rename_i k m hx
    cases hc
    exact ⟨k, h.hd hn hs hx⟩
  · cases hc

theorem Inv.putD (h : Inv F s σ a w g) {d : Option Nat} (hd : ∀ k, d = some k → k < F.n) {m : M} {dv : DV} {v : Value} (hT : TOK (s.cx w g) m dv v) (hm : ∀ e ∈ m.deps, s.U e = true) :
    Inv F (s.put d m) (σ.put d dv) (a.put d v) w g := by
  cases d with
  | none => exact h
  | some k => exact h.put (hd k rfl) hT hm

/-- An operation that gives a cell without memory. -/
theorem Fin.scalar (h : Inv F s σ a w g) {o : Oper} (hd : ∀ k, o.dst = some k → k < F.n) {v : Value} {c : C} (hv : Hd v c) (hs : ∀ s r, c ≠ .sl s r) (hr : (execOp a.eval o).run P w = .ok (.value v) w) :
    Fin P F o (s.put o.dst (.c .free)) (σ.put o.dst (.c c)) a w :=
  ⟨_, v, w, g, hr, .inl rfl, h.putD hd (TOK.cell (CellOK.scalar hv hs _)) (by simp [M.deps, CM.free])⟩

theorem exec_v {o : Oper} {op : Op} (ho : o.op = op) : o.op = op := ho

/-! ### Scalars -/
theorem fin_un (h : Inv F s σ a w g) {o : Oper} (hd : ∀ k, o.dst = some k → k < F.n) {op : UnOp} {t : TypeId} {x : Operand} {X : X} (ho : o.op = .unOp op t x) (hn : normX P t x = some X)
    {σ1 : S} {s1 : SS} (h1 : (unDV op (X.ev σ.t)).map (fun c => σ.put o.dst (.c c)) = some σ1) (h2 : (if scalarX s X then some (s.put o.dst (.c .free)) else none) = some s1) : Fin P F o s1 σ1 a w := by
  split at h2
  · rename_i hs
    cases h2
    obtain ⟨c, hc, rfl⟩ := Option.map_eq_some_iff.1 h1
    have hx : ∃ d, X.ev σ.t = .c d := by
      cases hX : X.ev σ.t with
      | c d => exact ⟨d, rfl⟩
      | _ => rw [hX] at hc; cases op <;> simp [unDV] at hc
    obtain ⟨d, hx⟩ := hx
    rw [hx] at hc
    obtain ⟨u, hu, hh, _, hns⟩ := run_un (P := P) (w := w) op d (a.eval x) c (h.hd hn hs hx) hc
    exact Fin.scalar h hd hh hns (by simp only [execOp, ho, Sem.run_bind, hu, Result.andThen_ok, Sem.run_pure])
  · cases h2

theorem fin_conv (h : Inv F s σ a w g) {o : Oper} (hd : ∀ k, o.dst = some k → k < F.n) {k k0 : IntKind} {t u : TypeId} {x : Operand} {X : X} (ho : o.op = .convert t u x) (ht : P.underlying t = some (.int k0)) (hu : P.underlying u = some (.int k)) (hn : normX P t x = some X)
    {σ1 : S} {s1 : SS} (h1 : step (fun _ _ => none) o.dst (.conv k X) σ = some σ1) (h2 : (if scalarX s X then some (s.put o.dst (.c .free)) else none) = some s1) : Fin P F o s1 σ1 a w := by
  split at h2
  · rename_i hs
    cases h2
    simp only [step] at h1
    split at h1
    · rename_i k1 n hx
      cases h1
      have hv := h.hd hn hs hx
      simp only [Hd] at hv
      exact Fin.scalar (v := .int k (k.wrap n)) h hd rfl (by simp) (by
        simp [execOp, ho, Sem.run_bind, convert, run_underlying ht, run_underlying hu, hv, Conv.intToInt])
    · cases h1
  · cases h2


variable {Φ : Cl'} {G : Nat → Option Sg} {ro : List Nat} {gd : Option (Nat × Bool)} {σ1 : S} {s1 : SS}

theorem fin_bin (h : Inv F s σ a w g) {o : Oper} (hd : ∀ k, o.dst = some k → k < F.n) {op : BinOp} {t u : TypeId} {x y : Operand} {xx yy : X} (ho : o.op = .binOp op t x y u) (hx : normX P t x = some xx) (hy : normX P u y = some yy)
    (h1 : step Φ o.dst (.bin op xx yy) σ = some σ1) (h2 : sstep G ro gd o.dst (.bin op xx yy) s = some s1) : Fin P F o s1 σ1 a w := by
  simp only [sstep] at h2
  split at h2
  · rename_i hs
    cases h2
    simp only [step] at h1
    obtain ⟨c, hc, rfl⟩ := Option.map_eq_some_iff.1 h1
    have key : ∃ v, ((do eqGuard op t x y (a.eval x) (a.eval y); binOp op t (a.eval x) (a.eval y) : Sem Value)).run P w = .ok v w ∧ Hd v c ∧ c.rows = [] ∧ (∀ s r, c ≠ .sl s r) := by
      unfold binDV at hc
      split at hc
      · rename_i k p k' q e1 e2
        have h1 := h.hd hx hs.1 e1
        have h2 := h.hd hy hs.2 e2
        simp only [Hd] at h1 h2
        rw [h1, h2]
        exact run_shr k k' p q c x y t hc
      · rename_i k p k' q _ e1 e2
        split at hc
        · rename_i hk
          subst hk
          have h1 := h.hd hx hs.1 e1
          have h2 := h.hd hy hs.2 e2
          simp only [Hd] at h1 h2
          rw [h1, h2]
          exact run_binInt _ k p q c x y t hc
        · cases hc
      · rename_i p q e1 e2
        have h1 := h.hd hx hs.1 e1
        have h2 := h.hd hy hs.2 e2
        simp only [Hd] at h1 h2
        rw [h1, h2]
        exact run_binStr _ p q c x y t hc
      · cases hc
    obtain ⟨v, hr, hh, _, hns⟩ := key
    exact Fin.scalar h hd hh hns (by
      simp only [execOp, ho]
      rw [Sem.run_bind, hr]
      rfl)
  · cases h2

theorem fin_beq (h : Inv F s σ a w g) {o : Oper} (hd : ∀ k, o.dst = some k → k < F.n) {op : BinOp} {neg : Bool} {t u : TypeId} {x y : Operand} {xx yy : X} (ho : o.op = .binOp op t x y u) (hx : normX P t x = some xx) (hy : normX P u y = some yy) (ht : P.underlying t = some .bool) (hop : eqNeg op = some neg)
    (h1 : step Φ o.dst (.beq neg xx yy) σ = some σ1) (h2 : sstep G ro gd o.dst (.beq neg xx yy) s = some s1) : Fin P F o s1 σ1 a w := by
  simp only [sstep] at h2
  split at h2
  · rename_i hs
    cases h2
    simp only [step] at h1
    split at h1
    · rename_i p q e1 e2
      cases h1
      have v1 := h.hd hx hs.1 e1
      have v2 := h.hd hy hs.2 e2
      simp only [Hd] at v1 v2
      obtain ⟨v, hr, hh, _, hns⟩ := run_binBool (P := P) (w := w) op p q (C.bool (if neg = true then !(p == q) else (p == q))) x y t ht (by clear ho; cases op <;> simp [eqNeg] at hop <;> subst hop <;> simp)
      exact Fin.scalar h hd hh hns (by
        simp only [execOp, ho, v1, v2]
        rw [Sem.run_bind, hr]
        rfl)
    · cases h1
  · cases h2

theorem fieldsOf_eq {t : TypeId} {fs : Array Field} (h : P.underlying t = some (.struct fs)) : P.fieldsOf t = fs := by simp [Program.fieldsOf, h]

theorem kindsOf_plain {t : TypeId} {n : Nat} {ks : List K} (h : kindsOf P n t = some ks) : match P.underlying t with | some .bool => ks = [.bool] | some (.int k) => ks = [.int k] | some .string => ks = [.str] | _ => True := by
  cases n with
  | zero => simp [kindsOf] at h
  | succ n =>
    simp only [kindsOf] at h
    split at h <;> simp_all

theorem kindsOfs_plain : ∀ (n off : Nat) (fs : List Field) (ks : List K), kindsOfs P n off fs = some ks → (∀ f ∈ fs, plainT P f.type = true) →
    ks.length = fs.length ∧ ∀ (i : Nat) (f : Field) (k : K), fs[i]? = some f → ks[i]? = some k → match P.underlying f.type with | some .bool => k = .bool | some (.int j) => k = .int j | some .string => k = .str | _ => False
  | 0, _, _, _, h, _ => by simp [kindsOfs] at h
  | n + 1, off, [], ks, h, _ => by simp [kindsOfs] at h; subst h; simp
  | n + 1, off, f :: r, ks, h, hp => by
    simp only [kindsOfs] at h
    split at h
    · rename_i ks0 hk0
      split at h
      · rename_i hoff
        split at h
        · rename_i l hl
          cases h
          have h0 := kindsOf_plain hk0
          have hpf := hp f (by simp)
          obtain ⟨r1, r2⟩ := kindsOfs_plain n (off + ks0.length) r l hl fun g hg => hp g (by simp [hg])
          unfold plainT at hpf
          have hone : ∃ k0, ks0 = [k0] ∧ match P.underlying f.type with | some .bool => k0 = .bool | some (.int j) => k0 = .int j | some .string => k0 = .str | _ => False := by
            split at hpf
            · rename_i hu; rw [hu] at h0; subst h0; exact ⟨_, rfl, by first | rfl | rw [hu]⟩
            · rename_i hu; rw [hu] at h0; subst h0; exact ⟨_, rfl, by first | rfl | rw [hu]⟩
            · rename_i hu; rw [hu] at h0; subst h0; exact ⟨_, rfl, by first | rfl | rw [hu]⟩
            · cases hpf
          obtain ⟨k0, rfl, hk⟩ := hone
          refine ⟨by simp [r1], fun i g k hg hk' => ?_⟩
          cases i with
          | zero => simp at hg hk'; subst hg; subst hk'; exact hk
          | succ i => exact r2 i g k (by simpa using hg) (by simpa using hk')
        · cases h
      · cases h
    · cases h

theorem fin_aeq (h : Inv F s σ a w g) {o : Oper} (hd : ∀ k, o.dst = some k → k < F.n) {op : BinOp} {neg : Bool} {ks : List K} {fs : Array Field} {t u : TypeId} {x y : Operand} {xx yy : X} (ho : o.op = .binOp op t x y u) (hx : normX P t x = some xx) (hy : normX P u y = some yy)
    (ht : P.underlying t = some (.struct fs)) (hop : eqNeg op = some neg) (hk : kinds P t = some ks) (he : aggEqT P t = true)
    (h1 : step Φ o.dst (.aeq neg ks xx yy) σ = some σ1) (h2 : sstep G ro gd o.dst (.aeq neg ks xx yy) s = some s1) : Fin P F o s1 σ1 a w := by
  simp only [sstep] at h2
  split at h2
  · rename_i ms ns m1 m2
    cases h2
    simp only [step] at h1
    split at h1
    · rename_i p q e1 e2
      obtain ⟨e, hee, rfl⟩ := Option.map_eq_some_iff.1 h1
      have t1 := (h.x hx).1
      have t2 := (h.x hy).1
      rw [m1, e1] at t1
      rw [m2, e2] at t2
      obtain ⟨vs, hv1, ok1⟩ := t1.of_agg
      obtain ⟨us, hv2, ok2⟩ := t2.of_agg
      unfold aggEqT at he
      rw [ht] at he
      simp only [Bool.and_eq_true, Bool.not_eq_true', beq_iff_eq, List.all_eq_true, bne_iff_ne] at he
      obtain ⟨⟨⟨g1, g2⟩, g3⟩, g4⟩ := he
      have hks : kindsOf P depthK t = some ks := by
        unfold kinds at hk
        split at hk
        · rename_i ks' i hk' _
          split at hk
          · split at hk
            · split at hk
              · cases hk; exact hk'
              · cases hk
            · cases hk
          · cases hk
        · cases hk
      have hkf : kindsOfs P 199 0 fs.toList = some ks := by
        have : depthK = 199 + 1 := rfl
        rw [this] at hks
        simp only [kindsOf, ht] at hks
        exact hks
      obtain ⟨k1, k2⟩ := kindsOfs_plain 199 0 fs.toList ks hkf fun f hf => (g4 f hf).2
      have hlen : ∀ (xs : List C) (ys : List C) (r : Bool) (ks : List K), eqvs ks xs ys = some r → xs.length = ks.length ∧ ys.length = ks.length := by
        intro xs ys r ks
        induction ks generalizing xs ys r with
        | nil => cases xs <;> cases ys <;> simp [eqvs]
        | cons k ks ih =>
          cases xs <;> cases ys <;> simp [eqvs]
          intro h
          split at h
          · rename_i q h2
            have := ih _ _ _ h2
            simp [this]
          · cases h
      obtain ⟨l1, l2⟩ := hlen p q e ks hee
      have hrun := run_eqFields (P := P) (w := w) 9998 vs us fs.toList 0 ks p q e (fun f hf => g4 f hf) g3 (by simp only [List.drop_zero]; rw [ok1.lenV, ← ok1.lenC]) (by simp only [List.drop_zero]; rw [ok2.lenV, ← ok2.lenC])
        (fun i v c hv hc => by
          simp only [List.drop_zero] at hv
          have hi : i < ms.length := by rw [← ok1.lenC]; exact (List.getElem?_eq_some_iff.1 hc).1
          exact (ok1.each i v c ms[i] hv hc (List.getElem?_eq_getElem hi)).1)
        (fun i v c hv hc => by
          simp only [List.drop_zero] at hv
          have hi : i < ns.length := by rw [← ok2.lenC]; exact (List.getElem?_eq_some_iff.1 hc).1
          exact (ok2.each i v c ns[i] hv hc (List.getElem?_eq_getElem hi)).1)
        k2 k1 hee
      have hagg := run_equalIn_agg (P := P) w 9999 t vs us (by rw [fieldsOf_eq ht]; exact ht) g1
      rw [fieldsOf_eq ht] at hagg
      have hgu := run_eqGuard_agg (P := P) w op t x y vs us g2
      refine Fin.scalar (v := .bool (if neg = true then !e else e)) h hd (by simp [Hd]) (by simp) ?_
      simp only [execOp, ho, hv1, hv2]
      rw [Sem.run_bind, Sem.run_bind, hgu]
      simp only [Result.andThen_ok]
      cases op <;> simp [eqNeg] at hop <;> subst hop
      · rw [run_eql_struct, hagg, hrun]; rfl
      · rw [run_neq_struct, hagg, hrun]; rfl
    · cases h1
  · cases h2

theorem fin_mm (h : Inv F s σ a w g) {o : Oper} (hd : ∀ k, o.dst = some k → k < F.n) {isMx : Bool} {x y : Operand} {t u : TypeId} {xx yy : X} {ats : Array TypeId}
    (ho : o.op = .call { callee := .builtin (if isMx then .max else .min), args := #[x, y], argTypes := ats }) (hx : normX P t x = some xx) (hy : normX P u y = some yy)
    (h1 : step Φ o.dst (if isMx then .mx xx yy else .mn xx yy) σ = some σ1) (h2 : sstep G ro gd o.dst (if isMx then .mx xx yy else .mn xx yy) s = some s1) : Fin P F o s1 σ1 a w := by
  cases isMx
  all_goals
    simp only [Bool.false_eq_true, if_false, if_true, sstep] at h2
    split at h2
    · rename_i hs
      cases h2
      simp only [Bool.false_eq_true, if_false, if_true, step] at h1
      split at h1
      · rename_i k p k' q e1 e2
        split at h1
        · rename_i hk
          subst hk
          cases h1
          have v1 := h.hd hx hs.1 e1
          have v2 := h.hd hy hs.2 e2
          simp only [Hd] at v1 v2
          refine Fin.scalar (v := .int k _) h hd rfl (by simp) ?_
          simp [execOp, ho, resolve, v1, v2, invoke, builtin, Builtin.max_, Builtin.min_, Builtin.max2, Builtin.min2]
        · cases h1
      · cases h1
    · cases h2

theorem fin_sidx (h : Inv F s σ a w g) {o : Oper} (hd : ∀ k, o.dst = some k → k < F.n) {t : TypeId} {x i : Operand} {xx ii : X} (ho : o.op = .index t x i) (ht : P.underlying t = some .string) (hx : normX P t x = some xx) (hi : normX P 0 i = some ii)
    (h1 : step Φ o.dst (.sidx xx ii) σ = some σ1) (h2 : sstep G ro gd o.dst (.sidx xx ii) s = some s1) : Fin P F o s1 σ1 a w := by
  simp only [sstep] at h2
  split at h2
  · rename_i hs
    cases h2
    simp only [step] at h1
    split at h1
    · rename_i l j e1 e2
      split at h1
      · rename_i hj
        split at h1
        · rename_i b hb
          cases h1
          have v1 := h.hd hx hs.1 e1
          obtain ⟨k, v2⟩ := h.idx hi hs.2 e2
          simp only [Hd] at v1
          refine Fin.scalar (v := .int .u8 b.toNat) h hd rfl (by simp) ?_
          have hget : (ByteArray.mk l.toArray)[j.toNat]? = some b := by
            obtain ⟨hlt, hbb⟩ := List.getElem?_eq_some_iff.1 hb
            have hlt' : j.toNat < (ByteArray.mk l.toArray).size := by rw [size_mk]; exact hlt
            rw [getElem?_pos (ByteArray.mk l.toArray) j.toNat hlt']
            simp only [Option.some.injEq]
            rw [← hbb]
            rfl
          simp [execOp, ho, v1, v2, Instr.index, asIntOf, run_underlying ht, hj, hget]
        · cases h1
      · cases h1
    · cases h1
  · cases h2

theorem fin_zap (h : Inv F s σ a w g) {o : Oper} (hd : ∀ k, o.dst = some k → k < F.n) (ho : o.op = .assign (.const (.pointer none))) (h1 : step Φ o.dst .zap σ = some σ1) (h2 : sstep G ro gd o.dst .zap s = some s1) : Fin P F o s1 σ1 a w := by
  simp only [step, sstep, Option.some.injEq] at h1 h2
  subst h1; subst h2
  exact ⟨.value (.pointer none), .pointer none, w, g, by simp [execOp, ho, Act.eval], .inl rfl, h.putD hd (by simp [TOK]) (by simp [M.deps])⟩
end
end Go.Opt
