/-
  The flat reading: a pure interpreter over typed values for the model's code. Definitions alone; nothing is proved here.
-/
import Derived.Calls
import Derived.Orders
namespace Go.Flat

/-- The codes of values. 'own', 'ref', 'opt' stand at the bounds of calls and loops alone. -/
inductive Ty where
  | unit | bool | int (k : IntKind) | str
  | pair (a b : Ty) | wrap (e : Ty)
  | slice (e : Ty) | ptr (e : Ty) | fn (a r : Ty)
  | own (e : Ty) | ref (e : Ty) | opt (e : Ty)
  deriving DecidableEq

/-- What a code stands for. -/
@[reducible] def El : Ty → Type
  | .unit => Unit
  | .bool => Bool
  | .int _ => Int
  | .str => List UInt8
  | .pair a b => El a × El b
  | .wrap e => El e
  | .slice e => List (El e)
  | .ptr e => El e
  | .fn a r => El a → Option (El r)
  | .own e => List (El e)
  | .ref e => El e
  | .opt e => Option (El e)

def width : Ty → Nat
  | .unit => 0
  | .pair a b => width a + width b
  | .wrap e => width e
  | _ => 1

/-- Several codes as one. -/
def tup : List Ty → Ty
  | [] => .unit
  | [a] => a
  | a :: r => .pair a (tup r)

/-- Codes of arguments: pairs that end in 'unit'. -/
def tupU : List Ty → Ty
  | [] => .unit
  | a :: r => .pair a (tupU r)

/-- A cell as the interpreter has it: a closed value; a pointer into closed memory; a pointer to a box of its own, or to an element of an array of its own; a slice of such an array; a closure; nil; nothing known. -/
inductive Cell where
  | val (t : Ty) (v : El t)
  | pin (t : Ty) (v : El t) (off : Nat)
  | loc (n ver off : Nat)
  | lel (n ver i off : Nat)
  | lall (n ver : Nat)
  | lsl (n ver off len : Nat)
  | clo (f : Nat) (t : Ty) (v : El t)
  | np
  | ns
  | nf
  | dead

/-- A value: one cell, or several as one; or a tuple of such; the value of what was not carried out; or nothing is known of it. -/
inductive V where
  | v (ag : Bool) (cs : List Cell)
  | tup (vs : List (Bool × List Cell))
  | undef
  | lost

/-- A block of memory of its own: a box with cells, or an array of closed elements; fr: it is frozen. -/
inductive Blk where
  | box (t : Ty) (cs : List Cell) (fr : Bool)
  | arr (e : Ty) (xs : List (El e)) (fr : Bool)

abbrev Heap := List (Nat × Option Blk)

structure St where
  t : List (Nat × V)
  h : Heap

def getT : List (Nat × V) → Nat → V
  | [], _ => .lost
  | (m, v) :: r, n => bif Nat.beq m n then v else getT r n

/-- A table by numbers. -/
inductive BT (α : Type) where
  | nil
  | node (l r : BT α) (v : Option α)
def BT.get {α : Type} : BT α → Nat → Option α
  | .nil, _ => none
  | .node l r v, n => bif Nat.beq n 0 then v else bif Nat.beq (n % 2) 1 then l.get (n / 2) else r.get (n / 2 - 1)

/-- A type's form, as far as it is asked for. -/
inductive Shp where
  | struct (fs : List (Nat × Nat))
  | arr (n e : Nat)
  | slice (e : Nat)
  | str
  | int (k : IntKind)
  | other
/-- eq: how two are compared: 1: pointers; 2: functions; 3: cell by cell; 4: bools -/
structure TI where
  ty : Option Ty
  shp : Shp
  cells : Nat
  bytes : Nat
  eq : Nat := 0

structure Sig where
  ps : List Ty
  rs : List Ty
  /-- which parameters are handed back, in order -/
  back : List Nat
  deriving Inhabited

structure LoopH where
  live : List (Nat × Ty)
  exit : Nat
  outs : List (Nat × Ty)

/-- Hints for a function: names for what is allocated at a slot; slots at which arrays are owned; loops. -/
structure Hints where
  /-- how many names -/
  size : Nat
  names : List (Nat × Nat)
  own : List Nat
  loops : List (Nat × LoopH)

structure Cx where
  P : Program
  info : TypeId → Option TI
  sig : FuncId → Option Sig
  hints : FuncId → Hints
def Cx.ty (cx : Cx) (t : TypeId) : Option Ty := match cx.info t with | some i => i.ty | none => none
def Cx.shp (cx : Cx) (t : TypeId) : Shp := match cx.info t with | some i => i.shp | none => .other
def Cx.cells (cx : Cx) (t : TypeId) : Nat := match cx.info t with | some i => i.cells | none => 0
def Cx.bytes (cx : Cx) (t : TypeId) : Nat := match cx.info t with | some i => i.bytes | none => 0

def Cx.eqk (cx : Cx) (t : TypeId) : Nat := match cx.info t with | some i => i.eq | none => 0

def Sig.out (s : Sig) : Ty := tup (s.rs ++ s.back.filterMap (s.ps[·]?))
def Cx.arg (cx : Cx) (f : FuncId) : Ty := match cx.sig f with | some s => tupU s.ps | none => .unit
def Cx.out (cx : Cx) (f : FuncId) : Ty := match cx.sig f with | some s => s.out | none => .unit

/-- How a call is answered. -/
abbrev Oracle (cx : Cx) := (f : FuncId) → El (cx.arg f) → Option (El (cx.out f))

def castEl {a b : Ty} (x : El a) : Option (El b) := if h : a = b then some (h ▸ x) else none

/-- the element of a place -/
def at? {α : Type} (xs : List α) (i : Int) : Option α := bif decide (0 ≤ i) then xs[i.toNat]? else none

/-! ## closed values and cells -/

def cells : (t : Ty) → El t → List Cell
  | .unit, _ => []
  | .pair a b, x => cells a x.1 ++ cells b x.2
  | .wrap e, x => cells e x
  | .bool, x => [.val .bool x]
  | .int k, x => [.val (.int k) x]
  | .str, x => [.val .str x]
  | .slice e, x => [.val (.slice e) x]
  | .ptr e, x => [.pin e x 0]
  | .fn a r, x => [.val (.fn a r) x]
  | .own _, _ => [.dead]
  | .ref _, _ => [.dead]
  | .opt _, _ => [.dead]

/-- is it one value of several cells? -/
def agg : Ty → Bool
  | .wrap _ => true
  | _ => false

def toV (t : Ty) (x : El t) : V := .v (agg t) (cells t x)

/-- The zero value's cells. -/
def zeroCells : Ty → List Cell
  | .unit => []
  | .pair a b => zeroCells a ++ zeroCells b
  | .wrap e => zeroCells e
  | .bool => [.val .bool false]
  | .int k => [.val (.int k) 0]
  | .str => [.val .str []]
  | .slice _ => [.ns]
  | .ptr _ => [.np]
  | .fn _ _ => [.nf]
  | .own _ => [.dead]
  | .ref _ => [.np]
  | .opt _ => [.np]

/-- The zero value of a closed code that holds no pointer. -/
def zeroEl : (t : Ty) → Option (El t)
  | .unit => some ()
  | .pair a b => (zeroEl a).bind fun x => (zeroEl b).map fun y => (x, y)
  | .wrap e => zeroEl e
  | .bool => some false
  | .int _ => some (0 : Int)
  | .str => some []
  | .slice _ => some []
  | _ => none

def appTy : Ty → Ty → Ty
  | .unit, b => b
  | .pair p q, b => .pair p (appTy q b)
  | t, _ => t

def appEl : (a b : Ty) → El a → El b → El (appTy a b)
  | .unit, _, _, y => y
  | .pair _ q, b, x, y => (x.1, appEl q b x.2 y)
  | .bool, _, x, _ => x
  | .int _, _, x, _ => x
  | .str, _, x, _ => x
  | .wrap _, _, x, _ => x
  | .slice _, _, x, _ => x
  | .ptr _, _, x, _ => x
  | .fn _ _, _, x, _ => x
  | .own _, _, x, _ => x
  | .ref _, _, x, _ => x
  | .opt _, _, x, _ => x

/-- no array, no box of one's own -/
def closedTy : Ty → Bool
  | .pair a b => closedTy a && closedTy b
  | .wrap e => closedTy e
  | .own _ | .ref _ | .opt _ => false
  | _ => true
/-- one value -/
def oneTy (t : Ty) : Bool := agg t || Nat.beq (width t) 1

section
variable (cx : Cx) (call : Oracle cx)

/-- A closure that was made here, as a function. -/
def cloFn (f : FuncId) (ct : Ty) (cv : El ct) (a r : Ty) : Option (El a → Option (El r)) :=
  match cx.sig f with
  | none => none
  | some s =>
    match s.back, s.rs with
    | [], [r'] =>
      if r' = r ∧ closedTy r = true ∧ oneTy r = true then
      if ha : appTy a ct = cx.arg f then
        if hr : cx.out f = r then some fun x => hr ▸ call f (ha ▸ appEl a ct x cv) else none
      else none
      else none
    | _, _ => none

/-- the version at a name -/
def verOf (h : Heap) (n : Nat) : Nat := match h[n]? with | some (v, _) => v | none => 0

/-- A closed leaf out of a cell: of an array of one's own what it holds, with its name. -/
def leaf0 (h : Heap) : (t : Ty) → Cell → Option (El t × List Nat)
  | .slice e, .lall n ver =>
    match h[n]? with
    | some (ver', some (.arr e' xs _)) => if ver = ver' then (castEl (a := .slice e') (b := .slice e) xs).map (·, [n]) else none
    | _ => none
  | .slice e, .lsl n ver off len =>
    match h[n]? with
    | some (ver', some (.arr e' xs _)) => if ver = ver' then (castEl (a := .slice e') (b := .slice e) ((xs.drop off).take len)).map (·, [n]) else none
    | _ => none
  | .slice _, .ns => some ([], [])
  | .ptr e, .pin e' v off => if off = 0 then (castEl (a := .ptr e') (b := .ptr e) v).map (·, []) else none
  | .fn a r, .clo f ct cv => (cloFn cx call f ct cv a r).map (·, [])
  | _, .val _ v => (castEl v).map (·, [])
  | _, _ => none

/-- A closed value out of cells; what is left; the names of what it was read of. -/
def parse0 (h : Heap) : (t : Ty) → List Cell → Option (El t × List Cell × List Nat)
  | .unit, cs => some ((), cs, [])
  | .pair a b, cs => (parse0 h a cs).bind fun x => (parse0 h b x.2.1).map fun y => ((x.1, y.1), y.2.1, x.2.2 ++ y.2.2)
  | .wrap e, cs => parse0 h e cs
  | t, c :: cs => (leaf0 cx call h t c).map fun x => (x.1, cs, x.2)
  | _, [] => none

/-- Of cells just one closed value. -/
def parseAll (h : Heap) (t : Ty) (cs : List Cell) : Option (El t × List Nat) :=
  (parse0 cx call h t cs).bind fun x => match x.2.1 with | [] => some (x.1, x.2.2) | _ => none

/-- As 'leaf0', with a box of one's own as what it holds. -/
def leaf (h : Heap) : (t : Ty) → Cell → Option (El t × List Nat)
  | .ptr e, .loc n ver off =>
    match h[n]? with
    | some (ver', some (.box _ cs _)) => if ver = ver' ∧ off = 0 then (parseAll cx call h e cs).map fun x => (x.1, n :: x.2) else none
    | _ => none
  | t, c => leaf0 cx call h t c

/-- What goes over a bound: a value out of cells; what is left; what was taken; what was lent. -/
def packB (h : Heap) : (t : Ty) → List Cell → Option (El t × List Cell × List Nat × List Nat)
  | .unit, cs => some ((), cs, [], [])
  | .pair a b, cs => (packB h a cs).bind fun x => (packB h b x.2.1).map fun y => ((x.1, y.1), y.2.1, x.2.2.1 ++ y.2.2.1, x.2.2.2 ++ y.2.2.2)
  | .wrap e, cs => packB h e cs
  | .own e, c :: cs =>
    match c with
    | .ns => some ([], cs, [], [])
    | .lall n ver =>
      match h[n]? with
      | some (ver', some (.arr e' xs false)) => if ver = ver' then (castEl (a := .own e') (b := .own e) xs).map (·, cs, [n], []) else none
      | _ => none
    | .lsl n ver off len =>
      match h[n]? with
      | some (ver', some (.arr e' xs false)) => if ver = ver' ∧ off = 0 then (castEl (a := .own e') (b := .own e) (xs.take len)).map (·, cs, [n], []) else none
      | _ => none
    | _ => none
  | .ref e, c :: cs =>
    match c with
    | .loc n ver off =>
      match h[n]? with
      | some (ver', some (.box _ bs false)) =>
        if ver = ver' ∧ off = 0 then
          (packB h e bs).bind fun x => match x.2.1 with | [] => some (x.1, cs, n :: x.2.2.1, x.2.2.2) | _ => none
        else none
      | _ => none
    | _ => none
  | .opt e, c :: cs =>
    match c with
    | .np => some (none, cs, [], [])
    | c => (packB h e [c]).bind fun x => match x.2.1 with | [] => some (some x.1, cs, x.2.2) | _ => none
  | t, c :: cs => (leaf cx call h t c).map fun x => (x.1, cs, [], x.2)
  | _, [] => none

def packAll (h : Heap) (t : Ty) (cs : List Cell) : Option (El t × List Nat × List Nat) :=
  (packB cx call h t cs).bind fun x => match x.2.1 with | [] => some (x.1, x.2.2) | _ => none
end

/-- the name that an old cell bore -/
def oldName : List Cell → Option Nat
  | .lall n _ :: _ => some n
  | .lsl n _ _ _ :: _ => some n
  | .loc n _ _ :: _ => some n
  | _ => none

/-- A value that came over a bound, as cells, with its new blocks, at the names that stood there, or at names from nm on. -/
def unpackK {R : Type} (h : Heap) : (t : Ty) → El t → List Cell → Nat → (List Cell → List (Nat × Nat × Blk) → Nat → Option R) → Option R
  | .unit, _, _, nm, k => k [] [] nm
  | .pair a b, x, old, nm, k => unpackK h a x.1 (old.take (width a)) nm fun cs bs nm => unpackK h b x.2 (old.drop (width a)) nm fun cs' bs' nm => k (cs ++ cs') (bs ++ bs') nm
  | .wrap e, x, old, nm, k => unpackK h e x old nm k
  | .own e, x, old, nm, k =>
    match oldName old with
    | some n => k [.lall n (verOf h n + 1)] [(n, verOf h n + 1, .arr e x false)] nm
    | none => k [.lall nm (verOf h nm + 1)] [(nm, verOf h nm + 1, .arr e x false)] (nm + 1)
  | .ref e, x, old, nm, k =>
    match oldName old with
    | some n => unpackK h e x [] nm fun cs bs nm => k [.loc n (verOf h n + 1) 0] ((n, verOf h n + 1, .box e cs false) :: bs) nm
    | none => unpackK h e x [] (nm + 1) fun cs bs nm' => k [.loc nm (verOf h nm + 1) 0] ((nm, verOf h nm + 1, .box e cs false) :: bs) nm'
  | .opt e, x, old, nm, k => match x with | none => k [.np] [] nm | some y => unpackK h e y old nm k
  | t, x, _, nm, k => k (cells t x) [] nm

/-- does a code hold anything that may share memory? -/
def shares : Ty → Bool
  | .pair a b => shares a || shares b
  | .wrap e => shares e
  | .slice _ | .ptr _ | .fn _ _ => true
  | .own e | .ref e | .opt e => shares e
  | _ => false

abbrev Ups := List (Nat × Nat × Option Blk)
def setUps (h : Heap) : Ups → Heap
  | [] => h
  | (n, ver, b) :: r => setUps (h.set n (ver, b)) r

/-- freeze what lies at names -/
def freezeUps (h : Heap) : List Nat → Ups
  | [] => []
  | n :: r =>
    match h[n]? with
    | some (ver, some (.box t cs _)) => (n, ver, some (.box t cs true)) :: freezeUps h r
    | some (ver, some (.arr e xs _)) => (n, ver, some (.arr e xs true)) :: freezeUps h r
    | _ => freezeUps h r

/-- is a number among others? -/
def hasN : List Nat → Nat → Bool
  | [], _ => false
  | m :: r, n => Nat.beq m n || hasN r n

def nodupB : List Nat → Bool
  | [] => true
  | n :: r => !hasN r n && nodupB r

/-- what is taken is gone -/
def takeUps (h : Heap) (ns : List Nat) : Ups := ns.map fun n => (n, verOf h n + 1, none)

/-! ## arithmetic -/
def shlI (k : IntKind) (a b : Int) : Int := k.wrap (a * 2 ^ (min b.toNat k.bits))
def shrI (k : IntKind) (a b : Int) : Int := a.fdiv (2 ^ (min b.toNat k.bits))
def andI (k : IntKind) (a b : Int) : Int := k.wrap (BitVec.ofInt k.bits a &&& BitVec.ofInt k.bits b).toNat
def orI (k : IntKind) (a b : Int) : Int := k.wrap (BitVec.ofInt k.bits a ||| BitVec.ofInt k.bits b).toNat
def xorI (k : IntKind) (a b : Int) : Int := k.wrap (BitVec.ofInt k.bits a ^^^ BitVec.ofInt k.bits b).toNat
def andNotI (k : IntKind) (a b : Int) : Int := k.wrap (BitVec.ofInt k.bits a &&& ~~~ BitVec.ofInt k.bits b).toNat

def eqLeaf : (t : Ty) → El t → El t → Option Bool
  | .bool, a, b => some (a == b)
  | .int _, a, b => some (decide (a = b))
  | .str, a, b => some (a == b)
  | _, _, _ => none

/-- the codes of a code's cells -/
def flat : Ty → List Ty
  | .unit => []
  | .pair a b => flat a ++ flat b
  | .wrap e => flat e
  | t => [t]

def eqCells : List Ty → List Cell → List Cell → Option Bool
  | [], [], [] => some true
  | t :: ls, .val u a :: r, .val u' b :: s =>
    if h : u = t then
      if h' : u' = t then
        match eqLeaf t (h ▸ a) (h' ▸ b) with
        | some x => match ls, r, s with
          | [], [], [] => some x
          | _, _, _ => (eqCells ls r s).map (x && ·)
        | none => none
      else none
    else none
  | _, _, _ => none

/-- is a pointer, or a function, nil? -/
def isNil : Cell → Option Bool
  | .np => some true
  | .nf => some true
  | .pin _ _ _ | .loc _ _ _ | .lel _ _ _ _ | .clo _ _ _ | .val (.fn _ _) _ => some false
  | _ => none
/-- are two pointers equal, of which one is nil? -/
def eqNilP : Cell → Cell → Option Bool
  | .np, .np => some true
  | .np, .pin _ _ _ | .np, .loc _ _ _ | .np, .lel _ _ _ _ => some false
  | .pin _ _ _, .np | .loc _ _ _, .np | .lel _ _ _ _, .np => some false
  | _, _ => none
/-- are two functions equal, of which one is nil? -/
def eqNilF : Cell → Cell → Option Bool
  | .nf, .nf => some true
  | .nf, .clo _ _ _ | .nf, .val (.fn _ _) _ => some false
  | .clo _ _ _, .nf | .val (.fn _ _) _, .nf => some false
  | _, _ => none

/-- two values that are no scalars, by how their type's are compared -/
def eqK (kind : Nat) (ty : Option Ty) (x y : V) : Option Bool :=
  match kind, x, y with
  | 1, .v false [c], .v false [d] => eqNilP c d
  | 2, .v false [c], .v false [d] => eqNilF c d
  | 3, .v true xs, .v true ys => match ty with | some t => eqCells (flat t) xs ys | none => none
  | _, _, _ => none

section
variable {R : Type}

def binI (op : BinOp) (k : IntKind) (a b : Int) (kk : Cell → Option R) : Option R :=
  match op with
  | .add => kk (.val (.int k) (k.wrap (a + b)))
  | .sub => kk (.val (.int k) (k.wrap (a - b)))
  | .mul => kk (.val (.int k) (k.wrap (a * b)))
  | .quo => bif decide (b = 0) then none else kk (.val (.int k) (k.wrap (a.tdiv b)))
  | .rem => bif decide (b = 0) then none else kk (.val (.int k) (a.tmod b))
  | .and => kk (.val (.int k) (andI k a b))
  | .or => kk (.val (.int k) (orI k a b))
  | .xor => kk (.val (.int k) (xorI k a b))
  | .andNot => kk (.val (.int k) (andNotI k a b))
  | .shl => bif decide (b < 0) then none else kk (.val (.int k) (shlI k a b))
  | .shr => bif decide (b < 0) then none else kk (.val (.int k) (shrI k a b))
  | .eql => kk (.val .bool (decide (a = b)))
  | .neq => kk (.val .bool (!decide (a = b)))
  | .lss => kk (.val .bool (decide (a < b)))
  | .leq => kk (.val .bool (decide (a ≤ b)))
  | .gtr => kk (.val .bool (decide (b < a)))
  | .geq => kk (.val .bool (decide (b ≤ a)))

def isShift : BinOp → Bool
  | .shl | .shr => true
  | _ => false

def binS (op : BinOp) (a b : List UInt8) (kk : Cell → Option R) : Option R :=
  match op with
  | .add => bif decide (a.length + b.length ≤ 9223372036854775807) then kk (.val .str (a ++ b)) else none
  | .eql => kk (.val .bool (a == b))
  | .neq => kk (.val .bool (!(a == b)))
  | .lss => kk (.val .bool (Op.bytesLess a b))
  | .leq => kk (.val .bool (Op.bytesLess a b || a == b))
  | .gtr => kk (.val .bool (!(Op.bytesLess a b || a == b)))
  | .geq => kk (.val .bool (!Op.bytesLess a b))
  | _ => none

def binK (kind : Nat) (ty : Option Ty) (op : BinOp) (x y : V) (kk : Cell → Option R) : Option R :=
  match x, y with
  | .v false [.val (.int k) a], .v false [.val (.int k') b] => if k = k' ∨ isShift op = true then binI op k a b kk else none
  | .v false [.val .str a], .v false [.val .str b] => binS op a b kk
  | .v false [.val .bool a], .v false [.val .bool b] =>
    match kind, op with
    | 4, .eql => kk (.val .bool (a == b))
    | 4, .neq => kk (.val .bool (!(a == b)))
    | _, _ => none
  | x, y =>
    match op, eqK kind ty x y with
    | .eql, some b => kk (.val .bool b)
    | .neq, some b => kk (.val .bool !b)
    | _, _ => none

def unK (op : UnOp) (x : V) (kk : Cell → Option R) : Option R :=
  match op, x with
  | .not, .v false [.val .bool b] => kk (.val .bool !b)
  | .neg, .v false [.val (.int k) a] => kk (.val (.int k) (k.wrap (0 - a)))
  | .xor, .v false [.val (.int k) a] => kk (.val (.int k) (xorI k (if k.signed then -1 else k.max) a))
  | _, _ => none

/-- the index i of n places, tried one by one -/
def pickIx (i : Int) : (n : Nat) → (at_ : Nat) → (Nat → Option R) → Option R
  | 0, _, _ => none
  | n + 1, j, k => bif decide (i = (j : Int)) then k j else pickIx i n (j + 1) k
end

/-! ## memory -/
def splice (cs : List Cell) (off : Nat) (new : List Cell) : Option (List Cell) :=
  if off + new.length ≤ cs.length then some (cs.take off ++ new ++ cs.drop (off + new.length)) else none

def cut (cs : List Cell) (off w : Nat) : Option (List Cell) :=
  if off + w ≤ cs.length then some ((cs.drop off).take w) else none

/-- field f's place in a struct -/
def fieldOff (cx : Cx) (s : TypeId) (f : Nat) : Option (Nat × TypeId) :=
  match cx.shp s with
  | .struct fs => fs[f]?
  | _ => none

/-- a bool fact that must be so -/
def must {R : Type} (b : Bool) (k : Option R) : Option R := bif b then k else none

end Go.Flat
