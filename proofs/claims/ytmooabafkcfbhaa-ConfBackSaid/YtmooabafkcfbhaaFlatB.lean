/-
  The flat reading, second part: operations, code, functions. Definitions alone.
-/
import Derived.Test.YtmooabafkcfbhaaFlatA
import Derived.Laws.Sem
namespace Go.Flat

/-- a literal, read -/
def constCell : Value → Cell
  | .bool b => .val .bool b
  | .int k n => .val (.int k) n
  | .string s => .val .str s.data.toList
  | .pointer none => .np
  | .slice none 0 0 => .ns
  | .nilFunc => .nf
  | _ => .dead
def constV : Value → V
  | .agg cs => bif cs.toList.all (·.oneCell') then .v true (cs.toList.map constCell) else .lost
  | .tuple _ => .lost
  | v => bif v.oneCell' then .v false [constCell v] else .lost

def opnd (st : St) : Operand → V
  | .tmp t => getT st.t t
  | .const v => constV v
  | .global _ => .lost
  | .func f => .v false [.clo f .unit ()]

/-- names that a cell speaks of -/
def nameOf : Cell → List Nat
  | .loc n _ _ => [n]
  | .lel n _ _ _ => [n]
  | .lall n _ => [n]
  | .lsl n _ _ _ => [n]
  | _ => []
def namesV : V → List Nat
  | .v _ cs => cs.flatMap nameOf
  | .tup vs => vs.flatMap fun x => x.2.flatMap nameOf
  | _ => []
def namesBlk (h : Heap) (n : Nat) : List Nat :=
  match h[n]? with
  | some (_, some (.box _ cs _)) => cs.flatMap nameOf
  | _ => []
/-- a list in its own shape, made ahead of its use -/
def forceL {R : Type} : List Nat → (List Nat → Option R) → Option R
  | [], k => k []
  | n :: r, k => forceL r fun r => k (n :: r)

/-- names, and those that lie in their boxes -/
def closeK {R : Type} (h : Heap) : Nat → List Nat → (List Nat → Option R) → Option R
  | 0, ns, k => forceL ns k
  | d + 1, ns, k => forceL ns fun ns => closeK h d (ns.flatMap (namesBlk h)) fun r => k (ns ++ r)

/-- how many names a value that comes over a bound wants -/
def wants : Ty → Nat
  | .pair a b => wants a + wants b
  | .wrap e => wants e
  | .own _ => 1
  | .ref e => wants e + 1
  | .opt e => wants e
  | _ => 0
def inner : Ty → Nat
  | .ref e => wants e
  | _ => 0

section
variable (cx : Cx) (call : Oracle cx) (fx : Hints)

def nmOf (o : Oper) : Nat := match o.dst with | some d => ((fx.names.find? fun x => Nat.beq x.1 d).map (·.2)).getD 0 | none => 0
def ownAt (o : Oper) : Bool := match o.dst with | some d => hasN fx.own d | none => false

section
variable {R : Type}

/-- cells at an address -/
def loadK (h : Heap) (w : Nat) (a : Cell) (k : List Cell → Option R) : Option R :=
  match a with
  | .loc n ver off =>
    match h[n]? with
    | some (ver', some (.box _ cs _)) => if ver = ver' then match cut cs off w with | some c => k c | none => none else none
    | _ => none
  | .pin t v off => match cut (cells t v) off w with | some c => k c | none => none
  | .lel n ver i off =>
    match h[n]? with
    | some (ver', some (.arr e xs _)) => if ver = ver' then (xs[i]?).bind fun y => match cut (cells e y) off w with | some c => k c | none => none else none
    | _ => none
  | _ => none

def storeK (h : Heap) (a : Cell) (new : List Cell) (k : Ups → Option R) : Option R :=
  match a with
  | .loc n ver off =>
    match h[n]? with
    | some (ver', some (.box t cs false)) => if ver = ver' then match splice cs off new with | some c => k [(n, ver, some (.box t c false))] | none => none else none
    | _ => none
  | .lel n ver i off =>
    match h[n]? with
    | some (ver', some (.arr e xs false)) =>
      if ver = ver' then
        (xs[i]?).bind fun y =>
          match splice (cells e y) off new with
          | some c =>
            match parseAll cx call h e c with
            | some (z, lent) => if hasN lent n then none else k (freezeUps h (if shares e then lent else []) ++ [(n, ver, some (.arr e (xs.set i z) false))])
            | none => none
          | none => none
      else none
    | _ => none
  | _ => none

/-- an array of one's own, or closed: its elements as code e has them, and the names lent -/
def arrK (h : Heap) (e : Ty) (c : Cell) (k : List (El e) → Option R) : Option R :=
  match leaf0 cx call h (.slice e) c with
  | some (xs, _) => k xs
  | none => none

def lenK (h : Heap) (s : Shp) (c : Cell) (k : Nat → Option R) : Option R :=
  match s with
  | .str =>
    match c with
    | .val .str s => k s.length
    | _ => none
  | .slice _ =>
    match c with
    | .val (.slice _) xs => k xs.length
    | .ns => k 0
    | .lall n ver =>
      match h[n]? with
      | some (ver', some (.arr _ xs _)) => if ver = ver' then k xs.length else none
      | _ => none
    | .lsl _ _ _ len => k len
    | _ => none
  | _ => none

def intOf1 : V → Option Int
  | .v false [.val (.int _) n] => some n
  | _ => none

/-- is an element as wide as its type says? -/
def sameW (et : TypeId) (e : Ty) : Bool := Nat.beq (cx.cells et) (width e) && !Nat.beq (width e) 0

def indexAddrK (h : Heap) (t : TypeId) (x : V) (i : Int) (k : Cell → Option R) : Option R :=
  match cx.shp t with
  | .arr n e =>
    bif Nat.beq (cx.cells e) 0 then none else
    let w := cx.cells e
    match x with
    | .v false [.loc m ver off] => pickIx i n 0 fun j => k (.loc m ver (off + j * w))
    | .v false [.pin t v off] => pickIx i n 0 fun j => k (.pin t v (off + j * w))
    | .v false [.lel m ver q off] => pickIx i n 0 fun j => k (.lel m ver q (off + j * w))
    | _ => none
  | .slice et =>
    match x with
    | .v false [.val (.slice e) xs] => bif sameW cx et e then (at? xs i).bind fun y => k (.pin e y 0) else none
    | .v false [.lall n ver] =>
      match h[n]? with
      | some (ver', some (.arr e xs _)) => if ver = ver' then bif sameW cx et e then (at? xs i).bind fun _ => k (.lel n ver i.toNat 0) else none else none
      | _ => none
    | .v false [.lsl n ver off len] =>
      match h[n]? with
      | some (ver', some (.arr e xs _)) => if ver = ver' then bif sameW cx et e then (at? ((xs.drop off).take len) i).bind fun _ => k (.lel n ver (off + i.toNat) 0) else none else none
      | _ => none
    | _ => none
  | _ => none

def indexK (t : TypeId) (x : V) (i : Int) (k : V → Option R) : Option R :=
  match cx.shp t, x with
  | .arr n e, .v true cs =>
    match cx.ty e with
    | some c => pickIx i n 0 fun j => match cut cs (j * width c) (width c) with | some c' => k (.v (agg c) c') | none => none
    | none => none
  | .str, .v false [.val .str s] => (at? s i).bind fun b => k (.v false [.val (.int .u8) (b.toNat : Int)])
  | _, _ => none

/-- the upper bound of a slice -/
def upK (n l : Nat) (hi : Option V) (k : Nat → Nat → Option R) : Option R :=
  match hi with
  | none => must (decide (l ≤ n)) (k l n)
  | some v => match intOf1 v with
    | some j => must (decide ((l : Int) ≤ j) && decide (j ≤ (n : Int))) (k l j.toNat)
    | none => none

/-- the bounds of a slice: from, to, of what can be told -/
def boundsK (n : Nat) (lo hi : Option V) (k : Nat → Nat → Option R) : Option R :=
  match lo with
  | none => upK n 0 hi k
  | some v => match intOf1 v with
    | some i => must (decide (0 ≤ i)) (upK n i.toNat hi k)
    | none => none

def zeroInt : Option V → Bool
  | some (.v false [.val (.int _) (.ofNat 0)]) => true
  | _ => false

def sliceK (h : Heap) (et : TypeId) (x : V) (lo hi mx : Option V) (k : Cell → Option R) : Option R :=
  match mx with
  | some _ =>
    -- the one form 's[:0:0]'
    if zeroInt hi && zeroInt mx && lo.isNone then
      match x with
      | .v false [.val (.slice _) _] => k .ns
      | .v false [.ns] => k .ns
      | .v false [.lall n ver] =>
        match h[n]? with
        | some (ver', some (.arr _ _ _)) => if ver = ver' then k .ns else none
        | _ => none
      | _ => none
    else none
  | none =>
    match x with
    | .v false [.val (.slice e) xs] => bif sameW cx et e then boundsK xs.length lo hi fun l j => k (.val (.slice e) ((xs.take j).drop l)) else none
    | .v false [.ns] => boundsK 0 lo hi fun _ _ => k .ns
    | .v false [.lall n ver] =>
      match h[n]? with
      | some (ver', some (.arr e xs _)) => if ver = ver' then bif sameW cx et e then boundsK xs.length lo hi fun l j => k (.lsl n ver l (j - l)) else none else none
      | _ => none
    | .v false [.lsl n ver off len] =>
      match h[n]? with
      | some (ver', some (.arr e _ _)) => if ver = ver' then bif sameW cx et e then boundsK len lo hi fun l j => k (.lsl n ver (off + l) (j - l)) else none else none
      | _ => none
    | _ => none

def sliceS (x : V) (lo hi mx : Option V) (k : Cell → Option R) : Option R :=
  match mx, x with
  | none, .v false [.val .str s] => boundsK s.length lo hi fun l j => k (.val .str ((s.take j).drop l))
  | _, _ => none

/-- 'append' -/
def appendK (h : Heap) (o : Oper) (e : Ty) (bytes : Nat) (s x : V) (k : Cell → Ups → Option R) : Option R :=
  let news (kk : List (El e) → Option R) : Option R :=
    match x with
    | .v false [.val .str b] => match castEl (a := .slice (.int .u8)) (b := .slice e) (b.map fun c => (c.toNat : Int)) with | some y => kk y | none => none
    | .v false [c] => arrK cx call h e c kk
    | _ => none
  match s with
  | .v false [.ns] => news fun ys =>
      must (decide (ys.length * bytes ≤ 140737488355328))
        (k (.lall (nmOf fx o) (verOf h (nmOf fx o) + 1)) [(nmOf fx o, verOf h (nmOf fx o) + 1, some (.arr e ys false))])
  | .v false [.lall n ver] =>
    match h[n]? with
    | some (ver', some (.arr e' xs false)) =>
      if ver = ver' then
        match castEl (a := .slice e') (b := .slice e) xs with
        | some zs => news fun ys =>
          must (decide ((zs.length + ys.length) * bytes ≤ 140737488355328))
            (k (.lall n (ver + 1)) [(n, ver + 1, some (.arr e (zs ++ ys) false))])
        | none => none
      else none
    | _ => none
  | .v false [.lsl n ver off len] =>
    match h[n]? with
    | some (ver', some (.arr e' xs false)) =>
      if ver = ver' ∧ off = 0 then
        match castEl (a := .slice e') (b := .slice e) (xs.take len) with
        | some zs => news fun ys =>
          must (decide ((zs.length + ys.length) * bytes ≤ 140737488355328))
            (k (.lall n (ver + 1)) [(n, ver + 1, some (.arr e (zs ++ ys) false))])
        | none => none
      else none
    | _ => none
  | _ => none

/-- where a slice of one's own lies: name, version, from, how many -/
def placeK (h : Heap) (c : Cell) (k : (n ver off len : Nat) → (e : Ty) → List (El e) → Option R) : Option R :=
  match c with
  | .lall n ver =>
    match h[n]? with
    | some (ver', some (.arr e xs false)) => if ver = ver' then k n ver 0 xs.length e xs else none
    | _ => none
  | .lsl n ver off len =>
    match h[n]? with
    | some (ver', some (.arr e xs false)) => if ver = ver' then must (decide (off + len ≤ xs.length)) (k n ver off len e xs) else none
    | _ => none
  | _ => none

def putRow {α : Type} (xs : List α) (off : Nat) (ys : List α) : List α := xs.take off ++ ys ++ xs.drop (off + ys.length)

/-- is what is appended a slice or a string? -/
def noZerosB (ts : Array TypeId) : Bool :=
  match (ts[1]?).map cx.shp with
  | none => true
  | some (.slice _) => true
  | some .str => true
  | _ => false

def builtinK (h : Heap) (o : Oper) (b : Builtin) (ts : Array TypeId) (args : List V) (k : V → Ups → Option R) : Option R :=
  match b, args with
  | .len, [.v false [c]] => match (ts[0]?).map cx.shp with | some s => lenK h s c fun n => k (.v false [.val (.int .i64) (n : Int)]) [] | none => none
  | .len, [.v true _] => match (ts[0]?).map cx.shp with | some (.arr n _) => k (.v false [.val (.int .i64) (n : Int)]) [] | _ => none
  | .min, [.v false [.val (.int kd) a], .v false [.val (.int _) b]] => k (.v false [.val (.int kd) (if b < a then b else a)]) []
  | .max, [.v false [.val (.int kd) a], .v false [.val (.int _) b]] => k (.v false [.val (.int kd) (if a < b then b else a)]) []
  | .append, [s, x] =>
    match (ts[0]?).map cx.shp, noZerosB cx ts with
    | some (.slice et), true =>
      match cx.ty et with
      | some e => bif sameW cx et e && Nat.blt 0 (cx.bytes et) then appendK cx call fx h o e (cx.bytes et) s x fun c u => k (.v false [c]) u else none
      | none => none
    | _, _ => none
  | .copy, [.v false [d], .v false [s]] =>
    match (ts[0]?).map cx.shp with
    | some (.slice et) =>
      match cx.ty et with
      | some e0 => placeK h d fun n ver off len e xs =>
        if e = e0 then
          match s with
          | .val .str b =>
            match castEl (a := .slice (.int .u8)) (b := .slice e) ((b.map fun c => (c.toNat : Int)).take len) with
            | some ys => k (.v false [.val (.int .i64) (ys.length : Int)]) [(n, ver, some (.arr e (putRow xs off ys) false))]
            | none => none
          | s => arrK cx call h e s fun ys =>
            k (.v false [.val (.int .i64) ((ys.take len).length : Int)]) [(n, ver, some (.arr e (putRow xs off (ys.take len)) false))]
        else none
      | none => none
    | _ => none
  | .clear, [.v false [d]] =>
    match (ts[0]?).map cx.shp with
    | some (.slice et) =>
      match d with
      | .ns => k (.tup []) []
      | d =>
        match cx.ty et with
        | some e0 => placeK h d fun n ver off len e xs =>
          if e = e0 then
            match zeroEl e with
            | some z => k (.tup []) [(n, ver, some (.arr e (putRow xs off (List.replicate len z)) false))]
            | none => none
          else none
        | none => none
    | _ => none
  | _, _ => none

/-- the cells of a box -/
def boxAt (h : Heap) (n : Nat) : List Cell :=
  match h[n]? with
  | some (_, some (.box _ cs _)) => cs
  | _ => []

/-- what is handed back, where it stood -/
def outsK.backK (h : Heap) : (t : Ty) → Cell → El t → Nat → (Ups → Nat → Option R) → Option R
  | .ref e, .loc n ver _, x, nm, k => unpackK h e x (boxAt h n) nm fun cs bs nm => k ((n, ver, some (.box e cs false)) :: bs.map fun b => (b.1, b.2.1, some b.2.2)) nm
  | _, _, _, _, _ => none

/-- what came back over a bound: results, and what was handed back -/
def outsK (h : Heap) : (ts : List (Ty × Option Cell)) → El (tup (ts.map Prod.fst)) → Nat → (List (Bool × List Cell) → Ups → Option R) → Option R
  | [], _, _, k => k [] []
  | [(t, none)], x, nm, k => unpackK h t x [] nm fun cs bs _ => k [(agg t, cs)] (bs.map fun b => (b.1, b.2.1, some b.2.2))
  | [(t, some c)], x, nm, k => outsK.backK h t c x nm fun u _ => k [] u
  | (t, none) :: b :: r, x, nm, k => unpackK h t x.1 [] nm fun cs bs nm => outsK h (b :: r) x.2 nm fun vs u => k ((agg t, cs) :: vs) ((bs.map fun b => (b.1, b.2.1, some b.2.2)) ++ u)
  | (t, some c) :: b :: r, x, nm, k => outsK.backK h t c x.1 nm fun u nm => outsK h (b :: r) x.2 nm fun vs u' => k vs (u ++ u')

def vOf : V → Option (Bool × List Cell)
  | .v a cs => some (a, cs)
  | _ => none

/-- arguments over a bound -/
def argsB (h : Heap) : (ps : List Ty) → List V → Option (El (tupU ps) × List Nat × List Nat × List Cell)
  | [], [] => some ((), [], [], [])
  | p :: ps, .v a cs :: vs =>
    if a = agg p then
      (packAll cx call h p cs).bind fun x => (argsB h ps vs).map fun y => ((x.1, y.1), x.2.1 ++ y.2.1, x.2.2 ++ y.2.2.1, cs.headD .dead :: y.2.2.2)
    else none
  | _, _ => none

def resV : List (Bool × List Cell) → V
  | [(a, cs)] => .v a cs
  | l => .tup l

def callK (h : Heap) (o : Oper) (f : FuncId) (args : List V) (k : V → Ups → Option R) : Option R :=
  match cx.sig f with
  | none => none
  | some s =>
    match argsB cx call h s.ps args with
    | none => none
    | some (a, taken, lent, heads) =>
      if nodupB (taken ++ lent) then
        -- of what is handed back the name stays: all else that was taken is gone
        let bt : List (Ty × Option Cell) := s.rs.map (·, none) ++ s.back.filterMap fun i => match s.ps[i]?, heads[i]? with | some p, some c => some (p, some c) | _, _ => none
        let stay := s.back.filterMap fun i => (heads[i]?).bind fun c => (nameOf c)[0]?
        match castEl (a := tupU s.ps) (b := cx.arg f) a with
        | none => none
        | some a =>
          (call f a).bind fun r =>
            match castEl (a := cx.out f) (b := tup (bt.map Prod.fst)) r with
            | none => none
            | some r =>
              outsK h bt r (nmOf fx o) fun vs u =>
                must (nodupB (u.map (·.1)) && stay.all (hasN (u.map (·.1)))) <|
                k (resV vs) (takeUps h (taken.filter fun n => !hasN stay n) ++ freezeUps h (if shares (cx.out f) then lent else []) ++ u)
      else none


/-- closed arguments, for a function value -/
def argsC (h : Heap) : (a : Ty) → List V → Option (El a × List Nat)
  | .unit, [] => some ((), [])
  | .pair p q, .v ag cs :: vs =>
    if ag = agg p then
      (parseAll cx call h p cs).bind fun x => (argsC h q vs).map fun y => ((x.1, y.1), x.2 ++ y.2)
    else none
  | _, _ => none

/-- a call of a function value: its one result closed -/
def callV (h : Heap) (c : Cell) (args : List V) (k : V → Ups → Option R) : Option R :=
  match c with
  | .val (.fn a r) p =>
    if closedTy r = true ∧ oneTy r = true then
      match argsC cx call h a args with
      | some (x, lent) => (p x).bind fun y => k (toV r y) (freezeUps h (if shares r then lent else []))
      | none => none
    else none
  | .clo f ct cv =>
    match cx.sig f with
    | some s =>
      match s.rs with
      | [r] =>
        let a := tupU (s.ps.take args.length)
        match cloFn cx call f ct cv a r with
        | some p =>
          match argsC cx call h a args with
          | some (x, lent) => (p x).bind fun y => k (toV r y) (freezeUps h (if shares r then lent else []))
          | none => none
        | none => none
      | _ => none
    | none => none
  | _ => none

def buildCells (places : Nat → Option (Nat × Nat)) (cs : List Cell) : List (Nat × V) → Option (List Cell)
  | [] => some cs
  | (i, .v _ new) :: r =>
    match places i with
    | some (off, w) => if new.length = w then (splice cs off new).bind fun cs => buildCells places cs r else none
    | none => none
  | _ => none

def parseEach (h : Heap) (e : Ty) : List (List Cell) → Option (List (El e) × List Nat)
  | [] => some ([], [])
  | c :: r => (parseAll cx call h e c).bind fun x => (parseEach h e r).map fun y => (x.1 :: y.1, x.2 ++ y.2)

def partsAt (w : Nat) (ls : List (List Cell)) : List (Nat × V) → Option (List (List Cell))
  | [] => some ls
  | (i, .v _ new) :: r => if new.length = w ∧ i < ls.length then partsAt w (ls.set i new) r else none
  | _ => none

/-- what a closure holds -/
def capsK (h : Heap) : List V → Option ((t : Ty) × El t × List Nat)
  | [] => some ⟨.unit, (), []⟩
  | .v false [c] :: r =>
    match c with
    | .loc n ver off =>
      match h[n]? with
      | some (ver', some (.box t _ _)) =>
        if ver = ver' ∧ off = 0 then
          (leaf cx call h (.ptr t) c).bind fun x => (capsK h r).map fun y => ⟨.pair (.ptr t) y.1, (x.1, y.2.1), x.2 ++ y.2.2⟩
        else none
      | _ => none
    | .pin t v off => if off = 0 then (capsK h r).map fun y => ⟨.pair (.ptr t) y.1, (v, y.2.1), y.2.2⟩ else none
    | _ => none
  | _ => none

/-- ONE OPERATION: its value, and what turns in memory. -/
def evOp (o : Oper) (ρ : Operand → V) (h : Heap) (k : V → Ups → Option R) : Option R :=
  let nm := nmOf fx o
  let ver := verOf h nm + 1
  match o.op with
  | .move x | .assign x => k (ρ x) []
  | .pick c a b =>
    match ρ c with
    | .v false [.val .bool x] => bif x then k (ρ a) [] else k (ρ b) []
    | _ => none
  | .alloc t =>
    match cx.ty t with
    | some c => k (.v false [.loc nm ver 0]) [(nm, ver, some (.box c (zeroCells c) false))]
    | none => none
  | .box t x =>
    match cx.ty t, ρ x with
    | some c, .v _ cs => if cs.length = width c then k (.v false [.loc nm ver 0]) [(nm, ver, some (.box c cs false))] else none
    | _, _ => none
  | .build t ps =>
    match cx.ty t with
    | some c =>
      match cx.shp t with
      | .struct fs =>
        match buildCells (fun i => (fs[i]?).map fun f => (f.1, cx.cells f.2)) (zeroCells c) (ps.toList.map fun x => (x.1, ρ x.2)), fs.all fun f => (cx.info f.2).isSome with
        | some cs, true => k (.v true cs) []
        | _, _ => none
      | .arr _ e =>
        match buildCells (fun i => some (i * cx.cells e, cx.cells e)) (zeroCells c) (ps.toList.map fun x => (x.1, ρ x.2)), (cx.info e).isSome with
        | some cs, true => k (.v true cs) []
        | _, _ => none
      | _ => none
    | none => none
  | .buildSlice t n ps =>
    match cx.shp t with
    | .slice et =>
      match cx.ty et with
      | some e =>
        match partsAt (width e) (List.replicate n (zeroCells e)) (ps.toList.map fun x => (x.1, ρ x.2)), sameW cx et e && Nat.ble (n * width e) 16777216 with
        | some ls, true =>
          match parseEach cx call h e ls with
          | some (xs, lent) =>
            if ownAt fx o then k (.v false [.lall nm ver]) (freezeUps h (if shares e then lent else []) ++ [(nm, ver, some (.arr e xs false))])
            else k (.v false [.val (.slice e) xs]) (freezeUps h (if shares e then lent else []))
          | none => none
        | _, _ => none
      | none => none
    | _ => none
  | .load t a =>
    match cx.ty t, ρ a with
    | some c, .v false [a] => loadK h (width c) a fun cs => k (.v (agg c) cs) []
    | _, _ => none
  | .store t a x =>
    match cx.ty t, ρ a, ρ x with
    | some c, .v false [a], .v _ new => if new.length = width c then storeK cx call h a new fun u => k .undef u else none
    | _, _, _ => none
  | .nilCheck x =>
    match ρ x with
    | .v false [c] => match isNil c with | some false => k (.v false [c]) [] | _ => none
    | _ => none
  | .binOp op t x y _ => binK (cx.eqk t) (cx.ty t) op (ρ x) (ρ y) fun c => k (.v false [c]) []
  | .unOp op _ x => unK op (ρ x) fun c => k (.v false [c]) []
  | .convert s d x =>
    match cx.shp s, cx.shp d, ρ x with
    | .int _, .int kd, .v false [.val (.int _) n] => k (.v false [.val (.int kd) (kd.wrap n)]) []
    | .str, .str, .v false [.val .str b] => k (.v false [.val .str b]) []
    | .str, .slice et, .v false [.val .str b] =>
      match cx.shp et with
      | .int .u8 => k (.v false [.val (.slice (.int .u8)) (b.map fun c => (c.toNat : Int))]) []
      | _ => none
    | .slice et, .str, .v false [c] =>
      match cx.shp et with
      | .int .u8 => arrK cx call h (.int .u8) c fun xs => k (.v false [.val .str (xs.map fun n => UInt8.ofNat n.toNat)]) []
      | _ => none
    | _, _, _ => none
  | .makeFunc (.func f) first caps =>
    match Nat.beq first.size 0, capsK cx call h (caps.toList.map ρ) with
    | true, some ⟨t, v, lent⟩ => k (.v false [.clo f t v]) (freezeUps h lent)
    | _, _ => none
  | .makeSlice t l c =>
    match cx.shp t with
    | .slice et =>
      match cx.ty et, intOf1 (ρ l), intOf1 (ρ c) with
      | some e, some n, some m =>
        match zeroEl e, sameW cx et e && Nat.blt 0 (cx.bytes et) with
        | some z, true =>
          must (decide (0 ≤ n) && (decide (n ≤ m) && decide (m * (cx.bytes et : Int) ≤ 140737488355328)))
            (k (.v false [.lall nm ver]) [(nm, ver, some (.arr e (List.replicate n.toNat z) false))])
        | _, _ => none
      | _, _, _ => none
    | _ => none
  | .slice t x lo hi mx =>
    match cx.shp t with
    | .str => sliceS (ρ x) (lo.map ρ) (hi.map ρ) (mx.map ρ) fun c => k (.v false [c]) []
    | .slice et => match cx.info et with | some _ => sliceK cx h et (ρ x) (lo.map ρ) (hi.map ρ) (mx.map ρ) fun c => k (.v false [c]) [] | none => none
    | _ => none
  | .fieldAddr s x f =>
    match fieldOff cx s f, ρ x with
    | some (off, ft), .v false [c] =>
      bif Nat.beq (cx.cells ft) 0 then none else
      match c with
      | .loc n v o => k (.v false [.loc n v (o + off)]) []
      | .pin t v o => k (.v false [.pin t v (o + off)]) []
      | .lel n v i o => k (.v false [.lel n v i (o + off)]) []
      | _ => none
    | _, _ => none
  | .field s x f =>
    match fieldOff cx s f, ρ x with
    | some (off, ft), .v true cs =>
      match cx.ty ft with
      | some c => match cut cs off (width c) with | some c' => k (.v (agg c) c') [] | none => none
      | none => none
    | _, _ => none
  | .indexAddr t x i =>
    match intOf1 (ρ i) with
    | some n => indexAddrK cx h t (ρ x) n fun c => k (.v false [c]) []
    | none => none
  | .index t x i =>
    match intOf1 (ρ i) with
    | some n => indexK cx t (ρ x) n fun v => k v []
    | none => none
  | .extract x i =>
    match ρ x with
    | .tup vs => match vs[i]? with | some (a, cs) => k (.v a cs) [] | none => none
    | _ => none
  | .call c =>
    match c.callee with
    | .builtin b => builtinK cx call fx h o b c.argTypes (c.args.toList.map ρ) k
    | .value (.func f) => callK cx call fx h o f (c.args.toList.map ρ) k
    | .value x => match ρ x with | .v false [c'] => callV cx call h c' (c.args.toList.map ρ) k | _ => none
    | .invoke _ _ => none
  | _ => none

def putV (t : List (Nat × V)) (dst : Option Nat) (v : V) : List (Nat × V) := match dst with | some d => (d, v) :: t | none => t

/-- where an operation's guard says so it is carried out -/
def guardK (ops : List Oper) (o : Oper) (st : St) (k : Bool → St → Option R) : Option R :=
  match o.guard with
  | none => k true st
  | some (j, want) =>
    match (ops[j]?).bind (·.dst) with
    | none => none
    | some g =>
      match getT st.t g with
      | .v false [.val .bool b] =>
        bif b then k want { st with t := (g, .v false [.val .bool true]) :: st.t } else k (!want) { st with t := (g, .v false [.val .bool false]) :: st.t }
      | .undef => k false st
      | _ => none

/-! A region whose order is open: what each operation looks at, and turns. -/
def fresh (o : Oper) : List Nat :=
  match o.dst with
  | none => []
  | some _ =>
    match o.op with
    | .alloc _ | .box _ _ | .makeSlice _ _ _ => [nmOf fx o]
    | .buildSlice _ _ _ => if ownAt fx o then [nmOf fx o] else []
    | .call { callee := .builtin .append, .. } => [nmOf fx o]
    | .call { callee := .value (.func f), .. } =>
      match cx.sig f with
      | some s => (List.range ((s.rs.map wants).sum + (s.back.filterMap fun i => (s.ps[i]?).map inner).sum)).map (nmOf fx o + ·)
      | none => []
    | _ => []

/-- what it reads, what it turns -/
def touchK (o : Oper) (ρ : Operand → V) (h : Heap) (k : List Nat → List Nat → Option R) : Option R :=
  let all (kk : List Nat → Option R) : Option R := closeK h 4 (o.op.operands.toList.flatMap fun x => namesV (ρ x)) kk
  let wr : Option R := all fun ns => forceL (fresh cx fx o) fun fr => k [] (ns ++ fr)
  let rd : Option R := all fun ns => k ns []
  match o.op with
  | .move _ | .assign _ | .pick _ _ _ | .build _ _ | .nilCheck _ | .binOp _ _ _ _ _ | .unOp _ _ _ | .fieldAddr _ _ _ | .field _ _ _ | .index _ _ _ | .extract _ _ => k [] []
  | .load _ _ | .indexAddr _ _ _ | .slice _ _ _ _ _ => rd
  | .alloc _ | .box _ _ | .makeSlice _ _ _ => forceL (fresh cx fx o) fun fr => k [] fr
  | .convert _ _ _ => rd
  | .call { callee := .builtin .len, .. } | .call { callee := .builtin .min, .. } | .call { callee := .builtin .max, .. } => rd
  | .call { callee := .value (.func f), .. } =>
    match cx.sig f with
    | some s => match s.back.isEmpty && s.ps.all (fun p => Nat.beq (wants p) 0) && !shares (cx.out f) with
      | true => all fun ns => forceL (fresh cx fx o) fun fr => k ns fr
      | false => wr
    | none => wr
  | _ => wr

def restrict (h : Heap) (ns : List Nat) : Heap := h.zipIdx.map fun x => if hasN ns x.2 then x.1 else (0, none)

def meet (a b : List Nat) : Bool := a.any (hasN b)
abbrev Tr := List (Nat × List Nat × List Nat)
def clash (a b : List Nat × List Nat) : Bool := meet a.2 (b.1 ++ b.2) || meet b.2 a.1

/-- for each operation the operations that must stand ahead of it, as bits -/
def befAt (acc : List Nat) (o : Oper) : Nat := o.after.toList.foldl (fun s e => match Region.binds .any e with | true => Nat.lor s (Nat.lor (Nat.shiftLeft 1 e.on) (acc.getD e.on 0)) | false => s) 0
def befs : List Oper → List Nat → List Nat
  | [], acc => acc
  | o :: r, acc => befs r (acc ++ [befAt acc o])
def ordered (bs : List Nat) (i j : Nat) : Bool := Nat.beq (Nat.land (Nat.shiftRight (bs.getD j 0) i) 1) 1
def apartTr (bs : List Nat) : Tr → Bool
  | [] => true
  | (i, s) :: r => r.all (fun y => !clash s y.2 || ordered bs i y.1) && apartTr bs r

/-- the slots that an operation looks at: its operands', and its guard's -/
def looks (ops : List Oper) (o : Oper) : List Nat :=
  (o.op.operands.toList.filterMap fun | .tmp t => some t | _ => none) ++
  (match o.guard with | some (g, _) => ((ops[g]?).bind (·.dst)).toList | none => [])
/-- who writes a slot -/
def writerOf : List Oper → Nat → Nat → Option Nat
  | [], _, _ => none
  | o :: r, s, i =>
    match o.dst with
    | some d => bif Nat.beq d s then some i else writerOf r s (i + 1)
    | none => writerOf r s (i + 1)
/-- is a slot that is looked at written by none, or by one that an edge orders? -/
def lookOk (ops : List Oper) (bs : List Nat) (j s : Nat) : Bool :=
  match writerOf ops s 0 with
  | none => true
  | some i => Nat.beq i j || (ordered bs i j || ordered bs j i)
def lookAll (ops : List Oper) (bs : List Nat) : List Oper → Nat → Bool
  | [], _ => true
  | o :: r, j => (looks ops o).all (lookOk ops bs j) && lookAll ops bs r (j + 1)
/-- edges lead back -/
def backB : List Oper → Nat → Bool
  | [], _ => true
  | o :: r, j => (o.after.toList.all fun e => match Region.binds .any e with | true => Nat.blt e.on j | false => true) && backB r (j + 1)
/-- no slot is written twice; whatever is looked at stands in order with who writes it -/
def dstsApart (ops : List Oper) : Bool := nodupB (ops.filterMap (·.dst)) && (lookAll ops (befs ops []) ops 0 && backB ops 0)

def noteTr (i : Nat) (s1 s2 : List Nat) (tr : Tr) : Tr :=
  match s1, s2 with
  | [], [] => tr
  | s1, s2 => (i, s1, s2) :: tr

/-- operations one behind the other ('all': of their region) -/
def evOps (all : List Oper) : List Oper → St → (St → Option R) → Option R
  | [], st, k => k st
  | o :: r, st, k =>
    guardK all o st fun run st =>
      match run with
      | true => evOp cx call fx o (opnd st) st.h fun v u => match u.all (fun x => Nat.blt x.1 st.h.length) with | true => evOps all r { t := putV st.t o.dst v, h := setUps st.h u } k | false => none
      | false => evOps all r { st with t := putV st.t o.dst .undef } k

def evOpsT (all : List Oper) : List Oper → Nat → St → Tr → (St → Tr → Option R) → Option R
  | [], _, st, tr, k => k st tr
  | o :: r, i, st, tr, k =>
    guardK all o st fun run st =>
      match run with
      | true =>
        touchK cx fx o (opnd st) st.h fun s1 s2 =>
          evOp cx call fx o (opnd st) (restrict st.h (s1 ++ s2)) fun v u =>
            match u.all (fun x => hasN s2 x.1 && Nat.blt x.1 st.h.length) with
            | true => evOpsT all r (i + 1) { t := putV st.t o.dst v, h := setUps st.h u } (noteTr i s1 s2 tr) k
            | false => none
      | false => evOpsT all r (i + 1) { st with t := putV st.t o.dst .undef } tr k

def evRegion (ops : List Oper) (draw : Bool) (st : St) (k : St → Option R) : Option R :=
  match draw with
  | false => evOps cx call fx ops ops st k
  | true => if dstsApart ops then evOpsT cx call fx ops ops 0 st [] fun st tr => if apartTr (befs ops []) tr.reverse then k st else none else none

/-! ## loops -/

def slotsTy (l : List (Nat × Ty)) : Ty := tupU (l.map (·.2))

/-- the slots that are kept, over a bound -/
def packSlots (st : St) : (l : List (Nat × Ty)) → Option (El (slotsTy l) × List Nat)
  | [] => some ((), [])
  | (s, t) :: r =>
    match getT st.t s with
    | .v a cs =>
      if a = agg t then
        (packAll cx call st.h t cs).bind fun x => (packSlots st r).map fun y => ((x.1, y.1), x.2.1 ++ x.2.2 ++ y.2)
      else none
    | _ => none

def packSt (st : St) (l : List (Nat × Ty)) : Option (El (slotsTy l)) :=
  match packSlots cx call st l with
  | some (x, ns) => if nodupB ns then some x else none
  | none => none

def setBlks (h : Heap) : List (Nat × Nat × Blk) → Heap
  | [] => h
  | (n, ver, b) :: r => setBlks (h.set n (ver, some b)) r

/-- names that are new: there is room for them, and they are unlike -/
def freshB (h : Heap) (bs : List (Nat × Nat × Blk)) : Bool := bs.all (fun b => Nat.blt b.1 h.length) && nodupB (bs.map (·.1))

/-- slots out of what came over a bound, in a memory that is new -/
def unpackSlots : (l : List (Nat × Ty)) → El (slotsTy l) → List (Nat × V) → Heap → Nat → (St → Option R) → Option R
  | [], _, t, h, _, k => k ⟨t, h⟩
  | (s, ty) :: r, x, t, h, nm, k => unpackK h ty x.1 [] nm fun cs bs nm => must (freshB h bs) (unpackSlots r x.2 ((s, .v (agg ty) cs) :: t) (setBlks h bs) nm k)

def newHeap (fx : Hints) : Heap := List.replicate fx.size (0, none)

def unpackSt (fx : Hints) (l : List (Nat × Ty)) (x : El (slotsTy l)) (k : St → Option R) : Option R :=
  unpackSlots l x [] (newHeap fx) 0 k

/-- the key of a loop: its first region -/
def firstRegion : Code → Option Nat
  | .region id _ _ => some id
  | .seq a b => match firstRegion a with | some n => some n | none => firstRegion b
  | .cond _ a b => match firstRegion a with | some n => some n | none => firstRegion b
  | .block _ a => firstRegion a
  | .loop a => firstRegion a
  | .scope a => firstRegion a
  | _ => none

def hintOf (body : Code) : Option LoopH :=
  match firstRegion body with
  | some n => (fx.loops.find? fun x => Nat.beq x.1 n).map (·.2)
  | none => none

/-- rounds that go on without a hint: tried one by one -/
def spin (ev : St → (Exit → St → Option R) → Option R) : Nat → St → (Exit → St → Option R) → Option R
  | 0, _, _ => none
  | n + 1, st, k => ev st fun e st =>
    match e with
    | .normal => spin ev n st k
    | e => k e st

def loopFuel : Nat := 2 ^ 70

/-- A LOOP AS A FUNCTION: by what it keeps; '.inl': it was left; '.inr': the function returned. -/
def loopF {Rf : Type} (hh : LoopH) (ret : St → Option Rf) (ev : St → (Exit → St → Option (El (slotsTy hh.outs) ⊕ Rf)) → Option (El (slotsTy hh.outs) ⊕ Rf)) :
    Nat → El (slotsTy hh.live) → Option (El (slotsTy hh.outs) ⊕ Rf)
  | 0, _ => none
  | n + 1, x => unpackSt fx hh.live x fun st => ev st fun e st =>
    match e with
    | .normal => (packSt cx call st hh.live).bind fun y => loopF hh ret ev n y
    | .exit id => if id = hh.exit then (packSt cx call st hh.outs).map .inl else none
    | .ret => (ret st).map .inr
    | _ => none

end

/-- CODE. -/
def evC (Rf : Type) (ret : St → Option Rf) : Code → (R : Type) → (Rf → Option R) → St → (Exit → St → Option R) → Option R
  | .skip, _, _, st, k => k .normal st
  | .ret, _, _, st, k => k .ret st
  | .exit id, _, _, st, k => k (.exit id) st
  | .region _ ops draw, _, _, st, k => evRegion cx call fx ops.toList draw st fun st => k .normal st
  | .seq a b, R, kr, st, k => evC Rf ret a R kr st fun e st =>
    match e with
    | .normal => evC Rf ret b R kr st k
    | e => k e st
  | .cond c a b, R, kr, st, k =>
    match opnd st c with
    | .v false [.val .bool x] => bif x then evC Rf ret a R kr st k else evC Rf ret b R kr st k
    | _ => none
  | .block id a, R, kr, st, k => evC Rf ret a R kr st fun e st =>
    match e with
    | .exit id' => if id' = id then k .normal st else k (.exit id') st
    | e => k e st
  | .loop body, R, kr, st, k =>
    match hintOf fx body with
    | none => spin (fun st k => evC Rf ret body R kr st k) loopFuel st k
    | some hh =>
      (packSt cx call st hh.live).bind fun x =>
        (loopF cx call fx hh ret (fun st k => evC Rf ret body _ (fun r => some (.inr r)) st k) loopFuel x).bind fun s =>
          match s with
          | .inl y => unpackSt fx hh.outs y fun st => k (.exit hh.exit) st
          | .inr r => kr r
  | _, _, _, _, _ => none

/-- arguments, as they come in -/
def enterK {R : Type} : (ps : List Ty) → El (tupU ps) → Heap → Nat → (List V → Heap → Nat → Option R) → Option R
  | [], _, h, nm, k => k [] h nm
  | p :: ps, x, h, nm, k => unpackK h p x.1 [] nm fun cs bs nm => must (freshB h bs) (enterK ps x.2 (setBlks h bs) nm fun vs h nm => k (.v (agg p) cs :: vs) h nm)

/-- results, as they go out -/
def resultCells (h : Heap) (t : List (Nat × V)) : List ResultVar → List Ty → Option (List Cell)
  | [], [] => some []
  | .tmp s :: r, ty :: ts =>
    match getT t s with
    | .v a cs => if a = agg ty ∧ cs.length = width ty then (resultCells h t r ts).map (cs ++ ·) else none
    | _ => none
  | .cell s ct :: r, ty :: ts =>
    match getT t s, cx.ty ct with
    | .v false [a], some c => if agg c = agg ty ∧ width c = width ty then loadK (R := List Cell) h (width c) a fun cs => (resultCells h t r ts).map (cs ++ ·) else none
    | _, _ => none
  | _, _ => none

def headCell : V → Cell
  | .v _ (c :: _) => c
  | _ => .dead

def retK (fn : Func) (s : Sig) (st : St) : Option (El (tup (s.rs ++ s.back.filterMap (s.ps[·]?)))) :=
  match resultCells cx st.h st.t fn.results.toList s.rs with
  | some cs =>
    match packAll cx call st.h (tup (s.rs ++ s.back.filterMap (s.ps[·]?))) (cs ++ s.back.map fun i => headCell (getT st.t i)) with
    | some (x, taken, lent) => if nodupB (taken ++ lent) then some x else none
    | none => none
  | none => none

end

def numbered : Nat → List V → List (Nat × V)
  | _, [] => []
  | i, v :: r => (i, v) :: numbered (i + 1) r

/-- every slot that is written is one of so many, and none of those that are kept -/
def dstsB (nt : Nat) (K : List Nat) (ops : List Oper) : Bool := ops.all fun o => match o.dst with | some d => Nat.blt d nt && !hasN K d | none => true
def belowC (nt : Nat) (K : List Nat) : Code → Bool
  | .region _ ops _ => dstsB nt K ops.toList
  | .seq a b => belowC nt K a && belowC nt K b
  | .cond _ a b => belowC nt K a && belowC nt K b
  | .block _ a => belowC nt K a
  | .loop a => belowC nt K a
  | _ => true
def isRef : Option Ty → Bool
  | some (.ref _) => true
  | _ => false
/-- what a body must be -/
def okBody (s : Sig) (nt : Nat) (c : Code) : Bool := belowC nt s.back c && (Nat.ble s.ps.length nt && s.back.all fun i => isRef s.ps[i]?)

/-- A FUNCTION's BODY, its calls answered by 'call'. -/
def body (cx : Cx) (call : Oracle cx) (f : FuncId) (x : El (cx.arg f)) : Option (El (cx.out f)) :=
  match cx.sig f, cx.P.funcs[f]? with
  | some s, some fn =>
    match fn.body, castEl (a := cx.arg f) (b := tupU s.ps) x with
    | some c, some x =>
      must (okBody s fn.ntmps c) <|
      enterK s.ps x (newHeap (cx.hints f)) 0 fun vs h _ =>
        let ret (st : St) : Option (El (tup (s.rs ++ s.back.filterMap (s.ps[·]?)))) := retK cx call fn s st
        evC cx call (cx.hints f) _ ret c _ (fun r => castEl (a := tup (s.rs ++ s.back.filterMap (s.ps[·]?))) (b := cx.out f) r)
          ⟨numbered 0 vs, h⟩ fun e st =>
            match e with
            | .normal | .ret => (ret st).bind fun r => castEl (a := tup (s.rs ++ s.back.filterMap (s.ps[·]?))) (b := cx.out f) r
            | _ => none
    | _, _ => none
  | _, _ => none

/-- THE PROGRAM, by so many calls one in another. -/
def evF (cx : Cx) : Nat → Oracle cx
  | 0, _, _ => none
  | n + 1, f, x => body cx (evF cx n) f x

def findLoop (id : Nat) : Code → Option Code
  | .seq a b => match findLoop id a with | some c => some c | none => findLoop id b
  | .cond _ a b => match findLoop id a with | some c => some c | none => findLoop id b
  | .block _ a => findLoop id a
  | .scope a => findLoop id a
  | .loop a => if firstRegion a = some id then some a else findLoop id a
  | _ => none


instance : Inhabited LoopH := ⟨⟨[], 0, []⟩⟩
def hintAt (cx : Cx) (K id : Nat) : LoopH := ((((cx.hints K).loops.find? fun x => Nat.beq x.1 id).map (·.2))).getD default
def sigAt (cx : Cx) (K : Nat) : Sig := (cx.sig K).getD default
def Sig.full (s : Sig) : Ty := tup (s.rs ++ s.back.filterMap (s.ps[·]?))

/-- A loop of a function, as a function. -/
def runLoop (cx : Cx) (call : Oracle cx) (K id : Nat) (f : Nat) (x : El (slotsTy (hintAt cx K id).live)) :
    Option (El (slotsTy (hintAt cx K id).outs) ⊕ El (sigAt cx K).full) :=
  match cx.P.funcs[K]? with
  | some fn =>
    match (fn.body).bind (findLoop id) with
    | some c =>
      loopF cx call (cx.hints K) (hintAt cx K id) (fun st => retK cx call fn (sigAt cx K) st)
        (fun st k => evC cx call (cx.hints K) _ (fun st => retK cx call fn (sigAt cx K) st) c _ (fun r => some (.inr r)) st k) f x
    | none => none
  | none => none

/-! The words of the printed equations: of the least height, so that the kernel opens the other side first. -/
noncomputable def tif {α : Type} (b : Bool) (x y : α) : α := Bool.rec (motive := fun _ => α) y x b
noncomputable def obind {α β : Type} (o : Option α) (f : α → Option β) : Option β := Option.rec (motive := fun _ => Option β) none f o
noncomputable def oelim {α β : Type} (o : Option α) (x : β) (f : α → β) : β := Option.rec (motive := fun _ => β) x f o
noncomputable def selim {α β γ : Type} (f : α → γ) (g : β → γ) (s : α ⊕ β) : γ := Sum.rec (motive := fun _ => γ) f g s
@[simp] theorem tif_true {α : Type} (x y : α) : tif true x y = x := Eq.trans rfl rfl
@[simp] theorem tif_false {α : Type} (x y : α) : tif false x y = y := Eq.trans rfl rfl
@[simp] theorem obind_some {α β : Type} (x : α) (f : α → Option β) : obind (some x) f = f x := Eq.trans rfl rfl
@[simp] theorem obind_none {α β : Type} (f : α → Option β) : obind none f = none := Eq.trans rfl rfl
@[simp] theorem oelim_some {α β : Type} (a : α) (x : β) (f : α → β) : oelim (some a) x f = f a := Eq.trans rfl rfl
@[simp] theorem oelim_none {α β : Type} (x : β) (f : α → β) : oelim none x f = x := Eq.trans rfl rfl
@[simp] theorem selim_inl {α β γ : Type} (f : α → γ) (g : β → γ) (a : α) : selim f g (.inl a) = f a := Eq.trans rfl rfl
@[simp] theorem selim_inr {α β γ : Type} (f : α → γ) (g : β → γ) (b : β) : selim f g (.inr b) = g b := Eq.trans rfl rfl
theorem tif_ite {α : Type} (b : Bool) (x y : α) : tif b x y = if b = true then x else y := by cases b <;> rfl

end Go.Flat
