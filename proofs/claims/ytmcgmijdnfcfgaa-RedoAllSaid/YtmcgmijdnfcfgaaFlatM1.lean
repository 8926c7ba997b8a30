/-
 The flat reading and its soundness, merged part 1 of 4 (A, B, S1, S2, S3, S4, S5, S6, S7, S8, S9, T1, T2, T3).
-/
import Derived.Calls
import Derived.Orders
import Derived.Laws.Sem
import Derived.Below
import Derived.RangeFuncBound
import Derived.Laws.AppendOwn
import Derived.Laws.Externs
import Derived.OrdersIn
import Derived.LoopNIn
import Derived.WalkKit
import Derived.Lib.ConvBytes
import Derived.Laws.BytesString
set_option linter.unusedVariables false
set_option linter.unusedSimpArgs false
section
namespace Go.Flat
inductive Ty where
 | unit | bool | int (k:IntKind) | str
 | pair (a b:Ty) | wrap (e:Ty)
 | slice (e:Ty) | ptr (e:Ty) | fn (a r:Ty)
 | own (e:Ty) | ref (e:Ty) | opt (e:Ty) | row (e:Ty) | seg (e:Ty)
 | err | sb (T e:Nat) | mp (k e:Ty) | seq (e:Ty) | ls (e:Ty)
 | tk (k:Nat) | tref (k:Nat) (e:Ty)
 deriving DecidableEq
@[reducible] def El:Ty→Type
 | .unit=>Unit
 | .bool=>Bool
 | .int _=>Int
 | .str=>List UInt8
 | .pair a b=>El a×El b
 | .wrap e=>El e
 | .slice e=>List (El e)
 | .ptr e=>El e
 | .fn a r=>El a→Option (El r)
 | .own e=>List (El e)
 | .ref e=>El e
 | .opt e=>Option (El e)
 | .row e=>List (El e)
 | .seg e=>List (El e)×(Nat×Nat)
 | .err=>Bool
 | .sb _ _=>List UInt8
 | .mp k e=>List (El k×El e)
 | .seq e=>List (El e)
 | .ls e=>List (El e)
 | .tk _=>Unit
 | .tref _ e=>El e
def width:Ty→Nat
 | .unit=>0
 | .pair a b=>width a+width b
 | .wrap e=>width e
 | _=>1
def tup:List Ty→Ty
 | [] => .unit
 | [a]=>a
 | a::r => .pair a (tup r)
def tupU:List Ty→Ty
 | [] => .unit
 | a::r => .pair a (tupU r)
inductive Cell where
 | val (t:Ty) (v:El t)
 | pin (t:Ty) (v:El t) (off:Nat)
 | loc (n ver off:Nat)
 | lel (n ver i off:Nat)
 | lrow (n ver:Nat)
 | lall (n ver:Nat)
 | lsl (n ver off len:Nat)
 | sl (n ver:Nat)
 | nm
 | clo (f:Nat) (t:Ty) (v:El t)
 | clob (f:Nat) (caps:List (Nat×Nat))
 | sel (n ver i:Nat)
 | np
 | ns
 | nf
 | anyB
 | dead
inductive V where
 | v (ag:Bool) (cs:List Cell)
 | tup (vs:List (Bool×List Cell))
 | undef
 | lost
inductive Blk where
 | box (t:Ty) (cs:List Cell) (fr:Bool)
 | arr (e:Ty) (xs:List (El e)) (fr:Bool)
 | sealed (n base top:Nat) (t:Ty) (x:El t) (hole:Option (Nat×Cell)) (fr:Bool)
abbrev Heap:=List (Nat×Option Blk)
structure St where
 t:List (Nat×V)
 h:Heap
def getT:List (Nat×V)→Nat→V
 | [],_ => .lost
 | (m,v)::r,n=>bif Nat.beq m n then v else getT r n
inductive BT (α:Type) where
 | nil
 | node (l r:BT α) (v:Option α)
def BT.get {α:Type}:BT α→Nat→Option α
 | .nil,_=>none
 | .node l r v,n=>bif Nat.beq n 0 then v else bif Nat.beq (n % 2) 1 then l.get (n / 2) else r.get (n / 2-1)
inductive Shp where
 | struct (fs:List (Nat×Nat))
 | arr (n e:Nat)
 | slice (e:Nat)
 | str
 | int (k:IntKind)
 | bld (e:Nat)
 | map (k e:Nat)
 | other
structure TI where
 ty:Option Ty
 shp:Shp
 cells:Nat
 bytes:Nat
 eq:Nat:=0
structure Sig where
 ps:List Ty
 rs:List Ty
 back:List Nat
 deriving Inhabited
structure LoopH where
 live:List (Nat×Ty)
 exit:Nat
 outs:List (Nat×Ty)
 alias:List (Nat×Nat):=[]
 fal:List (Nat×Nat×Nat):=[]
 ownf:List (Nat×Nat):=[]
 cls:List (Nat×Option Nat×List Nat):=[]
structure Hints where
 size:Nat
 names:List (Nat×Nat)
 own:List Nat
 loops:List (Nat×LoopH)
 split:Option (Nat×List Int):=none
 thaw:List Nat:=[]
 top:Nat:=0
structure Hand where
 a:Ty
 r:Ty
 g:El a→Option (El r)
structure Cx where
 P:Program
 info:TypeId→Option TI
 sig:FuncId→Option Sig
 ext:FuncId→Option Nat:=fun _=>none
 hand:FuncId→Option Hand:=fun _=>none
 hints:FuncId→Hints
 glob:Nat→Option ((t:Ty)×El t):=fun _=>none
 gsh:Nat→Option Nat:=fun _=>none
 inl:FuncId→Bool:=fun _=>false
def Cx.ty (cx:Cx) (t:TypeId):Option Ty:=match cx.info t with | some i=>i.ty | none=>none
def Cx.shp (cx:Cx) (t:TypeId):Shp:=match cx.info t with | some i=>i.shp | none => .other
def Cx.cells (cx:Cx) (t:TypeId):Nat:=match cx.info t with | some i=>i.cells | none=>0
def Cx.bytes (cx:Cx) (t:TypeId):Nat:=match cx.info t with | some i=>i.bytes | none=>0
def Cx.eqk (cx:Cx) (t:TypeId):Nat:=match cx.info t with | some i=>i.eq | none=>0
def Sig.out (s:Sig):Ty:=tup (s.rs++s.back.filterMap (s.ps[·]?))
def Cx.arg (cx:Cx) (f:FuncId):Ty:=match cx.sig f with | some s=>tupU s.ps | none => .unit
def Cx.out (cx:Cx) (f:FuncId):Ty:=match cx.sig f with | some s=>s.out | none => .unit
def z0u:List (Nat×Nat)→Nat→Option Nat
 | [],_=>none
 | (m,k)::r,n=>bif Nat.beq m n then some k else z0u r n
def j1u:List (Nat×((t:Ty)×El t))→Nat→Option ((t:Ty)×El t)
 | [],_=>none
 | (m,x)::r,n=>bif Nat.beq m n then some x else j1u r n
structure Oracle (cx:Cx) where
 fn:(f:FuncId)→El (cx.arg f)→Option (El (cx.out f))
 inl:(R:Type)→FuncId→List V→Heap→Nat→(V→Heap→Option R)→Option R
instance (cx:Cx):CoeFun (Oracle cx) (fun _=>(f:FuncId)→El (cx.arg f)→Option (El (cx.out f))):=⟨Oracle.fn⟩
def z0p:(k:Ty)→El k→El k→Bool
 | .str,a,b=>a==b
 | .int _,a,b=>decide (a=b)
 | _,_,_=>false
def mget (k e:Ty):List (El k×El e)→El k→Nat→Option (Nat×El e)
 | [],_,_=>none
 | (a,v)::r,x,i=>bif z0p k x a then some (i,v) else mget k e r x (i+1)
def mput (k e:Ty):List (El k×El e)→El k→El e→List (El k×El e)
 | [],x,v=>[(x,v)]
 | (a,w)::r,x,v=>bif z0p k x a then (a,v)::r else (a,w)::mput k e r x v
def mset (k e:Ty):List (El k×El e)→Nat→El e→List (El k×El e)
 | [],_,_=>[]
 | p::r,0,v=>(p.1,v)::r
 | p::r,i+1,v=>p::mset k e r i v
theorem mset_eq (k e:Ty) (v:El e):∀(xs:List (El k×El e)) (i:Nat),mset k e xs i v=match xs[i]? with | some p=>xs.set i (p.1,v) | none=>xs:=by
 intro xs;induction xs with
 | nil=>intro i;rfl
 | cons p r ih =>
  intro i;cases i with
  | zero=>rfl
  | succ i =>
   show p::mset k e r i v=_;rw[ih i];simp only[List.getElem?_cons_succ];cases r[i]? <;> rfl
def b0p {a b:Ty} (x:El a):Option (El b):=if h:a=b then some (h ▸ x) else none
def at? {α:Type} (xs:List α) (i:Int):Option α:=bif decide (0≤i) then xs[i.toNat]? else none
def cells:(t:Ty)→El t→List Cell
 | .unit,_=>[]
 | .pair a b,x=>cells a x.1++cells b x.2
 | .wrap e,x=>cells e x
 | .bool,x=>[.val .bool x]
 | .int k,x=>[.val (.int k) x]
 | .str,x=>[.val .str x]
 | .slice e,x=>[.val (.slice e) x]
 | .ptr e,x=>[.pin e x 0]
 | .fn a r,x=>[.val (.fn a r) x]
 | .own _,_=>[.dead]
 | .ref _,_=>[.dead]
 | .opt _,_=>[.dead]
 | .row _,_=>[.dead]
 | .seg _,_=>[.dead]
 | .err,x=>[.val .err x]
 | .sb _ _,_=>[.dead]
 | .mp _ _,_=>[.dead]
 | .seq _,_=>[.dead]
 | .ls _,_=>[.dead]
 | .tk _,_=>[.dead]
 | .tref _ _,_=>[.dead]
def agg:Ty→Bool
 | .wrap _=>true
 | _=>false
def toV (t:Ty) (x:El t):V := .v (agg t) (cells t x)
def zeroCells:Ty→List Cell
 | .unit=>[]
 | .pair a b=>zeroCells a++zeroCells b
 | .wrap e=>zeroCells e
 | .bool=>[.val .bool false]
 | .int k=>[.val (.int k) 0]
 | .str=>[.val .str []]
 | .slice _=>[.ns]
 | .ptr _=>[.np]
 | .fn _ _=>[.nf]
 | .own _=>[.dead]
 | .ref _=>[.np]
 | .opt _=>[.np]
 | .row _=>[.np]
 | .seg _=>[.ns]
 | .err=>[.val .err false]
 | .sb _ _=>[.np]
 | .mp _ _=>[.nm]
 | .seq _=>[.dead]
 | .ls _=>[.ns]
 | .tk _=>[.np]
 | .tref _ _=>[.np]
def i0b:(t:Ty)→Option (El t)
 | .unit=>some ()
 | .pair a b=>(i0b a).bind fun x=>(i0b b).map fun y=>(x,y)
 | .wrap e=>i0b e
 | .bool=>some false
 | .int _=>some (0:Int)
 | .str=>some []
 | .slice _=>some []
 | _=>none
def appTy:Ty→Ty→Ty
 | .unit,b=>b
 | .pair p q,b => .pair p (appTy q b)
 | t,_=>t
def appEl:(a b:Ty)→El a→El b→El (appTy a b)
 | .unit,_,_,y=>y
 | .pair _ q,b,x,y=>(x.1,appEl q b x.2 y)
 | .bool,_,x,_=>x
 | .int _,_,x,_=>x
 | .str,_,x,_=>x
 | .wrap _,_,x,_=>x
 | .slice _,_,x,_=>x
 | .ptr _,_,x,_=>x
 | .fn _ _,_,x,_=>x
 | .own _,_,x,_=>x
 | .ref _,_,x,_=>x
 | .opt _,_,x,_=>x
 | .row _,_,x,_=>x
 | .seg _,_,x,_=>x
 | .err,_,x,_=>x
 | .sb _ _,_,x,_=>x
 | .mp _ _,_,x,_=>x
 | .seq _,_,x,_=>x
 | .ls _,_,x,_=>x
 | .tk _,_,x,_=>x
 | .tref _ _,_,x,_=>x
def j0g:Ty→Bool
 | .pair a b=>j0g a&&j0g b
 | .wrap e=>j0g e
 | .own _ | .ref _ | .opt _ | .row _ | .seg _ | .sb _ _ | .mp _ _ | .seq _ | .ls _ | .tk _ | .tref _ _=>false
 | _=>true
def oneTy (t:Ty):Bool:=agg t||Nat.beq (width t) 1
section
variable (cx:Cx) (call:Oracle cx)
def k1m (f:FuncId) (ct:Ty) (cv:El ct) (a r:Ty):Option (El a→Option (El r)) :=
 match cx.sig f with
 | none=>none
 | some s =>
  match s.back,s.rs with
  | [],[r'] =>
   if r'=r∧j0g r=true∧oneTy r=true then
   if ha:appTy a ct=cx.arg f then
    if hr:cx.out f=r then some fun x=>hr ▸ call f (ha ▸ appEl a ct x cv) else none
   else none
   else none
  | _,_=>none
def a0h (h:Heap) (n:Nat):Nat:=match h[n]? with | some (v,_)=>v | none=>0
def g0x (h:Heap):(t:Ty)→Cell→Option (El t×List Nat)
 | .slice e,.lall n ver =>
  match h[n]? with
  | some (ver',some (.arr e' xs _))=>if ver=ver' then (b0p (a := .slice e') (b := .slice e) xs).map (·,[n]) else none
  | _=>none
 | .slice e,.lsl n ver off len =>
  match h[n]? with
  | some (ver',some (.arr e' xs _))=>if ver=ver' then (b0p (a := .slice e') (b := .slice e) ((xs.drop off).take len)).map (·,[n]) else none
  | _=>none
 | .slice _,.ns=>some ([],[])
 | .ptr e,.pin e' v off=>if off=0 then (b0p (a := .ptr e') (b := .ptr e) v).map (·,[]) else none
 | .fn a r,.clo f ct cv=>(k1m cx call f ct cv a r).map (·,[])
 | _,.val _ v=>(b0p v).map (·,[])
 | _,_=>none
def i0o (h:Heap):(t:Ty)→List Cell→Option (El t×List Cell×List Nat)
 | .unit,cs=>some ((),cs,[])
 | .pair a b,cs=>(i0o h a cs).bind fun x=>(i0o h b x.2.1).map fun y=>((x.1,y.1),y.2.1,x.2.2++y.2.2)
 | .wrap e,cs=>i0o h e cs
 | t,c::cs=>(g0x cx call h t c).map fun x=>(x.1,cs,x.2)
 | _,[]=>none
def m0y (h:Heap) (t:Ty) (cs:List Cell):Option (El t×List Nat) :=
 (i0o cx call h t cs).bind fun x=>match x.2.1 with | []=>some (x.1,x.2.2) | _=>none
def l0h (lf:(t:Ty)→Cell→Option (El t×List Nat)):(t:Ty)→List Cell→Option (El t×List Cell×List Nat)
 | .unit,cs=>some ((),cs,[])
 | .pair a b,cs=>(l0h lf a cs).bind fun x=>(l0h lf b x.2.1).map fun y=>((x.1,y.1),y.2.1,x.2.2++y.2.2)
 | .wrap e,cs=>l0h lf e cs
 | t,c::cs=>(lf t c).map fun x=>(x.1,cs,x.2)
 | _,[]=>none
def leafS (h:Heap) (lf:(t:Ty)→Cell→Option (El t×List Nat)):(t:Ty)→Cell→Option (El t×List Nat)
 | .ptr e,.loc n ver off =>
  match h[n]? with
  | some (ver',some (.box _ cs _))=>if ver=ver'∧off=0 then (l0h lf e cs).bind fun x=>match x.2.1 with | []=>some (x.1,n::x.2.2) | _=>none else none
  | _=>none
 | t,c=>g0x cx call h t c
def leafN (h:Heap):Nat→(t:Ty)→Cell→Option (El t×List Nat)
 | 0=>g0x cx call h
 | d+1=>leafS cx call h (leafN h d)
def leaf (h:Heap) (t:Ty) (c:Cell):Option (El t×List Nat):=leafN cx call h 3 t c
def tkNs:Ty→List Nat
 | .pair a b=>tkNs a++tkNs b
 | .wrap e=>tkNs e
 | .ref e=>tkNs e
 | .opt e=>tkNs e
 | .tk k=>[k]
 | .tref k e=>k::tkNs e
 | _=>[]
def noTk (t:Ty):Bool:=(tkNs t).isEmpty
def w0s (ts:List Ty):Nat:=(ts.flatMap tkNs).foldl (fun m k=>max m (k+1)) 0
def v0o (h:Heap) (t:Ty) (c:Cell) (cs:List Cell):Option (El t×List Cell×List Nat×List Nat) :=
 match c with
 | .sl n v0 =>
  match h[n]? with
  | some (ver,some (.sealed n' base top t' x none false))=>if n=n'∧base≤v0∧v0≤top∧top=ver then (b0p (a:=t') (b:=t) x).map (·,cs,[n],[]) else none
  | _=>none
 | _=>none
def b0b (h:Heap):(t:Ty)→List Cell→Option (El t×List Cell×List Nat×List Nat)
 | .unit,cs=>some ((),cs,[],[])
 | .pair a b,cs=>(b0b h a cs).bind fun x=>(b0b h b x.2.1).map fun y=>((x.1,y.1),y.2.1,x.2.2.1++y.2.2.1,x.2.2.2++y.2.2.2)
 | .wrap e,cs=>b0b h e cs
 | .own e,c::cs =>
  match c with
  | .ns=>some ([],cs,[],[])
  | .lall n ver =>
   match h[n]? with
   | some (ver',some (.arr e' xs false))=>if ver=ver' then (b0p (a := .own e') (b := .own e) xs).map (·,cs,[n],[]) else none
   | _=>none
  | .lsl n ver off len =>
   match h[n]? with
   | some (ver',some (.arr e' xs false))=>if ver=ver'∧off=0 then (b0p (a := .own e') (b := .own e) (xs.take len)).map (·,cs,[n],[]) else none
   | _=>none
  | _=>none
 | .ref e,c::cs =>
  match c with
  | .loc n ver off =>
   match h[n]? with
   | some (ver',some (.box _ bs false)) =>
    if ver=ver'∧off=0 then
     (b0b h e bs).bind fun x=>match x.2.1 with | []=>some (x.1,cs,n::x.2.2.1,x.2.2.2) | _=>none
    else none
   | _=>none
  | _=>none
 | .tk _,c::cs =>
  match c with
  | .loc n ver off=>if ver=a0h h n∧off=0 then some ((),cs,[],[]) else none
  | _=>none
 | .tref _ e,c::cs =>
  match c with
  | .loc n ver off =>
   match h[n]? with
   | some (ver',some (.box _ bs false)) =>
    if ver=ver'∧off=0 then
     (b0b h e bs).bind fun x=>match x.2.1 with | []=>some (x.1,cs,n::x.2.2.1,x.2.2.2) | _=>none
    else none
   | _=>none
  | _=>none
 | .opt e,c::cs =>
  match c with
  | .np=>some (none,cs,[],[])
  | c=>(b0b h e [c]).bind fun x=>match x.2.1 with | []=>some (some x.1,cs,x.2.2) | _=>none
 | .row e,c::cs =>
  match c with
  | .lrow n ver =>
   match h[n]? with
   | some (ver',some (.arr e' xs false))=>if ver=ver' then (b0p (a := .own e') (b := .own e) xs).map (·,cs,[n],[]) else none
   | _=>none
  | _=>none
 | .seg e,c::cs =>
  match c with
  | .lsl n ver off len =>
   match h[n]? with
   | some (ver',some (.arr e' xs false))=>if ver=ver' then (b0p (a := .own e') (b := .own e) xs).map (fun ys=>((ys,(off,len)),cs,[n],[])) else none
   | _=>none
  | _=>none
 | .sb T e,c::cs=>v0o h (.sb T e) c cs
 | .seq e,c::cs=>v0o h (.seq e) c cs
 | .ls e,c::cs =>
  match c with
  | .ns=>some ([],cs,[],[])
  | .sl n v0 =>
   match h[n]? with
   | some (ver,some (.sealed n' base top t' x hole false)) =>
    if n=n'∧base≤v0∧v0≤top∧top=ver then
     (b0p (a:=t') (b := .ls e) x).bind fun xs =>
      match hole with
      | none=>some (xs,cs,[n],[])
      | some (i,hc)=>bif noTk e then (b0b h e [hc]).bind fun y=>match y.2.1 with | []=>some (xs.set i y.1,cs,n::y.2.2.1,y.2.2.2) | _=>none else none
    else none
   | _=>none
  | _=>none
 | .mp k e,c::cs =>
  match c with
  | .sl n v0 =>
   match h[n]? with
   | some (ver,some (.sealed n' base top t' x hole false)) =>
    if n=n'∧base≤v0∧v0≤top∧top=ver then
     (b0p (a:=t') (b := .mp k e) x).bind fun xs =>
      match hole with
      | none=>some (xs,cs,[n],[])
      | some (i,hc)=>bif noTk e then (b0b h e [hc]).bind fun y=>match y.2.1 with | []=>some (mset k e xs i y.1,cs,n::y.2.2.1,y.2.2.2) | _=>none else none
    else none
   | _=>none
  | _=>none
 | t,c::cs=>(leaf cx call h t c).map fun x=>(x.1,cs,[],x.2)
 | _,[]=>none
def f0y (h:Heap) (t:Ty) (cs:List Cell):Option (El t×List Nat×List Nat) :=
 (b0b cx call h t cs).bind fun x=>match x.2.1 with | []=>some (x.1,x.2.2) | _=>none
end
def l0b (h:Heap) (n:Nat):List Cell :=
 match h[n]? with
 | some (_,some (.box _ cs _))=>cs
 | _=>[]
def g0y (h:Heap):Ty→List Cell→List (Nat×Nat)
 | .pair a b,cs=>g0y h a cs++g0y h b (cs.drop (width a))
 | .wrap e,cs=>g0y h e cs
 | .ref e,.loc n _ _::_=>g0y h e (l0b h n)
 | .opt e,c::_=>g0y h e [c]
 | .tk k,.loc n _ _::_=>[(k,n)]
 | .tref k e,.loc n _ _::_=>(k,n)::g0y h e (l0b h n)
 | _,_=>[]
def x0j:List (Nat×Nat)→Nat→Nat
 | [],_=>0
 | (m,n)::r,k=>bif Nat.beq m k then n else x0j r k
def okD (l:List (Nat×Nat)):Bool:=l.all fun p=>Nat.beq (x0j l p.1) p.2
structure Dm where
 name:Nat→Nat
 ver:Nat→Nat
def dm0:Dm:=⟨fun k=>k,fun _=>0⟩
def dm1:Dm:=⟨fun k=>k,fun _=>1⟩
def oldName:List Cell→Option Nat
 | .lall n _::_=>some n
 | .lsl n _ _ _::_=>some n
 | .lel n _ _ _::_=>some n
 | .lrow n _::_=>some n
 | .loc n _ _::_=>some n
 | .sl n _::_=>some n
 | _=>none
def b0v {R:Type} (h:Heap) (dm:Dm):(t:Ty)→El t→List Cell→Nat→(List Cell→List (Nat×Nat×Blk)→Nat→Option R)→Option R
 | .unit,_,_,nm,k=>k [] [] nm
 | .pair a b,x,old,nm,k=>b0v h dm a x.1 (old.take (width a)) nm fun cs bs nm=>b0v h dm b x.2 (old.drop (width a)) nm fun cs' bs' nm=>k (cs++cs') (bs++bs') nm
 | .wrap e,x,old,nm,k=>b0v h dm e x old nm k
 | .own e,x,old,nm,k =>
  match oldName old with
  | some n=>k [.lall n (a0h h n+1)] [(n,a0h h n+1,.arr e x false)] nm
  | none=>k [.lall nm (a0h h nm+1)] [(nm,a0h h nm+1,.arr e x false)] (nm+1)
 | .ref e,x,old,nm,k =>
  match oldName old with
  | some n=>b0v h dm e x [] nm fun cs bs nm=>k [.loc n (a0h h n+1) 0] ((n,a0h h n+1,.box e cs false)::bs) nm
  | none=>b0v h dm e x [] (nm+1) fun cs bs nm'=>k [.loc nm (a0h h nm+1) 0] ((nm,a0h h nm+1,.box e cs false)::bs) nm'
 | .tk d,_,_,nm,k=>k [.loc (dm.name d) (dm.ver d) 0] [] nm
 | .tref d e,x,_,nm,k=>b0v h dm e x [] nm fun cs bs nm=>k [.loc (dm.name d) (dm.ver d) 0] ((dm.name d,dm.ver d,.box e cs false)::bs) nm
 | .opt e,x,old,nm,k=>match x with | none=>k [.np] [] nm | some y=>b0v h dm e y old nm k
 | .row e,x,old,nm,k =>
  match oldName old with
  | some n=>k [.lrow n (a0h h n+1)] [(n,a0h h n+1,.arr e x false)] nm
  | none=>k [.lrow nm (a0h h nm+1)] [(nm,a0h h nm+1,.arr e x false)] (nm+1)
 | .seg e,x,old,nm,k =>
  match oldName old with
  | some n=>k [.lsl n (a0h h n+1) x.2.1 x.2.2] [(n,a0h h n+1,.arr e x.1 false)] nm
  | none=>k [.lsl nm (a0h h nm+1) x.2.1 x.2.2] [(nm,a0h h nm+1,.arr e x.1 false)] (nm+1)
 | .sb T e,x,old,nm,k =>
  match oldName old with
  | some n=>k [.sl n (a0h h n+1)] [(n,a0h h n+1,.sealed n (a0h h n+1) (a0h h n+1) (.sb T e) x none false)] nm
  | none=>k [.sl nm (a0h h nm+1)] [(nm,a0h h nm+1,.sealed nm (a0h h nm+1) (a0h h nm+1) (.sb T e) x none false)] (nm+1)
 | .seq e,x,old,nm,k =>
  match oldName old with
  | some n=>k [.sl n (a0h h n+1)] [(n,a0h h n+1,.sealed n (a0h h n+1) (a0h h n+1) (.seq e) x none false)] nm
  | none=>k [.sl nm (a0h h nm+1)] [(nm,a0h h nm+1,.sealed nm (a0h h nm+1) (a0h h nm+1) (.seq e) x none false)] (nm+1)
 | .mp kt e,x,old,nm,k =>
  match oldName old with
  | some n=>k [.sl n (a0h h n+1)] [(n,a0h h n+1,.sealed n (a0h h n+1) (a0h h n+1) (.mp kt e) x none false)] nm
  | none=>k [.sl nm (a0h h nm+1)] [(nm,a0h h nm+1,.sealed nm (a0h h nm+1) (a0h h nm+1) (.mp kt e) x none false)] (nm+1)
 | .ls e,x,old,nm,k =>
  match oldName old with
  | some n=>k [.sl n (a0h h n+1)] [(n,a0h h n+1,.sealed n (a0h h n+1) (a0h h n+1) (.ls e) x none false)] nm
  | none=>k [.sl nm (a0h h nm+1)] [(nm,a0h h nm+1,.sealed nm (a0h h nm+1) (a0h h nm+1) (.ls e) x none false)] (nm+1)
 | t,x,_,nm,k=>k (cells t x) [] nm
def shares:Ty→Bool
 | .pair a b=>shares a||shares b
 | .wrap e=>shares e
 | .slice _ | .ptr _ | .fn _ _ | .seq _=>true
 | .own e | .ref e | .opt e | .row e | .seg e=>shares e
 | .mp _ e=>shares e
 | .ls e=>shares e
 | .tref _ e=>shares e
 | _=>false
abbrev Ups:=List (Nat×Nat×Option Blk)
def a0u (h:Heap):Ups→Heap
 | []=>h
 | (n,ver,b)::r=>a0u (h.set n (ver,b)) r
def a0i (h:Heap):List Nat→Ups
 | []=>[]
 | n::r =>
  match h[n]? with
  | some (ver,some (.box t cs _))=>(n,ver,some (.box t cs true))::a0i h r
  | some (ver,some (.arr e xs _))=>(n,ver,some (.arr e xs true))::a0i h r
  | some (ver,some (.sealed m base top t x hole _))=>(n,ver,some (.sealed m base top t x hole true))::a0i h r
  | _=>a0i h r
def hasN:List Nat→Nat→Bool
 | [],_=>false
 | m::r,n=>Nat.beq m n||hasN r n
def nodupB:List Nat→Bool
 | []=>true
 | n::r => !hasN r n&&nodupB r
def apartB (taken lent:List Nat):Bool:=nodupB taken&&taken.all fun n => !hasN lent n
def c0k (h:Heap) (ns:List Nat):Ups:=ns.map fun n=>(n,a0h h n+1,none)
def shlI (k:IntKind) (a b:Int):Int:=k.wrap (a*2^(min b.toNat k.bits))
def shrI (k:IntKind) (a b:Int):Int:=a.fdiv (2^(min b.toNat k.bits))
def andI (k:IntKind) (a b:Int):Int:=k.wrap (BitVec.ofInt k.bits a &&& BitVec.ofInt k.bits b).toNat
def orI (k:IntKind) (a b:Int):Int:=k.wrap (BitVec.ofInt k.bits a ||| BitVec.ofInt k.bits b).toNat
def xorI (k:IntKind) (a b:Int):Int:=k.wrap (BitVec.ofInt k.bits a ^^^ BitVec.ofInt k.bits b).toNat
def l1f (k:IntKind) (a b:Int):Int:=k.wrap (BitVec.ofInt k.bits a &&& ~~~ BitVec.ofInt k.bits b).toNat
def k1d:(t:Ty)→El t→El t→Option Bool
 | .bool,a,b=>some (a==b)
 | .int _,a,b=>some (decide (a=b))
 | .str,a,b=>some (a==b)
 | _,_,_=>none
def flat:Ty→List Ty
 | .unit=>[]
 | .pair a b=>flat a++flat b
 | .wrap e=>flat e
 | t=>[t]
def k0w:List Ty→List Cell→List Cell→Option Bool
 | [],[],[]=>some true
 | t::ls,.val u a::r,.val u' b::s =>
  if h:u=t then
   if h':u'=t then
    match k1d t (h ▸ a) (h' ▸ b) with
    | some x=>match ls,r,s with
     | [],[],[]=>some x
     | _,_,_=>(k0w ls r s).map (x && ·)
    | none=>none
   else none
  else none
 | _,_,_=>none
def isNil:Cell→Option Bool
 | .np=>some true
 | .nf=>some true
 | .pin _ _ _ | .loc _ _ _ | .lel _ _ _ _ | .lrow _ _ | .clo _ _ _ | .val (.fn _ _) _=>some false
 | _=>none
def j1z:Cell→Cell→Option Bool
 | .np,.np=>some true
 | .np,.pin _ _ _ | .np,.loc _ _ _ | .np,.lel _ _ _ _ | .np,.lrow _ _=>some false
 | .pin _ _ _,.np | .loc _ _ _,.np | .lel _ _ _ _,.np | .lrow _ _,.np=>some false
 | _,_=>none
def k1b:Cell→Cell→Option Bool
 | .nf,.nf=>some true
 | .nf,.clo _ _ _ | .nf,.val (.fn _ _) _=>some false
 | .clo _ _ _,.nf | .val (.fn _ _) _,.nf=>some false
 | _,_=>none
def eqK (kind:Nat) (ty:Option Ty) (x y:V):Option Bool :=
 match kind,x,y with
 | 1,.v false [c],.v false [d]=>j1z c d
 | 2,.v false [c],.v false [d]=>k1b c d
 | 3,.v true xs,.v true ys=>match ty with | some t=>k0w (flat t) xs ys | none=>none
 | _,_,_=>none
section
variable {R:Type}
def binI (op:BinOp) (k:IntKind) (a b:Int) (kk:Cell→Option R):Option R :=
 match op with
 | .add=>kk (.val (.int k) (k.wrap (a+b)))
 | .sub=>kk (.val (.int k) (k.wrap (a-b)))
 | .mul=>kk (.val (.int k) (k.wrap (a*b)))
 | .quo=>bif decide (b=0) then none else kk (.val (.int k) (k.wrap (a.tdiv b)))
 | .rem=>bif decide (b=0) then none else kk (.val (.int k) (a.tmod b))
 | .and=>kk (.val (.int k) (andI k a b))
 | .or=>kk (.val (.int k) (orI k a b))
 | .xor=>kk (.val (.int k) (xorI k a b))
 | .andNot=>kk (.val (.int k) (l1f k a b))
 | .shl=>bif decide (b<0) then none else kk (.val (.int k) (shlI k a b))
 | .shr=>bif decide (b<0) then none else kk (.val (.int k) (shrI k a b))
 | .eql=>kk (.val .bool (decide (a=b)))
 | .neq=>kk (.val .bool (!decide (a=b)))
 | .lss=>kk (.val .bool (decide (a<b)))
 | .leq=>kk (.val .bool (decide (a≤b)))
 | .gtr=>kk (.val .bool (decide (b<a)))
 | .geq=>kk (.val .bool (decide (b≤a)))
def b1s:BinOp→Bool
 | .shl | .shr=>true
 | _=>false
def binS (op:BinOp) (a b:List UInt8) (kk:Cell→Option R):Option R :=
 match op with
 | .add=>bif decide (a.length+b.length≤9223372036854775807) then kk (.val .str (a++b)) else none
 | .eql=>kk (.val .bool (a==b))
 | .neq=>kk (.val .bool (!(a==b)))
 | .lss=>kk (.val .bool (Op.bytesLess a b))
 | .leq=>kk (.val .bool (Op.bytesLess a b||a==b))
 | .gtr=>kk (.val .bool (!(Op.bytesLess a b||a==b)))
 | .geq=>kk (.val .bool (!Op.bytesLess a b))
 | _=>none
def binK (kind:Nat) (ty:Option Ty) (op:BinOp) (x y:V) (kk:Cell→Option R):Option R :=
 match x,y with
 | .v false [.val (.int k) a],.v false [.val (.int k') b]=>if k=k'∨b1s op=true then binI op k a b kk else none
 | .v false [.val .str a],.v false [.val .str b]=>binS op a b kk
 | .v false [.val .bool a],.v false [.val .bool b] =>
  match kind,op with
  | 4,.eql=>kk (.val .bool (a==b))
  | 4,.neq=>kk (.val .bool (!(a==b)))
  | _,_=>none
 | x,y =>
  match op,eqK kind ty x y with
  | .eql,some b=>kk (.val .bool b)
  | .neq,some b=>kk (.val .bool !b)
  | _,_=>none
def v0s (kind:Nat) (op:BinOp) (x:V) (kk:Cell→Option R):Option R :=
 match kind,op,x with
 | 5,.eql,.v false [.val (.slice _) xs]=>bif decide (xs.length=0) then kk .anyB else kk (.val .bool false)
 | 5,.neq,.v false [.val (.slice _) xs]=>bif decide (xs.length=0) then kk .anyB else kk (.val .bool true)
 | 5,.eql,.v false [.ns]=>kk .anyB
 | 5,.neq,.v false [.ns]=>kk .anyB
 | _,_,_=>none
def v0u (kind:Nat) (op:BinOp) (x:V) (kk:Cell→Option R):Option R :=
 match kind,op,x with
 | 6,.eql,.v false [.val .err b]=>kk (.val .bool !b)
 | 6,.neq,.v false [.val .err b]=>kk (.val .bool b)
 | _,_,_=>none
def unK (op:UnOp) (x:V) (kk:Cell→Option R):Option R :=
 match op,x with
 | .not,.v false [.val .bool b]=>kk (.val .bool !b)
 | .neg,.v false [.val (.int k) a]=>kk (.val (.int k) (k.wrap (0-a)))
 | .xor,.v false [.val (.int k) a]=>kk (.val (.int k) (xorI k (if k.signed then -1 else k.max) a))
 | _,_=>none
def l0y (i:Int):(n:Nat)→(at_:Nat)→(Nat→Option R)→Option R
 | 0,_,_=>none
 | n+1,j,k=>bif decide (i=(j:Int)) then k j else l0y i n (j+1) k
end
def splice (cs:List Cell) (off:Nat) (new:List Cell):Option (List Cell) :=
 if off+new.length≤cs.length then some (cs.take off++new++cs.drop (off+new.length)) else none
def cut (cs:List Cell) (off w:Nat):Option (List Cell) :=
 if off+w≤cs.length then some ((cs.drop off).take w) else none
def n0g (cx:Cx) (s:TypeId) (f:Nat):Option (Nat×TypeId) :=
 match cx.shp s with
 | .struct fs=>fs[f]?
 | _=>none
def must {R:Type} (b:Bool) (k:Option R):Option R:=bif b then k else none
end Go.Flat
end
section
namespace Go.Flat
def p0h:Value→Cell
 | .bool b => .val .bool b
 | .int k n => .val (.int k) n
 | .string s => .val .str s.data.toList
 | .pointer none => .np
 | .slice none 0 0 => .ns
 | .nilFunc => .nf
 | .nilIface => .val .err false
 | .map none => .nm
 | _ => .dead
def d1w:Value→V
 | .agg cs=>bif cs.toList.all (·.oneCell') then .v true (cs.toList.map p0h) else .lost
 | .tuple _ => .lost
 | v=>bif v.oneCell' then .v false [p0h v] else .lost
def opnd (cx:Cx) (st:St):Operand→V
 | .tmp t=>getT st.t t
 | .const v=>d1w v
 | .global g=>match cx.glob g with | some x => .v false [.pin x.1 x.2 0] | none => .lost
 | .func f => .v false [.clo f .unit ()]
def p0a:Operand→Bool
 | .const (.slice none 0 0)=>true
 | _=>false
def t0i:Operand→Bool
 | .const .nilIface=>true
 | _=>false
def k1x:Operand→Bool
 | .const (.int _ (.ofNat n))=>Nat.blt 4294967296 n
 | _=>false
def isMul:BinOp→Bool
 | .mul=>true
 | _=>false
noncomputable def both {R:Type} (x y:Option R):Option R := @ite _ (x=y) (Classical.propDecidable _) x none
theorem k1t {R:Type} {x y:Option R} {r:R} (h:both x y=some r):x=some r∧y=some r:=by
 unfold both at h;split at h
 ·rename_i e;exact ⟨h,e ▸ h⟩
 ·cases h
theorem both_eq {R:Type} {x y:Option R} (h:x=y):both x y=x:=by unfold both;exact if_pos h
@[simp] theorem both_same {R:Type} (x:Option R):both x x=x:=both_eq rfl
def nameOf:Cell→List Nat
 | .loc n _ _=>[n]
 | .lel n _ _ _=>[n]
 | .lrow n _=>[n]
 | .lall n _=>[n]
 | .lsl n _ _ _=>[n]
 | .sl n _=>[n]
 | .clob _ caps=>caps.map (·.1)
 | .sel n _ _=>[n]
 | _=>[]
def namesV:V→List Nat
 | .v _ cs=>cs.flatMap nameOf
 | .tup vs=>vs.flatMap fun x=>x.2.flatMap nameOf
 | _=>[]
def namesBlk (h:Heap) (n:Nat):List Nat :=
 match h[n]? with
 | some (_,some (.box _ cs _))=>cs.flatMap nameOf
 | some (_,some (.sealed _ _ _ _ _ (some (_,c)) _))=>nameOf c
 | _=>[]
def q0y {R:Type}:List Nat→(List Nat→Option R)→Option R
 | [],k=>k []
 | n::r,k=>q0y r fun r=>k (n::r)
def w0f {R:Type} (h:Heap):Nat→List Nat→(List Nat→Option R)→Option R
 | 0,ns,k=>q0y ns k
 | d+1,ns,k=>q0y ns fun ns=>w0f h d (ns.flatMap (namesBlk h)) fun r=>k (ns++r)
def wants:Ty→Nat
 | .pair a b=>wants a+wants b
 | .wrap e=>wants e
 | .own _=>1
 | .ref e=>wants e+1
 | .tref _ e=>wants e
 | .opt e=>wants e
 | .row _=>1
 | .seg _=>1
 | .sb _ _=>1
 | .mp _ _=>1
 | .seq _=>1
 | .ls _=>1
 | _=>0
def inner:Ty→Nat
 | .ref e=>wants e
 | .tref _ e=>wants e
 | _=>0
section
variable (cx:Cx) (call:Oracle cx) (fx:Hints)
def deRow:V→V
 | .v false [.lrow n ver] => .v false [.lel n ver 0 0]
 | x=>x
def nmOf (o:Oper):Nat:=match o.dst with | some d=>((fx.names.find? fun x=>Nat.beq x.1 d).map (·.2)).getD 0 | none=>0
def u0g (o:Oper):Bool:=match o.dst with | some d=>hasN fx.own d | none=>false
section
variable {R:Type}
def rowK (e:Ty) (xs:List (El e)):Nat→Nat→(List Cell→Option R)→Option R
 | 0,_,k=>k []
 | n+1,j,k=>(xs[j]?).bind fun y=>rowK e xs n (j+1) fun cs=>k (cells e y++cs)
def tupN (e:Ty):Nat→Ty
 | 0 => .unit
 | 1=>e
 | n+2 => .pair e (tupN e (n+1))
def rowT (e:Ty) (xs:List (El e)):(n:Nat)→Nat→Option (El (tupN e n))
 | 0,_=>some ()
 | 1,j=>xs[j]?
 | n+2,j=>(xs[j]?).bind fun y=>(rowT e xs (n+1) (j+1)).bind fun z=>some (y,z)
def rowL (e:Ty) (xs:List (El e)) (n:Nat) (k:List Cell→Option R):Option R :=
 bif Nat.ble 20 n then (rowT e xs n 0).bind fun y=>k (cells (tupN e n) y) else rowK e xs n 0 k
theorem rowT_eq {e:Ty} {xs:List (El e)}:∀(n j:Nat) (k:List Cell→Option R),((rowT e xs n j).bind fun y=>k (cells (tupN e n) y))=rowK e xs n j k:=by
 intro n;induction n with
 | zero=>intro j k;rfl
 | succ n ih =>
  intro j k;cases n with
  | zero =>
   show (xs[j]?.bind fun y=>k (cells e y))=(xs[j]?).bind fun y=>k (cells e y++[])
   simp only[List.append_nil]
  | succ n =>
   show (((xs[j]?).bind fun y=>(rowT e xs (n+1) (j+1)).bind fun z=>some (y,z)).bind fun y=>k (cells (.pair e (tupN e (n+1))) y))=(xs[j]?).bind fun y=>rowK e xs (n+1) (j+1) fun cs=>k (cells e y++cs)
   cases hx:xs[j]? with
   | none=>rfl
   | some y =>
    simp only[Option.bind_some];rw[←ih (j+1)];cases rowT e xs (n+1) (j+1)<;>rfl
theorem w0x {e:Ty} {xs:List (El e)} (n:Nat) (k:List Cell→Option R):rowL e xs n k=rowK e xs n 0 k:=by
 unfold rowL;cases Nat.ble 20 n with
 | true=>exact rowT_eq n 0 k
 | false=>rfl
def o0y (h:Heap) (w:Nat) (a:Cell) (k:List Cell→Option R):Option R :=
 match a with
 | .loc n ver off =>
  match h[n]? with
  | some (ver',some (.box _ cs _))=>if ver=ver' then match cut cs off w with | some c=>k c | none=>none else none
  | _=>none
 | .pin t v off=>match cut (cells t v) off w with | some c=>k c | none=>none
 | .lel n ver i off =>
  match h[n]? with
  | some (ver',some (.arr e xs _)) =>
   if ver=ver' then
    bif Nat.ble (off+w) (width e) then (xs[i]?).bind fun y=>match cut (cells e y) off w with | some c=>k c | none=>none
    else bif Nat.beq i 0&&Nat.beq off 0 then rowL e xs (w / width e) fun c=>bif Nat.beq c.length w then k c else none else none
   else none
  | _=>none
 | _=>none
def loadR (h:Heap) (w:Nat) (a:Cell) (k:List Cell→Option R):Option R :=
 match a with
 | .lel n ver 0 0 =>
  match h[n]? with
  | some (ver',some (.arr e xs _)) =>
   if ver=ver' then bif Nat.ble w (width e) then o0y h w a k else rowK e xs (w / width e) 0 fun c=>bif Nat.beq c.length w then k c else none
   else none
  | _=>none
 | a=>o0y h w a k
theorem d1i {h:Heap} {w:Nat} {a:Cell} {k:List Cell→Option R}:loadR h w a k=o0y h w a k:=by
 unfold loadR;split
 ·rename_i n ver;cases hh:h[n]? with
  | none=>simp only[o0y,hh]
  | some p =>
   obtain ⟨v',ob⟩:=p;cases ob with
   | none=>simp only[o0y,hh]
   | some b =>
    cases b with
    | arr e xs fr =>
     simp only[o0y,hh];by_cases hv:ver=v'
     ·rw[if_pos hv,if_pos hv,Nat.zero_add];cases hb:Nat.ble w (width e) with
      | true=>simp only[cond_true,hh,if_pos hv,Nat.zero_add,hb]
      | false=>simp only[cond_false,w0x,Nat.beq,Bool.and_self,cond_true]
     ·rw[if_neg hv,if_neg hv]
    | _=>simp only[o0y,hh]
 ·rfl
def k0r (h:Heap) (e:Ty):Nat→List Cell→Option (List (El e)×List Nat)
 | 0,[]=>some ([],[])
 | 0,_=>none
 | n+1,cs=>(i0o cx call h e cs).bind fun x=>(k0r h e n x.2.1).map fun y=>(x.1::y.1,x.2.2++y.2)
def u0w (h:Heap) (a:Cell) (new:List Cell) (k:Ups→Option R):Option R :=
 match a with
 | .loc n ver off =>
  match h[n]? with
  | some (ver',some (.box t cs false))=>if ver=ver' then match splice cs off new with | some c=>k [(n,ver,some (.box t c false))] | none=>none else none
  | _=>none
 | .lel n ver i off =>
  match h[n]? with
  | some (ver',some (.arr e xs false)) =>
   if ver=ver' then
    bif Nat.ble (off+new.length) (width e) then
     (xs[i]?).bind fun y =>
      match splice (cells e y) off new with
      | some c =>
       match m0y cx call h e c with
       | some (z,lent)=>if hasN lent n then none else k (a0i h (if shares e then lent else [])++[(n,ver,some (.arr e (xs.set i z) false))])
       | none=>none
      | none=>none
    else bif Nat.beq i 0&&Nat.beq off 0 then
     match k0r cx call h e (new.length / width e) new with
     | some (ys,lent)=>must (decide (xs.length=new.length / width e)) (if hasN lent n then none else k (a0i h (if shares e then lent else [])++[(n,ver,some (.arr e ys false))]))
     | none=>none
    else none
   else none
  | _=>none
 | _=>none
def arrK (h:Heap) (e:Ty) (c:Cell) (k:List (El e)→Option R):Option R :=
 match g0x cx call h (.slice e) c with
 | some (xs,_)=>k xs
 | none=>none
def lenK (h:Heap) (s:Shp) (c:Cell) (k:Nat→Option R):Option R :=
 match s with
 | .str =>
  match c with
  | .val .str s=>k s.length
  | _=>none
 | .slice _ =>
  match c with
  | .val (.slice _) xs=>k xs.length
  | .ns=>k 0
  | .lall n ver =>
   match h[n]? with
   | some (ver',some (.arr _ xs _))=>if ver=ver' then k xs.length else none
   | _=>none
  | .lsl _ _ _ len=>k len
  | .sl n v0 =>
   match h[n]? with
   | some (ver',some (.sealed n' base top (.ls _) xs _ false))=>if n=n'∧base≤v0∧v0≤top∧top=ver' then k xs.length else none
   | _=>none
  | _=>none
 | .map _ _ =>
  match c with
  | .sl n v0 =>
   match h[n]? with
   | some (ver',some (.sealed n' base top (.mp _ _) xs none false))=>if n=n'∧base≤v0∧v0≤top∧top=ver' then k xs.length else none
   | _=>none
  | _=>none
 | _=>none
def h0p:V→Option Int
 | .v false [.val (.int _) n]=>some n
 | _=>none
def e0f (et:TypeId) (e:Ty):Bool:=Nat.beq (cx.cells et) (width e) && !Nat.beq (width e) 0
def intsOf (kd:IntKind):List Cell→Option (List Int)
 | []=>some []
 | .val (.int k) n::r=>if k=kd then (intsOf kd r).map (n :: ·) else none
 | _=>none
def rowOf (n:Nat):Ty→List Cell→Option (IntKind×List Int)
 | .int kd,cs =>
  bif Nat.ble 4 n then
   match intsOf kd cs with
   | some l=>bif Nat.beq l.length n then some (kd,l) else none
   | none=>none
  else none
 | _,_=>none
def pinRow (et:TypeId) (n:Nat) (t:Ty) (v:El t) (off:Nat):Option (IntKind×List Int) :=
 match cx.ty et with
 | some c =>
  match cut (cells t v) off n with
  | some cs=>rowOf n c cs
  | none=>none
 | none=>none
def rowOk (h:Heap) (et:TypeId) (n ver q off:Nat):Option Nat :=
 bif Nat.beq q 0&&Nat.beq off 0 then
  match h[n]? with
  | some (ver',some (.arr e xs _))=>if ver=ver' then bif e0f cx et e then some xs.length else none else none
  | _=>none
 else none
def i0a (h:Heap) (t:TypeId) (x:V) (i:Int) (k:Cell→Option R):Option R :=
 match cx.shp t with
 | .arr n e =>
  bif Nat.beq (cx.cells e) 0 then none else
  let w:=cx.cells e
  match x with
  | .v false [.loc m ver off]=>l0y i n 0 fun j=>k (.loc m ver (off+j*w))
  | .v false [.pin t v off] =>
   match pinRow cx e n t v off with
   | some (kd,xs)=>(at? xs i).bind fun y=>k (.pin (.int kd) y 0)
   | none=>l0y i n 0 fun j=>k (.pin t v (off+j*w))
  | .v false [.lel m ver q off] =>
   match rowOk cx h e m ver q off with
   | some len=>must (decide (0≤i)&&(decide (i<(n:Int))&&decide (i<(len:Int)))) (k (.lel m ver i.toNat 0))
   | none=>l0y i n 0 fun j=>k (.lel m ver q (off+j*w))
  | _=>none
 | .slice et =>
  match x with
  | .v false [.val (.slice e) xs]=>bif e0f cx et e then (at? xs i).bind fun y=>k (.pin e y 0) else none
  | .v false [.lall n ver] =>
   match h[n]? with
   | some (ver',some (.arr e xs _))=>if ver=ver' then bif e0f cx et e then (at? xs i).bind fun _=>k (.lel n ver i.toNat 0) else none else none
   | _=>none
  | .v false [.lsl n ver off len] =>
   match h[n]? with
   | some (ver',some (.arr e xs _))=>if ver=ver' then bif e0f cx et e then (at? ((xs.drop off).take len) i).bind fun _=>k (.lel n ver (off+i.toNat) 0) else none else none
   | _=>none
  | .v false [.sl n v0] =>
   match h[n]? with
   | some (ver',some (.sealed n' base top (.ls e) xs _ false))=>if n=n'∧base≤v0∧v0≤top∧top=ver' then bif Nat.beq (cx.cells et) 1 then (at? (α:=El e) xs i).bind fun _=>k (.sel n v0 i.toNat) else none else none
   | _=>none
  | _=>none
 | _=>none
def v0z (t:TypeId) (x:V) (i:Int) (k:V→Option R):Option R :=
 match cx.shp t,x with
 | .arr n e,.v true cs =>
  match cx.ty e with
  | some c =>
   match rowOf n c cs with
   | some (kd,l)=>(at? l i).bind fun y=>k (.v false [.val (.int kd) y])
   | none=>l0y i n 0 fun j=>match cut cs (j*width c) (width c) with | some c'=>k (.v (agg c) c') | none=>none
  | none=>none
 | .str,.v false [.val .str s]=>(at? s i).bind fun b=>k (.v false [.val (.int .u8) (b.toNat:Int)])
 | _,_=>none
def upK (n l:Nat) (hi:Option V) (k:Nat→Nat→Option R):Option R :=
 match hi with
 | none=>must (decide (l≤n)) (k l n)
 | some v=>match h0p v with
  | some j=>must (decide ((l:Int)≤j)&&decide (j≤(n:Int))) (k l j.toNat)
  | none=>none
def h0e (n:Nat) (lo hi:Option V) (k:Nat→Nat→Option R):Option R :=
 match lo with
 | none=>upK n 0 hi k
 | some v=>match h0p v with
  | some i=>must (decide (0≤i)) (upK n i.toNat hi k)
  | none=>none
def w0o:Option V→Bool
 | some (.v false [.val (.int _) (.ofNat 0)])=>true
 | _=>false
def v0d (h:Heap) (et:TypeId) (x:V) (lo hi mx:Option V) (k:Cell→Option R):Option R :=
 match mx with
 | some _ =>
  if w0o hi&&w0o mx&&lo.isNone then
   match x with
   | .v false [.val (.slice _) _]=>k .ns
   | .v false [.ns]=>k .ns
   | .v false [.lall n ver] =>
    match h[n]? with
    | some (ver',some (.arr _ _ _))=>if ver=ver' then k .ns else none
    | _=>none
   | _=>none
  else none
 | none =>
  match x with
  | .v false [.val (.slice e) xs]=>bif e0f cx et e then h0e xs.length lo hi fun l j=>k (.val (.slice e) ((xs.take j).drop l)) else none
  | .v false [.ns]=>h0e 0 lo hi fun _ _=>k .ns
  | .v false [.lall n ver] =>
   match h[n]? with
   | some (ver',some (.arr e xs _))=>if ver=ver' then bif e0f cx et e then h0e xs.length lo hi fun l j=>k (.lsl n ver l (j-l)) else none else none
   | _=>none
  | .v false [.lsl n ver off len] =>
   match h[n]? with
   | some (ver',some (.arr e _ _))=>if ver=ver' then bif e0f cx et e then h0e len lo hi fun l j=>k (.lsl n ver (off+l) (j-l)) else none else none
   | _=>none
  | _=>none
def v0b (h:Heap) (n:Nat) (et:TypeId) (x:V) (lo hi mx:Option V) (k:Cell→Option R):Option R :=
 match mx,x with
 | none,.v false [.lrow m ver] =>
  match h[m]? with
  | some (ver',some (.arr e xs _))=>if ver=ver' then bif e0f cx et e then must (decide (xs.length=n)) (h0e n lo hi fun l j=>k (.lsl m ver l (j-l))) else none else none
  | _=>none
 | _,_=>none
def isLoc:V→Bool
 | .v false [.loc _ _ _]=>true
 | _=>false
def sliceB (h:Heap) (n:Nat) (et:TypeId) (x:V) (lo hi mx:Option V) (k:Cell→Ups→Option R):Option R :=
 match mx,x,cx.ty et with
 | none,.v false [.loc m ver off],some c =>
  match h[m]? with
  | some (ver',some (.box _ cs _)) =>
   if ver=ver'∧off=0 then
    match rowOf n c cs with
    | some (kd,l)=>h0e n lo hi fun i j=>k (.val (.slice (.int kd)) ((l.take j).drop i)) (a0i h [m])
    | none=>none
   else none
  | _=>none
 | _,_,_=>none
def u0z (x:V) (lo hi mx:Option V) (k:Cell→Option R):Option R :=
 match mx,x with
 | none,.v false [.val .str s]=>h0e s.length lo hi fun l j=>k (.val .str ((s.take j).drop l))
 | _,_=>none
def q0m (h:Heap) (o:Oper) (e:Ty) (bytes:Nat) (s x:V) (k:Cell→Ups→Option R):Option R :=
 let news (kk:List (El e)→Option R):Option R :=
  match x with
  | .v false [.val .str b]=>match b0p (a := .slice (.int .u8)) (b := .slice e) (b.map fun c=>(c.toNat:Int)) with | some y=>kk y | none=>none
  | .v false [c]=>arrK cx call h e c kk
  | _=>none
 match s with
 | .v false [.ns]=>news fun ys =>
   must (decide (ys.length*bytes≤140737488355328))
    (k (.lall (nmOf fx o) (a0h h (nmOf fx o)+1)) [(nmOf fx o,a0h h (nmOf fx o)+1,some (.arr e ys false))])
 | .v false [.lall n ver] =>
  match h[n]? with
  | some (ver',some (.arr e' xs false)) =>
   if ver=ver' then
    match b0p (a := .slice e') (b := .slice e) xs with
    | some zs=>news fun ys =>
     must (decide ((zs.length+ys.length)*bytes≤140737488355328))
      (k (.lall n (ver+1)) [(n,ver+1,some (.arr e (zs++ys) false))])
    | none=>none
   else none
  | _=>none
 | .v false [.lsl n ver off len] =>
  match h[n]? with
  | some (ver',some (.arr e' xs false)) =>
   if ver=ver'∧off=0 then
    match b0p (a := .slice e') (b := .slice e) (xs.take len) with
    | some zs=>news fun ys =>
     must (decide ((zs.length+ys.length)*bytes≤140737488355328))
      (k (.lall n (ver+1)) [(n,ver+1,some (.arr e (zs++ys) false))])
    | none=>none
   else none
  | _=>none
 | _=>none
def m0z (ts:Array TypeId):Bool :=
 match (ts[1]?).map cx.shp with
 | none=>true
 | some (.slice _)=>true
 | some .str=>true
 | _=>false
def slOf:V→Option (Nat×Nat)
 | .v false [.sl n v0]=>some (n,v0)
 | _=>none
def a1u:V→Option (Nat×Nat×Nat)
 | .v false [.sel n v0 i]=>some (n,v0,i)
 | _=>none
def oneCell (e:Ty):Bool:=Nat.beq (width e) 1 && !agg e
def v0x (h:Heap) (ts:Array TypeId) (n v0:Nat) (x:V) (k:V→Ups→Option R):Option R :=
 match (ts[0]?).map cx.shp,slOf x with
 | some (.slice et),some (m,v1) =>
  match cx.ty et,h[n]?,h[m]? with
  | some ct,some (ver,some (.sealed n' base top (.ls e) xs none false)),some (ver2,some (.sealed m' base2 top2 (.ls e') ys none false)) =>
   if (n=n'∧base≤v0∧v0≤top∧top=ver)∧((m=m'∧base2≤v1∧v1≤top2∧top2=ver2)∧n≠m) then
    match b0p (a := .ls e') (b := .ls e) ys with
    | some zs =>
     must (m0z cx ts&&(Nat.beq (width ct) 1&&(oneCell e&&Nat.blt 0 (cx.bytes et)))) <|
     must (decide ((xs.length+zs.length)*cx.bytes et≤140737488355328)) (k (.v false [.sl n (ver+1)]) (c0k h [m]++[(n,ver+1,some (.sealed n (ver+1) (ver+1) (.ls e) (xs++zs) none false))]))
    | none=>none
   else none
  | _,_,_=>none
 | _,_=>none
def v0w (h:Heap) (o:Oper) (c:Ty) (n v0 i:Nat) (k:V→Ups→Option R):Option R :=
 match h[n]? with
 | some (ver,some (.sealed n' base top (.ls e) xs none false)) =>
  if n=n'∧base≤v0∧v0≤top∧top=ver then
   must (oneCell c&&oneCell e) <|
   must (noTk e) <|
   (xs[i]?).bind fun y=>b0v h dm0 e y [] (nmOf fx o) fun cs bs _ =>
    match cs with
    | [c]=>must (nodupB (n::bs.map (·.1))) (k (.v false [c]) ((n,ver+1,some (.sealed n base (ver+1) (.ls e) xs (some (i,c)) false))::bs.map fun b=>(b.1,b.2.1,some b.2.2)))
    | _=>none
  else none
 | _=>none
def holeAt (i:Nat):Option (Nat×Cell)→Bool
 | none=>true
 | some (j,_)=>decide (i=j)
def f1h (h:Heap) (c:Ty) (n v0 i:Nat) (new:V) (k:Ups→Option R):Option R :=
 match h[n]?,new with
 | some (ver,some (.sealed n' base top (.ls e) xs hole false)),.v false [x] =>
  if n=n'∧base≤v0∧v0≤top∧top=ver then
   must (oneCell c&&oneCell e) <|
   must (holeAt i hole) <|
   must (decide (i<xs.length)) <|
   must (noTk e) <|
   (b0b cx call h e [x]).bind fun y =>
    match y.2.1 with
    | []=>must (apartB (n::y.2.2.1) y.2.2.2)
      (k (c0k h y.2.2.1++a0i h y.2.2.2++[(n,ver+1,some (.sealed n base (ver+1) (.ls e) (xs.set i y.1) none false))]))
    | _=>none
  else none
 | _,_=>none
def l1h:List (List Cell)→Bool
 | []=>true
 | [.ns]::r=>l1h r
 | _=>false
def lsNew (own:Bool) (e:Ty) (ls:List (List Cell)):Option Ty :=
 match own,e with
 | true,.slice e'=>bif l1h ls then some e' else none
 | _,_=>none
def o0t (h:Heap) (c:Cell) (k:(n ver off len:Nat)→(e:Ty)→List (El e)→Option R):Option R :=
 match c with
 | .lall n ver =>
  match h[n]? with
  | some (ver',some (.arr e xs false))=>if ver=ver' then k n ver 0 xs.length e xs else none
  | _=>none
 | .lsl n ver off len =>
  match h[n]? with
  | some (ver',some (.arr e xs false))=>if ver=ver' then must (decide (off+len≤xs.length)) (k n ver off len e xs) else none
  | _=>none
 | _=>none
def putRow {α:Type} (xs:List α) (off:Nat) (ys:List α):List α:=xs.take off++ys++xs.drop (off+ys.length)
def n0l (h:Heap) (o:Oper) (b:Builtin) (ts:Array TypeId) (args:List V) (k:V→Ups→Option R):Option R :=
 match b,args with
 | .len,[.v false [c]]=>match (ts[0]?).map cx.shp with | some s=>lenK h s c fun n=>k (.v false [.val (.int .i64) (n:Int)]) [] | none=>none
 | .len,[.v true _]=>match (ts[0]?).map cx.shp with | some (.arr n _)=>k (.v false [.val (.int .i64) (n:Int)]) [] | _=>none
 | .min,[.v false [.val (.int kd) a],.v false [.val (.int _) b]]=>k (.v false [.val (.int kd) (if b<a then b else a)]) []
 | .max,[.v false [.val (.int kd) a],.v false [.val (.int _) b]]=>k (.v false [.val (.int kd) (if a<b then b else a)]) []
 | .min,[.v false [.val (.int kd) a],.v false [.val (.int _) b],.v false [.val (.int _) c]]=>k (.v false [.val (.int kd) (if c<(if b<a then b else a) then c else (if b<a then b else a))]) []
 | .max,[.v false [.val (.int kd) a],.v false [.val (.int _) b],.v false [.val (.int _) c]]=>k (.v false [.val (.int kd) (if (if a<b then b else a)<c then c else (if a<b then b else a))]) []
 | .append,[s,x] =>
  match slOf s with
  | some p=>v0x cx h ts p.1 p.2 x k
  | none =>
  match (ts[0]?).map cx.shp,m0z cx ts with
  | some (.slice et),true =>
   match cx.ty et with
   | some e=>bif e0f cx et e&&Nat.blt 0 (cx.bytes et) then q0m cx call fx h o e (cx.bytes et) s x fun c u=>k (.v false [c]) u else none
   | none=>none
  | _,_=>none
 | .copy,[.v false [d],.v false [s]] =>
  match (ts[0]?).map cx.shp with
  | some (.slice et) =>
   match cx.ty et with
   | some e0=>o0t h d fun n ver off len e xs =>
    if e=e0 then
     match s with
     | .val .str b =>
      match b0p (a := .slice (.int .u8)) (b := .slice e) ((b.map fun c=>(c.toNat:Int)).take len) with
      | some ys=>k (.v false [.val (.int .i64) (ys.length:Int)]) [(n,ver,some (.arr e (putRow xs off ys) false))]
      | none=>none
     | s=>arrK cx call h e s fun ys =>
      k (.v false [.val (.int .i64) ((ys.take len).length:Int)]) [(n,ver,some (.arr e (putRow xs off (ys.take len)) false))]
    else none
   | none=>none
  | _=>none
 | .clear,[.v false [d]] =>
  match (ts[0]?).map cx.shp with
  | some (.slice et) =>
   match d with
   | .ns=>k (.tup []) []
   | d =>
    match cx.ty et with
    | some e0=>o0t h d fun n ver off len e xs =>
     if e=e0 then
      match i0b e with
      | some z=>k (.tup []) [(n,ver,some (.arr e (putRow xs off (List.replicate len z)) false))]
      | none=>none
     else none
    | none=>none
  | some (.map _ _) =>
   match d with
   | .sl n v0 =>
    match h[n]? with
    | some (ver',some (.sealed n' base top (.mp ck e) _ none false)) =>
     if n=n'∧base≤v0∧v0≤top∧top=ver' then k (.tup []) [(n,ver'+1,some (.sealed n base (ver'+1) (.mp ck e) [] none false))] else none
    | _=>none
   | _=>none
  | _=>none
 | _,_=>none
def m0a.backK (h:Heap) (dm:Dm):(t:Ty)→Cell→El t→Nat→(Ups→Nat→Option R)→Option R
 | .tref d e,.loc n ver _,x,nm,k=>must (Nat.beq (dm.name d) n) <| b0v h dm e x [] nm fun cs bs nm=>k ((n,ver,some (.box e cs false))::bs.map fun b=>(b.1,b.2.1,some b.2.2)) nm
 | .ref e,.loc n ver _,x,nm,k=>b0v h dm e x (l0b h n) nm fun cs bs nm=>k ((n,ver,some (.box e cs false))::bs.map fun b=>(b.1,b.2.1,some b.2.2)) nm
 | .own e,.lall n ver,x,nm,k=>k [(n,ver,some (.arr e x false))] nm
 | .seg e,.lsl n ver off _,x,nm,k =>
  match h[n]? with
  | some (_,some (.arr e' xs _))=>if e'=e then must (decide (x.1.length=xs.length)&&(decide (x.2.1=off)&&decide (0<xs.length))) (k [(n,ver,some (.arr e x.1 false))] nm) else none
  | _=>none
 | .sb T e,.sl n v0,x,nm,k =>
  match h[n]? with
  | some (ver,some (.sealed n' base top _ _ _ _))=>if n=n'∧base≤v0∧v0≤top∧top=ver then k [(n,ver+1,some (.sealed n base (ver+1) (.sb T e) x none false))] nm else none
  | _=>none
 | .mp kt e,.sl n v0,x,nm,k =>
  match h[n]? with
  | some (ver,some (.sealed n' base top _ _ _ _))=>if n=n'∧base≤v0∧v0≤top∧top=ver then k [(n,ver+1,some (.sealed n base (ver+1) (.mp kt e) x none false))] nm else none
  | _=>none
 | _,_,_,_,_=>none
def m0a (h:Heap) (dm:Dm):(ts:List (Ty×Option Cell))→El (tup (ts.map Prod.fst))→Nat→(List (Bool×List Cell)→Ups→Option R)→Option R
 | [],_,_,k=>k [] []
 | [(t,none)],x,nm,k=>b0v h dm t x [] nm fun cs bs _=>k [(agg t,cs)] (bs.map fun b=>(b.1,b.2.1,some b.2.2))
 | [(t,some c)],x,nm,k=>m0a.backK h dm t c x nm fun u _=>k [] u
 | (t,none)::b::r,x,nm,k=>b0v h dm t x.1 [] nm fun cs bs nm=>m0a h dm (b::r) x.2 nm fun vs u=>k ((agg t,cs)::vs) ((bs.map fun b=>(b.1,b.2.1,some b.2.2))++u)
 | (t,some c)::b::r,x,nm,k=>m0a.backK h dm t c x.1 nm fun u nm=>m0a h dm (b::r) x.2 nm fun vs u'=>k vs (u++u')
def vOf:V→Option (Bool×List Cell)
 | .v a cs=>some (a,cs)
 | _=>none
def m0p (h:Heap):(ps:List Ty)→List V→Option (El (tupU ps)×List Nat×List Nat×List Cell)
 | [],[]=>some ((),[],[],[])
 | p::ps,.v a cs::vs =>
  if a=agg p then
   (f0y cx call h p cs).bind fun x=>(m0p h ps vs).map fun y=>((x.1,y.1),x.2.1++y.2.1,x.2.2++y.2.2.1,cs.headD .dead::y.2.2.2)
  else none
 | _,_=>none
def resV:List (Bool×List Cell)→V
 | [(a,cs)] => .v a cs
 | l => .tup l
def u0o (h:Heap):List Ty→List V→List (Nat×Nat)
 | p::ps,.v _ cs::vs=>g0y h p cs++u0o h ps vs
 | _,_=>[]
def s0d (h:Heap):Ty→List Cell→List Nat
 | .pair a b,cs=>s0d h a cs++s0d h b (cs.drop (width a))
 | .wrap e,cs=>s0d h e cs
 | .ref e,.loc n _ _::_=>s0d h e (l0b h n)
 | .tref _ e,.loc n _ _::_=>n::s0d h e (l0b h n)
 | _,_=>[]
def g1h (h:Heap) (o:Oper) (f:FuncId) (args:List V) (k:V→Ups→Option R):Option R :=
 match cx.sig f with
 | none=>none
 | some s =>
  match m0p cx call h s.ps args with
  | none=>none
  | some (a,taken,lent,heads) =>
   if apartB taken lent then
    let bt:List (Ty×Option Cell):=s.rs.map (·,none)++s.back.filterMap fun i=>match s.ps[i]?,heads[i]? with | some p,some c=>some (p,some c) | _,_=>none
    let dl:=u0o h s.ps args
    let stay:=(s.back.filterMap fun i=>(heads[i]?).bind fun c=>(nameOf c)[0]?)++(s.back.flatMap fun (i:Nat)=>match (s.ps[i]? : Option Ty),(args[i]? : Option V) with | some (.ref e),some (.v _ (.loc n _ _::_))=>s0d h e (l0b h n) | _,_=>[])
    match b0p (a:=tupU s.ps) (b:=cx.arg f) a with
    | none=>none
    | some a =>
     (call f a).bind fun r =>
      match b0p (a:=cx.out f) (b:=tup (bt.map Prod.fst)) r with
      | none=>none
      | some r =>
       must (okD dl&&((bt.flatMap fun x=>tkNs x.1).all fun d=>hasN (dl.map Prod.fst) d)) <|
       m0a h ⟨x0j dl,fun d=>a0h h (x0j dl d)⟩ bt r (nmOf fx o) fun vs u =>
        must (nodupB (u.map (·.1))&&stay.all (hasN (u.map (·.1)))) <|
        k (resV vs) (c0k h (taken.filter fun n => !hasN stay n)++a0i h (if shares (cx.out f) then lent else [])++u)
   else none
def extK:Nat→List V→(V→Ups→Option R)→Option R
 | 1,[.v false [.val (.int .u64) x],.v false [.val (.int .u64) y],.v false [.val (.int .u64) c]],k =>
  must (decide (0≤x)&&(decide (0≤y)&&(decide (0≤c)&&decide (c≤1))))
   (k (.tup [(false,[.val (.int .u64) ((x+y+c) % 18446744073709551616)]),(false,[.val (.int .u64) ((x+y+c) / 18446744073709551616)])]) [])
 | 2,[.v false [.val (.int .u64) x],.v false [.val (.int .u64) y],.v false [.val (.int .u64) c]],k =>
  must ((decide (0≤x)&&decide (0≤y))&&(decide (y<18446744073709551616)&&(decide (0≤c)&&decide (c≤1))))
   (k (.tup [(false,[.val (.int .u64) ((x-y-c) % 18446744073709551616)]),(false,[.val (.int .u64) (if x<y+c then 1 else 0)])]) [])
 | _,_,_=>none
def q0l (h:Heap):(a:Ty)→List V→Option (El a×List Nat)
 | .unit,[]=>some ((),[])
 | .pair p q,.v ag cs::vs =>
  if ag=agg p then
   (m0y cx call h p cs).bind fun x=>(q0l h q vs).map fun y=>((x.1,y.1),x.2++y.2)
  else none
 | _,_=>none
def g1g (h:Heap) (c:Cell) (args:List V) (k:V→Ups→Option R):Option R :=
 match c with
 | .val (.fn a r) p =>
  if j0g r=true∧oneTy r=true then
   match q0l cx call h a args with
   | some (x,lent)=>(p x).bind fun y=>k (toV r y) (a0i h (if shares r then lent else []))
   | none=>none
  else none
 | .clo f ct cv =>
  match cx.sig f with
  | some s =>
   match s.rs with
   | [r] =>
    let a:=tupU (s.ps.take args.length)
    match k1m cx call f ct cv a r with
    | some p =>
     match q0l cx call h a args with
     | some (x,lent)=>(p x).bind fun y=>k (toV r y) (a0i h (if shares r then lent else []))
     | none=>none
    | none=>none
   | _=>none
  | none=>none
 | _=>none
def d0i (places:Nat→Option (Nat×Nat)) (cs:List Cell):List (Nat×V)→Option (List Cell)
 | []=>some cs
 | (i,.v _ new)::r =>
  match places i with
  | some (off,w)=>if new.length=w then (splice cs off new).bind fun cs=>d0i places cs r else none
  | none=>none
 | _=>none
def j0u (h:Heap) (e:Ty):List (List Cell)→Option (List (El e)×List Nat)
 | []=>some ([],[])
 | c::r=>(m0y cx call h e c).bind fun x=>(j0u h e r).map fun y=>(x.1::y.1,x.2++y.2)
def j0p (w:Nat) (ls:List (List Cell)):List (Nat×V)→Option (List (List Cell))
 | []=>some ls
 | (i,.v _ new)::r=>if new.length=w∧i<ls.length then j0p w (ls.set i new) r else none
 | _=>none
def c1m (h:Heap):List V→Option ((t:Ty)×El t×List Nat)
 | []=>some ⟨.unit,(),[]⟩
 | .v false [c]::r =>
  match c with
  | .loc n ver off =>
   match h[n]? with
   | some (ver',some (.box t _ _)) =>
    if ver=ver'∧off=0 then
     (leaf cx call h (.ptr t) c).bind fun x=>(c1m h r).map fun y=>⟨.pair (.ptr t) y.1,(x.1,y.2.1),x.2++y.2.2⟩
    else none
   | _=>none
  | .pin t v off=>if off=0 then (c1m h r).map fun y=>⟨.pair (.ptr t) y.1,(v,y.2.1),y.2.2⟩ else none
  | _=>none
 | _=>none
def o0e:List V→Option (List (Nat×Nat))
 | []=>some []
 | .v false [.loc n ver 0]::r=>(o0e r).map ((n,ver) :: ·)
 | _=>none
def rowTy (t:TypeId) (c:Ty):Option ((e:Ty)×El e×Nat) :=
 match cx.shp t with
 | .arr n et =>
  match cx.ty et with
  | some e =>
   match i0b e with
   | some z=>if c = .wrap (tup (List.replicate n e)) then bif e0f cx et e&&(Nat.blt 0 n&&Nat.ble n 65536) then some ⟨e,z,n⟩ else none else none
   | none=>none
  | none=>none
 | _=>none
def z0o (kt:TypeId) (k:Ty):Bool :=
 match k,cx.shp kt with
 | .str,.str=>true
 | .int kd,.int kd'=>decide (kd=kd')
 | _,_=>false
def isPtr:Option Ty→Bool
 | some (.ptr _)=>true
 | _=>false
def b1o (h:Heap) (o:Oper) (n ver base:Nat) (kt e:Ty) (xs:List (El kt×El e)) (key:El kt) (k:V→Ups→Option R):Option R :=
 match mget kt (.ref e) xs key 0 with
 | none=>k (.v false [.np]) []
 | some p=>must (noTk e) <| b0v h dm0 (.ref e) p.2 [] (nmOf fx o) fun cs bs _ =>
  match cs with
  | [c]=>must (nodupB (n::bs.map (·.1))) (k (.v false [c]) ((n,ver+1,some (.sealed n base (ver+1) (.mp kt (.ref e)) xs (some (p.1,c)) false))::bs.map fun b=>(b.1,b.2.1,some b.2.2)))
  | _=>none
def intTy:Option Ty→IntKind→Bool
 | some (.int kd'),kd=>decide (kd'=kd)
 | _,_=>false
def b1n (k:Ty) (kd:IntKind) (xs:List (El k×El (.int kd))) (key:El k):Int×Bool :=
 match mget k (.int kd) xs key 0 with
 | some p=>(p.2,true)
 | none=>(0,false)
def lookI (ok:Bool) (ck:Ty) (kd:IntKind) (xs:List (El ck×El (.int kd))) (key:El ck):V :=
 bif ok then .tup [(false,[.val (.int kd) (b1n ck kd xs key).1]),(false,[.val .bool (b1n ck kd xs key).2])] else .v false [.val (.int kd) (b1n ck kd xs key).1]
def evOp (o:Oper) (ρ:Operand→V) (h:Heap) (k:V→Ups→Option R):Option R :=
 let nm:=nmOf fx o
 let ver:=a0h h nm+1
 match o.op with
 | .move x | .assign x=>k (ρ x) []
 | .pick c a b =>
  match ρ c with
  | .v false [.val .bool x]=>bif x then k (ρ a) [] else k (ρ b) []
  | _=>none
 | .alloc t =>
  match cx.shp t with
  | .bld e=>k (.v false [.sl nm ver]) [(nm,ver,some (.sealed nm ver ver (.sb t e) [] none false))]
  | _ =>
   match cx.ty t with
   | some c =>
    match bif u0g fx o then rowTy cx t c else none with
    | some ⟨e,z,n⟩=>k (.v false [.lrow nm ver]) [(nm,ver,some (.arr e (List.replicate n z) false))]
    | none=>k (.v false [.loc nm ver 0]) [(nm,ver,some (.box c (zeroCells c) false))]
   | none=>none
 | .box t x =>
  match cx.ty t,ρ x with
  | some c,.v _ cs=>if cs.length=width c then k (.v false [.loc nm ver 0]) [(nm,ver,some (.box c cs false))] else none
  | _,_=>none
 | .build t ps =>
  match cx.ty t with
  | some c =>
   match cx.shp t with
   | .struct fs =>
    match d0i (fun i=>(fs[i]?).map fun f=>(f.1,cx.cells f.2)) (zeroCells c) (ps.toList.map fun x=>(x.1,ρ x.2)),fs.all fun f=>(cx.info f.2).isSome with
    | some cs,true=>k (.v true cs) []
    | _,_=>none
   | .arr _ e =>
    match d0i (fun i=>some (i*cx.cells e,cx.cells e)) (zeroCells c) (ps.toList.map fun x=>(x.1,ρ x.2)),(cx.info e).isSome with
    | some cs,true=>k (.v true cs) []
    | _,_=>none
   | _=>none
  | none=>none
 | .buildSlice t n ps =>
  match cx.shp t with
  | .slice et =>
   match cx.ty et with
   | some e =>
    match j0p (width e) (List.replicate n (zeroCells e)) (ps.toList.map fun x=>(x.1,ρ x.2)),e0f cx et e&&Nat.ble (n*width e) 16777216 with
    | some ls,true =>
     match lsNew (u0g fx o) e ls with
     | some e'=>k (.v false [.sl nm ver]) [(nm,ver,some (.sealed nm ver ver (.ls (.own e')) (ls.map fun _=>[]) none false))]
     | none =>
     match j0u cx call h e ls with
     | some (xs,lent) =>
      if u0g fx o then k (.v false [.lall nm ver]) (a0i h (if shares e then lent else [])++[(nm,ver,some (.arr e xs false))])
      else k (.v false [.val (.slice e) xs]) (a0i h (if shares e then lent else []))
     | none=>none
    | _,_=>none
   | none=>none
  | _=>none
 | .load t a =>
  match a1u (ρ a) with
  | some p=>match cx.ty t with | some c=>v0w fx h o c p.1 p.2.1 p.2.2 k | none=>none
  | none =>
  match cx.ty t,deRow (ρ a) with
  | some c,.v false [a]=>o0y h (width c) a fun cs=>k (.v (agg c) cs) []
  | _,_=>none
 | .store t a x =>
  match a1u (ρ a) with
  | some p=>match cx.ty t with | some c=>f1h cx call h c p.1 p.2.1 p.2.2 (ρ x) fun u=>k .undef u | none=>none
  | none =>
  match cx.ty t,deRow (ρ a),deRow (ρ x) with
  | some c,.v false [a],.v _ new=>if new.length=width c then u0w cx call h a new fun u=>k .undef u else none
  | _,_,_=>none
 | .nilCheck x =>
  match ρ x with
  | .v false [c]=>match isNil c with | some false=>k (.v false [c]) [] | _=>none
  | _=>none
 | .binOp op t x y _ =>
  bif p0a y then v0s (cx.eqk t) op (ρ x) fun c=>k (.v false [c]) []
  else bif t0i y then v0u (cx.eqk t) op (ρ x) fun c=>k (.v false [c]) []
  else binK (cx.eqk t) (cx.ty t) op (bif isMul op&&k1x y then ρ y else ρ x) (bif isMul op&&k1x y then ρ x else ρ y) fun c=>k (.v false [c]) []
 | .unOp op _ x=>unK op (ρ x) fun c=>k (.v false [c]) []
 | .convert s d x =>
  match cx.shp s,cx.shp d,ρ x with
  | .int _,.int kd,.v false [.val (.int _) n]=>k (.v false [.val (.int kd) (kd.wrap n)]) []
  | .str,.str,.v false [.val .str b]=>k (.v false [.val .str b]) []
  | .str,.slice et,.v false [.val .str b] =>
   match cx.shp et with
   | .int .u8 =>
    bif u0g fx o then must (decide (b.length≤140737488355328)) (k (.v false [.lall (nmOf fx o) (a0h h (nmOf fx o)+1)]) [(nmOf fx o,a0h h (nmOf fx o)+1,some (.arr (.int .u8) (b.map fun c=>(c.toNat:Int)) false))])
    else k (.v false [.val (.slice (.int .u8)) (b.map fun c=>(c.toNat:Int))]) []
   | _=>none
  | .slice et,.str,.v false [c] =>
   match cx.shp et with
   | .int .u8=>arrK cx call h (.int .u8) c fun xs=>k (.v false [.val .str (xs.map fun n=>UInt8.ofNat n.toNat)]) []
   | _=>none
  | _,_,_=>none
 | .makeFunc (.func f) first caps =>
  match cx.inl f with
  | true =>
   match Nat.beq first.size 0,o0e (caps.toList.map ρ) with
   | true,some l=>k (.v false [.clob f l]) []
   | _,_=>none
  | false =>
  match Nat.beq first.size 0,c1m cx call h (caps.toList.map ρ) with
  | true,some ⟨t,v,lent⟩=>k (.v false [.clo f t v]) (a0i h lent)
  | _,_=>none
 | .makeSlice t l c =>
  match cx.shp t with
  | .slice et =>
   match cx.ty et,h0p (ρ l),h0p (ρ c) with
   | some e,some n,some m =>
    match i0b e,e0f cx et e&&Nat.blt 0 (cx.bytes et) with
    | some z,true =>
     must (decide (0≤n)&&(decide (n≤m)&&decide (m*(cx.bytes et:Int)≤140737488355328)))
      (k (.v false [.lall nm ver]) [(nm,ver,some (.arr e (List.replicate n.toNat z) false))])
    | _,_=>none
   | _,_,_=>none
  | _=>none
 | .slice t x lo hi mx =>
  match cx.shp t with
  | .str=>u0z (ρ x) (lo.map ρ) (hi.map ρ) (mx.map ρ) fun c=>k (.v false [c]) []
  | .slice et=>match cx.info et with | some _=>v0d cx h et (ρ x) (lo.map ρ) (hi.map ρ) (mx.map ρ) fun c=>k (.v false [c]) [] | none=>none
  | .arr n et =>
   match isLoc (ρ x) with
   | true=>sliceB cx h n et (ρ x) (lo.map ρ) (hi.map ρ) (mx.map ρ) fun c u=>k (.v false [c]) u
   | false=>v0b cx h n et (ρ x) (lo.map ρ) (hi.map ρ) (mx.map ρ) fun c=>k (.v false [c]) []
  | _=>none
 | .fieldAddr s x f =>
  match n0g cx s f,ρ x with
  | some (off,ft),.v false [c] =>
   bif Nat.beq (cx.cells ft) 0 then none else
   match c with
   | .loc n v o=>k (.v false [.loc n v (o+off)]) []
   | .pin t v o=>k (.v false [.pin t v (o+off)]) []
   | .lel n v i o=>k (.v false [.lel n v i (o+off)]) []
   | _=>none
  | _,_=>none
 | .field s x f =>
  match n0g cx s f,ρ x with
  | some (off,ft),.v true cs =>
   match cx.ty ft with
   | some c=>match cut cs off (width c) with | some c'=>k (.v (agg c) c') [] | none=>none
   | none=>none
  | _,_=>none
 | .indexAddr t x i =>
  match h0p (ρ i) with
  | some n=>i0a cx h t (deRow (ρ x)) n fun c=>k (.v false [c]) []
  | none=>none
 | .index t x i =>
  match h0p (ρ i) with
  | some n=>v0z cx t (ρ x) n fun v=>k v []
  | none=>none
 | .extract x i =>
  match ρ x with
  | .tup vs=>match vs[i]? with | some (a,cs)=>k (.v a cs) [] | none=>none
  | _=>none
 | .makeMap t none =>
  match cx.ty t with
  | some (.mp kt e)=>k (.v false [.sl nm ver]) [(nm,ver,some (.sealed nm ver ver (.mp kt e) [] none false))]
  | _=>none
 | .lookup t x i ok =>
  match cx.shp t,ρ x,ρ i with
  | .map kt et,.v false [.sl n v0],.v false [.val kc key] =>
   match h[n]? with
   | some (ver',some (.sealed n' base top (.mp ck (.ref e)) xs none false)) =>
    if n=n'∧base≤v0∧v0≤top∧top=ver' then
     match b0p (a:=kc) (b:=ck) key with
     | some key=>must (!ok&&(z0o cx kt ck&&isPtr (cx.ty et))) (b1o fx h o n ver' base ck e xs key k)
     | none=>none
    else none
   | some (ver',some (.sealed n' base top (.mp ck (.int kd)) xs none false)) =>
    if n=n'∧base≤v0∧v0≤top∧top=ver' then
     match b0p (a:=kc) (b:=ck) key with
     | some key=>must (z0o cx kt ck&&intTy (cx.ty et) kd) (k (lookI ok ck kd xs key) [])
     | none=>none
    else none
   | _=>none
  | _,_,_=>none
 | .mapUpdate t m i v =>
  match cx.shp t,ρ m,ρ i,ρ v with
  | .map kt _,.v false [.sl n v0],.v false [.val kc key],.v false [c] =>
   match h[n]? with
   | some (ver',some (.sealed n' base top (.mp ck e) xs none false)) =>
    if n=n'∧base≤v0∧v0≤top∧top=ver' then
     match b0p (a:=kc) (b:=ck) key with
     | some key=>must (z0o cx kt ck&&(Nat.beq (width e) 1 && !agg e)) <|
      must (noTk e) <|
      (b0b cx call h e [c]).bind fun y =>
       match y.2.1 with
       | []=>must (apartB (n::y.2.2.1) y.2.2.2)
         (k .undef (c0k h y.2.2.1++a0i h y.2.2.2++[(n,ver'+1,some (.sealed n base (ver'+1) (.mp ck e) (mput ck e xs key y.1) none false))]))
       | _=>none
     | none=>none
    else none
   | _=>none
  | _,_,_,_=>none
 | .call c =>
  match c.callee with
  | .builtin b=>n0l cx call fx h o b c.argTypes (c.args.toList.map ρ) k
  | .value (.func f)=>match cx.ext f with | some e=>extK e (c.args.toList.map ρ) k | none=>g1h cx call fx h o f (c.args.toList.map ρ) k
  | .value x=>match ρ x with | .v false [c']=>g1g cx call h c' (c.args.toList.map ρ) k | _=>none
  | .invoke _ _=>none
 | _=>none
def putV (t:List (Nat×V)) (dst:Option Nat) (v:V):List (Nat×V):=match dst with | some d=>(d,v)::t | none=>t
def w0b (ops:List Oper) (o:Oper) (st:St) (k:Bool→St→Option R):Option R :=
 match o.guard with
 | none=>k true st
 | some (j,want) =>
  match (ops[j]?).bind (·.dst) with
  | none=>none
  | some g =>
   match getT st.t g with
   | .v false [.val .bool b] =>
    bif b then k want { st with t:=(g,.v false [.val .bool true])::st.t } else k (!want) { st with t:=(g,.v false [.val .bool false])::st.t }
   | .undef=>k false st
   | _=>none
def fresh (o:Oper):List Nat :=
 match o.dst with
 | none=>[]
 | some _ =>
  match o.op with
  | .alloc _ | .box _ _ | .makeSlice _ _ _ | .makeMap _ _=>[nmOf fx o]
  | .lookup t _ _ _=>match cx.ty t with | some (.mp _ e)=>(List.range (wants e)).map (nmOf fx o + ·) | _=>[]
  | .buildSlice _ _ _ | .convert _ _ _=>if u0g fx o then [nmOf fx o] else []
  | .load _ _=>[nmOf fx o]
  | .call { callee := .builtin .append,.. }=>[nmOf fx o]
  | .call { callee := .value (.func f),.. } =>
   match cx.sig f with
   | some s=>(List.range ((s.rs.map wants).sum+(s.back.filterMap fun i=>(s.ps[i]?).map inner).sum)).map (nmOf fx o + ·)
   | none=>[]
  | _=>[]
def g1x (o:Oper) (ρ:Operand→V) (h:Heap) (k:List Nat→List Nat→Option R):Option R :=
 let all (kk:List Nat→Option R):Option R:=w0f h 4 (o.op.operands.toList.flatMap fun x=>namesV (ρ x)) kk
 let wr:Option R:=all fun ns=>q0y (fresh cx fx o) fun fr=>k [] (ns++fr)
 let rd:Option R:=all fun ns=>k ns []
 match o.op with
 | .move _ | .assign _ | .pick _ _ _ | .build _ _ | .nilCheck _ | .binOp _ _ _ _ _ | .unOp _ _ _ | .fieldAddr _ _ _ | .field _ _ _ | .index _ _ _ | .extract _ _=>k [] []
 | .load _ a=>match a1u (ρ a) with | some _=>wr | none=>w0f h 0 (namesV (ρ a)) fun ns=>k ns []
 | .indexAddr _ _ _=>rd
 | .slice _ x _ _ _=>match isLoc (ρ x) with | true=>wr | false=>rd
 | .alloc _ | .box _ _ | .makeSlice _ _ _=>q0y (fresh cx fx o) fun fr=>k [] fr
 | .convert _ _ _=>match u0g fx o with | true=>wr | false=>rd
 | .call { callee := .builtin .len,.. } | .call { callee := .builtin .min,.. } | .call { callee := .builtin .max,.. }=>rd
 | .call { callee := .value (.func f),.. } =>
  match cx.sig f with
  | some s=>match s.back.isEmpty&&s.ps.all (fun p=>Nat.beq (wants p) 0) && !shares (cx.out f) with
   | true=>all fun ns=>q0y (fresh cx fx o) fun fr=>k ns fr
   | false=>wr
  | none=>wr
 | _=>wr
def restrict (h:Heap) (ns:List Nat):Heap:=h.zipIdx.map fun x=>if hasN ns x.2 then x.1 else (0,none)
def meet (a b:List Nat):Bool:=a.any (hasN b)
abbrev Tr:=List (Nat×List Nat×List Nat)
def clash (a b:List Nat×List Nat):Bool:=meet a.2 (b.1++b.2)||meet b.2 a.1
def g1m (acc:List Nat) (o:Oper):Nat:=o.after.toList.foldl (fun s e=>match Region.binds .any e with | true=>Nat.lor s (Nat.lor (Nat.shiftLeft 1 e.on) (acc.getD e.on 0)) | false=>s) 0
def befs:List Oper→List Nat→List Nat
 | [],acc=>acc
 | o::r,acc=>befs r (acc++[g1m acc o])
def ordered (bs:List Nat) (i j:Nat):Bool:=Nat.beq (Nat.land (Nat.shiftRight (bs.getD j 0) i) 1) 1
def q0o (bs:List Nat):Tr→Bool
 | []=>true
 | (i,s)::r=>r.all (fun y => !clash s y.2||ordered bs i y.1)&&q0o bs r
def looks (ops:List Oper) (o:Oper):List Nat :=
 (o.op.operands.toList.filterMap fun | .tmp t=>some t | _=>none) ++
 (match o.guard with | some (g,_)=>((ops[g]?).bind (·.dst)).toList | none=>[])
def d0m:List Oper→Nat→Nat→Option Nat
 | [],_,_=>none
 | o::r,s,i =>
  match o.dst with
  | some d=>bif Nat.beq d s then some i else d0m r s (i+1)
  | none=>d0m r s (i+1)
def d1h (ops:List Oper) (bs:List Nat) (j s:Nat):Bool :=
 match d0m ops s 0 with
 | none=>true
 | some i=>Nat.beq i j||(ordered bs i j||ordered bs j i)
def t0e (ops:List Oper) (bs:List Nat):List Oper→Nat→Bool
 | [],_=>true
 | o::r,j=>(looks ops o).all (d1h ops bs j)&&t0e ops bs r (j+1)
def g1n:List Oper→Nat→Bool
 | [],_=>true
 | o::r,j=>(o.after.toList.all fun e=>match Region.binds .any e with | true=>Nat.blt e.on j | false=>true)&&g1n r (j+1)
def z0z (ops:List Oper):Bool:=nodupB (ops.filterMap (·.dst))&&(t0e ops (befs ops []) ops 0&&g1n ops 0)
def o0v (i:Nat) (s1 s2:List Nat) (tr:Tr):Tr :=
 match s1,s2 with
 | [],[]=>tr
 | s1,s2=>(i,s1,s2)::tr
def inlOf (o:Oper):Option FuncId :=
 match o.op with
 | .call c=>match c.callee with | .value (.func f)=>bif cx.inl f then some f else none | _=>none
 | _=>none
def r0x (o:Oper):Array Operand :=
 match o.op with
 | .call c=>c.args
 | _ => #[]
def cloOf (o:Oper) (ρ:Operand→V):Option (FuncId×List V) :=
 match o.op with
 | .call c =>
  match c.callee with
  | .value (.tmp t) =>
   match ρ (.tmp t) with
   | .v false [.clob f caps]=>some (f,c.args.toList.map ρ++caps.map fun p => .v false [.loc p.1 p.2 0])
   | _=>none
  | _=>none
 | _=>none
def c1d (all:List Oper):List Oper→St→(St→Option R)→Option R
 | [],st,k=>k st
 | o::r,st,k =>
  w0b all o st fun run st =>
   match run with
   | true =>
    match inlOf cx o with
    | some f=>call.inl R f ((r0x o).toList.map (opnd cx st)) st.h (nmOf fx o) fun v h'=>c1d all r { t:=putV st.t o.dst v,h:=h' } k
    | none =>
     match cloOf o (opnd cx st) with
     | some p=>call.inl R p.1 p.2 st.h (nmOf fx o) fun v h'=>c1d all r { t:=putV st.t o.dst v,h:=h' } k
     | none=>evOp cx call fx o (opnd cx st) st.h fun v u=>match u.all (fun x=>Nat.blt x.1 st.h.length) with | true=>c1d all r { t:=putV st.t o.dst v,h:=a0u st.h u } k | false=>none
   | false=>c1d all r { st with t:=putV st.t o.dst .undef } k
def z0w (all:List Oper):List Oper→Nat→St→Tr→(St→Tr→Option R)→Option R
 | [],_,st,tr,k=>k st tr
 | o::r,i,st,tr,k =>
  w0b all o st fun run st =>
   match run with
   | true =>
    g1x cx fx o (opnd cx st) st.h fun s1 s2 =>
     evOp cx call fx o (opnd cx st) (restrict st.h (s1++s2)) fun v u =>
      match u.all (fun x=>hasN s2 x.1&&Nat.blt x.1 st.h.length) with
      | true=>z0w all r (i+1) { t:=putV st.t o.dst v,h:=a0u st.h u } (o0v i s1 s2 tr) k
      | false=>none
   | false=>z0w all r (i+1) { st with t:=putV st.t o.dst .undef } tr k
def x0r (ops:List Oper) (draw:Bool) (st:St) (k:St→Option R):Option R :=
 match draw with
 | false=>c1d cx call fx ops ops st k
 | true=>if z0z ops then z0w cx call fx ops ops 0 st [] fun st tr=>if q0o (befs ops []) tr.reverse then k st else none else none
def y0v {R:Type} (i:Int):List Int→(Int→Option R)→Option R→Option R
 | [],_,d=>d
 | j::r,f,d=>bif decide (i=j) then f j else y0v i r f d
theorem s0w {R:Type} {i:Int} {r:R} {f:Int→Option R} {d:Option R}:∀ {ns:List Int},y0v i ns f d=some r→f i=some r∨d=some r:=by
 intro ns;induction ns with
 | nil=>exact .inr
 | cons j ns ih =>
  intro h;unfold y0v at h;by_cases e:i=j
  ·subst e;simp at h;exact .inl h
  ·simp[e] at h;exact ih h
def setT:List (Nat×V)→Nat→V→List (Nat×V)
 | [],_,_=>[]
 | (m,v)::r,s,w=>bif Nat.beq m s then (m,w)::r else (m,v)::setT r s w
theorem h1w:∀(t:List (Nat×V)) (s:Nat),setT t s (getT t s)=t:=by
 intro t;induction t with
 | nil=>intro s;rfl
 | cons x t ih =>
  intro s;obtain ⟨m,v⟩:=x;unfold setT getT;cases h:Nat.beq m s with
  | true=>simp
  | false=>simp[ih]
def w0y {R:Type} (fx:Hints) (st:St) (k:St→Option R):Option R :=
 match fx.split with
 | none=>k st
 | some (s,ns) =>
  match getT st.t s with
  | .v false [.val (.int kd) i]=>y0v i ns (fun j=>k { st with t:=setT st.t s (.v false [.val (.int kd) j]) }) none
  | _=>k st
theorem q0u {R:Type} {fx:Hints} {st:St} {k:St→Option R} {r:R} (h:w0y fx st k=some r):k st=some r:=by
 unfold w0y at h;cases hsp:fx.split with
 | none=>rw[hsp] at h;exact h
 | some sn =>
  obtain ⟨s,ns⟩:=sn;rw[hsp] at h;dsimp only at h;split at h
  ·rename_i kd i hs;rcases s0w h with h | h
   ·rw[←hs,h1w] at h;exact h
   ·cases h
  ·exact h
def e1a {R:Type}:List (Nat×Nat)→St→(St→Option R)→Option R
 | [],st,k=>k st
 | (s,m)::r,st,k =>
  match getT st.t m with
  | .v false [.lall n ver] =>
   match st.h[n]? with
   | some (ver',some (.arr _ _ _))=>if ver=ver' then e1a r { st with t:=(s,.v false [.lall n ver])::st.t } k else none
   | _=>none
  | _=>none
def sameRow:V→V→Bool
 | .v false [.lall n k],.v false [.lall m j]=>Nat.beq n m&&Nat.beq k j
 | _,_=>false
def e1b (al:List (Nat×Nat)) (st:St):Bool:=al.all fun p=>sameRow (getT st.t p.1) (getT st.t p.2)
def t0u (h:Heap) (off:Nat):V→Option Cell
 | .v false [.loc n ver 0] =>
  match h[n]? with
  | some (ver',some (.box _ cs _))=>if ver=ver' then cs[off]? else none
  | _=>none
 | _=>none
def falK {R:Type}:List (Nat×Nat×Nat)→St→(St→Option R)→Option R
 | [],st,k=>k st
 | (s,m,off)::r,st,k =>
  match t0u st.h off (getT st.t m) with
  | some (.lall n ver) =>
   match st.h[n]? with
   | some (ver',some (.arr _ _ _))=>if ver=ver' then falK r { st with t:=(s,.v false [.lall n ver])::st.t } k else none
   | _=>none
  | _=>none
def falB (al:List (Nat×Nat×Nat)) (st:St):Bool:=al.all fun p=>match t0u st.h p.2.2 (getT st.t p.2.1) with | some c=>sameRow (getT st.t p.1) (.v false [c]) | none=>false
def c1n (t:List (Nat×V)) (ms:List Nat):Option (List (Nat×Nat)):=o0e (ms.map (getT t))
def clsK {R:Type}:List (Nat×Option Nat×List Nat)→St→(St→Option R)→Option R
 | [],st,k=>k st
 | (s,some f,ms)::r,st,k =>
  match c1n st.t ms with
  | some l=>clsK r { st with t:=(s,.v false [.clob f l])::st.t } k
  | none=>none
 | (s,none,ms)::r,st,k =>
  match slOf (getT st.t (ms.headD 0)) with
  | some p=>clsK r { st with t:=(s,.v false [.sl p.1 p.2])::st.t } k
  | none=>none
def i1b (f:Nat) (l:List (Nat×Nat)):V→Bool
 | .v false [.clob g l']=>Nat.beq f g&&decide (l=l')
 | _=>false
def sameSl:Option (Nat×Nat)→Option (Nat×Nat)→Bool
 | some p,some q=>Nat.beq p.1 q.1&&Nat.beq p.2 q.2
 | _,_=>false
def clsB (al:List (Nat×Option Nat×List Nat)) (st:St):Bool:=al.all fun p =>
 match p.2.1 with
 | some f=>match c1n st.t p.2.2 with | some l=>i1b f l (getT st.t p.1) | none=>false
 | none=>sameSl (slOf (getT st.t p.1)) (slOf (getT st.t (p.2.2.headD 0)))
def ownfB (l:List (Nat×Nat)) (st:St):Bool:=l.all fun p=>match t0u st.h p.2 (getT st.t p.1) with | some (.lall _ _)=>true | some (.lsl _ _ _ _)=>true | _=>false
def b0d (l:List (Nat×Ty)):Ty:=tupU (l.map (·.2))
def g0u (st:St):(l:List (Nat×Ty))→Option (El (b0d l)×List Nat)
 | []=>some ((),[])
 | (s,t)::r =>
  match getT st.t s with
  | .v a cs =>
   if a=agg t then
    (f0y cx call st.h t cs).bind fun x=>(g0u st r).map fun y=>((x.1,y.1),x.2.1++x.2.2++y.2)
   else none
  | _=>none
def c1g (st:St):List (Nat×Ty)→List (Nat×Nat)
 | []=>[]
 | (s,t)::r=>match getT st.t s with
  | .v _ cs=>g0y st.h t cs++c1g st r
  | _=>c1g st r
def pinB (top:Nat) (h:Heap) (l:List (Nat×Nat)):Bool:=l.all fun p=>Nat.beq p.2 p.1&&(Nat.beq (a0h h p.1) 1&&Nat.blt p.1 top)
def j0v (st:St) (l:List (Nat×Ty)):Option (El (b0d l)) :=
 match g0u cx call st l with
 | some (x,ns)=>if nodupB ns then must (pinB fx.top st.h (c1g st l)) (some x) else none
 | none=>none
def b0w (h:Heap):List (Nat×Nat×Blk)→Heap
 | []=>h
 | (n,ver,b)::r=>b0w (h.set n (ver,some b)) r
def tkOk (top:Nat) (h:Heap) (t:Ty):Bool:=(tkNs t).all fun d=>Nat.blt d top&&Nat.beq (a0h h d) 1
def d1p (h:Heap) (bs:List (Nat×Nat×Blk)):Bool:=bs.all (fun b=>Nat.blt b.1 h.length)&&nodupB (bs.map (·.1))
def k0j (top:Nat):(l:List (Nat×Ty))→El (b0d l)→List (Nat×V)→Heap→Nat→(St→Option R)→Option R
 | [],_,t,h,_,k=>k ⟨t,h⟩
 | (s,ty)::r,x,t,h,nm,k=>b0v h dm1 ty x.1 [] nm fun cs bs nm=>must (d1p h bs&&tkOk top h ty) (k0j top r x.2 ((s,.v (agg ty) cs)::t) (b0w h bs) nm k)
def f1n:Nat→Heap→Heap
 | 0,h=>h
 | _+1,[]=>[]
 | n+1,_::h=>(1,none)::f1n n h
def o0a (fx:Hints) (top:Nat):Heap:=f1n top (List.replicate fx.size (0,none))
def h0s (fx:Hints) (l:List (Nat×Ty)) (x:El (b0d l)) (k:St→Option R):Option R :=
 k0j fx.top l x [] (o0a fx fx.top) fx.top k
def c0o:Code→Option Nat
 | .region id _ _=>some id
 | .seq a b=>match c0o a with | some n=>some n | none=>c0o b
 | .cond _ a b=>match c0o a with | some n=>some n | none=>c0o b
 | .block _ a=>c0o a
 | .loop a=>c0o a
 | .scope a=>c0o a
 | _=>none
def hintOf (body:Code):Option LoopH :=
 match c0o body with
 | some n=>(fx.loops.find? fun x=>Nat.beq x.1 n).map (·.2)
 | none=>none
def spin (ev:St→(Exit→St→Option R)→Option R):Nat→St→(Exit→St→Option R)→Option R
 | 0,_,_=>none
 | n+1,st,k=>ev st fun e st =>
  match e with
  | .normal=>spin ev n st k
  | e=>k e st
def a0b:Nat:=2^70
def f1k {Rf : Type} (hh : LoopH) (ret : St → Option Rf) (ev : St → (Exit → St → Option (El (b0d hh.outs) ⊕ Rf)) → Option (El (b0d hh.outs) ⊕ Rf)) :
    Nat→El (b0d hh.live)→Option (El (b0d hh.outs) ⊕ Rf)
 | 0,_=>none
 | n+1,x=>h0s fx hh.live x fun st=>e1a hh.alias st fun st=>falK hh.fal st fun st=>clsK hh.cls st fun st=>ev st fun e st =>
  match e with
  | .normal=>must (e1b hh.alias st&&(falB hh.fal st&&clsB hh.cls st)) ((j0v cx call fx st hh.live).bind fun y=>f1k hh ret ev n y)
  | .exit id=>if id=hh.exit then must (clsB hh.cls st) ((j0v cx call fx st hh.outs).map .inl) else none
  | .ret=>(ret st).map .inr
  | _=>none
end
def parK:List Nat→(e:Ty)→El e→List (Nat×V)→Option (List (Nat×V))
 | [],.unit,_,t=>some t
 | p::ps,.pair a b,y,t=>parK ps b y.2 ((p,toV a y.1)::t)
 | _,_,_,_=>none
def seqF (live : List (Nat × Ty)) (e : Ty) (ps : List Nat) (ev : St → (St → Option (El (b0d live))) → Option (El (b0d live))) :
    List (El e)→El (b0d live)→Option (El (b0d live))
 | [],x=>some x
 | y::r,x=>(h0s fx live x fun st=>(parK ps e y st.t).bind fun t=>ev { st with t:=t } fun st=>j0v cx call fx st live).bind fun z=>seqF live e ps ev r z
def onN {R:Type} (k:St→Option R):Exit→St→Option R
 | .normal,st=>k st
 | _,_=>none
def r0m (L:List Nat):Code→Bool
 | .region _ ops _=>ops.toList.all fun o=>match o.dst with | some d => !hasN L d | none=>true
 | .seq a b=>r0m L a&&r0m L b
 | .cond _ a b=>r0m L a&&r0m L b
 | .block _ a=>r0m L a
 | .loop a=>r0m L a
 | _=>true
def noRF:Code→Bool
 | .seq a b=>noRF a&&noRF b
 | .cond _ a b=>noRF a&&noRF b
 | .block _ a=>noRF a
 | .loop a=>noRF a
 | .scope _=>false
 | .rangeFunc _ _ _ _=>false
 | _=>true
def rangeB (L ps:List Nat) (a b:Code):Bool:=(ps.all fun p => !hasN L p)&&(r0m L a&&(r0m L b&&(noRF a&&noRF b)))
def n0r:Ty→Bool
 | .unit | .bool | .int _ | .str | .err=>true
 | .pair a b=>n0r a&&n0r b
 | .wrap e=>n0r e
 | _=>false
def x0q:Cell→Bool
 | .val t _=>n0r t
 | .pin _ _ _=>false
 | .clo _ _ _=>false
 | .sel _ _ _=>false
 | _=>true
def i0x (c:Cell):Cell:=bif x0q c then c else .dead
def h1h:V→V
 | .v ag cs => .v ag (cs.map i0x)
 | .tup l => .tup (l.map fun p=>(p.1,p.2.map i0x))
 | x=>x
def frAt (h:Heap) (n ver:Nat):Option Bool :=
 match h[n]? with
 | some (v,some (.box _ _ fr))=>bif Nat.beq v ver then some fr else none
 | some (v,some (.arr _ _ fr))=>bif Nat.beq v ver then some fr else none
 | _=>none
def h1l (o:Option Bool):Blk→Option Blk
 | .box t cs false=>some (.box t (cs.map i0x) false)
 | .box t cs true=>o.map fun fr => .box t (cs.map i0x) fr
 | .arr e xs false=>bif n0r e then some (.arr e xs false) else none
 | .arr e xs true=>bif n0r e then o.map fun fr => .arr e xs fr else none
 | .sealed n base top (.sb T e) x hole fr=>some (.sealed n base top (.sb T e) x hole fr)
 | _=>none
def w0t (h0:Heap):Nat→Heap→Heap
 | _,[]=>[]
 | n,(ver,ob)::r=>(ver,match ob with | some B=>h1l (frAt h0 n ver) B | none=>none)::w0t h0 (n+1) r
def thawT (ds:List Nat) (old new:List (Nat×V)):List (Nat×V):=ds.map (fun s=>(s,h1h (getT new s)))++old
def thawSt (ds:List Nat) (st st':St):St:=⟨thawT ds st.t st'.t,w0t st.h 0 st'.h⟩
def k0v:Code→Bool
 | .skip | .ret | .exit _ | .region _ _ _=>true
 | .seq a b=>k0v a&&k0v b
 | .cond _ a b=>k0v a&&k0v b
 | .block _ a=>k0v a
 | _=>false
def q0d:Code→List Nat
 | .region _ ops _=>ops.toList.filterMap (·.dst)
 | .seq a b=>q0d a++q0d b
 | .cond _ a b=>q0d a++q0d b
 | .block _ a=>q0d a
 | _=>[]
def c1q (fx:Hints) (a b:Code):Bool :=
 match fx.thaw with
 | []=>false
 | l=>match c0o b with | some id=>hasN l id&&k0v a | none=>false
def Hints.calm (fx:Hints) (c:Code):Hints :=
 match fx.thaw with
 | []=>fx
 | _=>bif noRF c then fx else { fx with thaw:=[] }
noncomputable def evC (Rf:Type) (ret:St→Option Rf):Code→(R:Type)→(Rf→Option R)→St→(Exit→St→Option R)→Option R
 | .skip,_,_,st,k=>k .normal st
 | .ret,_,_,st,k=>k .ret st
 | .exit id,_,_,st,k=>k (.exit id) st
 | .region _ ops draw,_,_,st,k=>x0r cx call fx ops.toList draw st fun st=>k .normal st
 | .seq a b,R,kr,st,k=>evC Rf ret a R kr st fun e st' =>
  match e with
  | .normal=>evC Rf ret b R kr (bif c1q fx a b then thawSt (q0d a) st st' else st') k
  | e=>k e st'
 | .cond c a b,R,kr,st,k =>
  match opnd cx st c with
  | .v false [.val .bool x]=>bif x then evC Rf ret a R kr st k else evC Rf ret b R kr st k
  | .v false [.anyB]=>both (evC Rf ret a R kr st k) (evC Rf ret b R kr st k)
  | _=>none
 | .label _,_,_,st,k=>k .normal st
 | .scope a,R,kr,st,k=>evC Rf ret a R kr st fun e st =>
  match e with
  | .goto _=>none
  | e=>k e st
 | .block id a,R,kr,st,k=>evC Rf ret a R kr st fun e st =>
  match e with
  | .exit id'=>if id'=id then k .normal st else k (.exit id') st
  | e=>k e st
 | .loop body,R,kr,st,k =>
  match hintOf fx body with
  | none=>spin (fun st k=>evC Rf ret body R kr st k) a0b st k
  | some hh =>
   bif ownfB hh.ownf st then
    must (e1b hh.alias st&&(falB hh.fal st&&clsB hh.cls st)) <|
    (j0v cx call fx st hh.live).bind fun x =>
     (f1k cx call fx hh ret (fun st k=>evC Rf ret body _ (fun r=>some (.inr r)) st k) a0b x).bind fun s =>
      match s with
      | .inl y=>h0s fx hh.outs y fun st=>clsK hh.cls st fun st=>w0y fx st fun st=>k (.exit hh.exit) st
      | .inr r=>kr r
   else spin (fun st k=>evC Rf ret body R kr st k) 1 st k
 | .rangeFunc g ps asg body,_,_,st,k =>
  match hintOf fx body,opnd cx st g with
  | some hh,.v false [.sl n v0] =>
   match st.h[n]? with
   | some (ver,some (.sealed n' base top (.seq e) xs none false)) =>
    if n=n'∧base≤v0∧v0≤top∧top=ver then
     must (rangeB (hh.live.map (·.1)) ps.toList asg body) <|
     (j0v cx call fx { st with h:=st.h.set n (ver,none) } hh.live).bind fun x =>
      (seqF cx call fx hh.live e ps.toList (fun st k=>evC Rf ret asg _ (fun _=>none) st (onN fun st=>evC Rf ret body _ (fun _=>none) st (onN k))) xs x).bind fun z =>
       h0s fx hh.live z fun st=>w0y fx st fun st=>k .normal st
    else none
   | _=>none
  | _,_=>none
 | _,_,_,_,_=>none
def d1v {R:Type} (top:Nat):(ps:List Ty)→El (tupU ps)→Heap→Nat→(List V→Heap→Nat→Option R)→Option R
 | [],_,h,nm,k=>k [] h nm
 | p::ps,x,h,nm,k=>b0v h dm1 p x.1 [] nm fun cs bs nm=>must (d1p h bs&&tkOk top h p) (d1v top ps x.2 (b0w h bs) nm fun vs h nm=>k (.v (agg p) cs::vs) h nm)
def d0q (h:Heap) (t:List (Nat×V)):List ResultVar→List Ty→Option (List Cell)
 | [],[]=>some []
 | .tmp s::r,ty::ts =>
  match getT t s with
  | .v a cs=>if a=agg ty∧cs.length=width ty then (d0q h t r ts).map (cs ++ ·) else none
  | _=>none
 | .cell s ct::r,ty::ts =>
  match deRow (getT t s),cx.ty ct with
  | .v false [a],some c=>if agg c=agg ty∧width c=width ty then loadR (R:=List Cell) h (width c) a fun cs=>(d0q h t r ts).map (cs ++ ·) else none
  | _,_=>none
 | _,_=>none
def p0b:V→Cell
 | .v _ (c::_)=>c
 | _ => .dead
def retK (fn:Func) (s:Sig) (st:St):Option (El (tup (s.rs++s.back.filterMap (s.ps[·]?)))) :=
 match d0q cx st.h st.t fn.results.toList s.rs with
 | some cs =>
  match f0y cx call st.h (tup (s.rs++s.back.filterMap (s.ps[·]?))) (cs++s.back.map fun i=>p0b (getT st.t i)) with
  | some (x,taken,lent)=>if apartB taken lent then must (pinB (w0s s.ps) st.h (g0y st.h (tup (s.rs++s.back.filterMap (s.ps[·]?))) (cs++s.back.map fun i=>p0b (getT st.t i)))) (some x) else none
  | none=>none
 | none=>none
end
def numbered:Nat→List V→List (Nat×V)
 | _,[]=>[]
 | i,v::r=>(i,v)::numbered (i+1) r
def z0y (nt:Nat) (K:List Nat) (ops:List Oper):Bool:=ops.all fun o=>match o.dst with | some d=>Nat.blt d nt && !hasN K d | none=>true
def b0y (nt:Nat) (K:List Nat):Code→Bool
 | .region _ ops _=>z0y nt K ops.toList
 | .seq a b=>b0y nt K a&&b0y nt K b
 | .cond _ a b=>b0y nt K a&&b0y nt K b
 | .block _ a=>b0y nt K a
 | .loop a=>b0y nt K a
 | .scope a=>b0y nt K a
 | .rangeFunc _ ps a b=>(ps.toList.all fun p=>Nat.blt p nt && !hasN K p)&&(b0y nt K a&&b0y nt K b)
 | _=>true
def isRef:Option Ty→Bool
 | some (.ref _)=>true
 | some (.tref _ _)=>true
 | some (.own _)=>true
 | some (.seg _)=>true
 | some (.sb _ _)=>true
 | some (.mp _ _)=>true
 | _=>false
def okBody (s:Sig) (nt:Nat) (c:Code):Bool:=b0y nt s.back c&&(Nat.ble s.ps.length nt&&s.back.all fun i=>isRef s.ps[i]?)
def Hints.stopped (fx:Hints):Hints := { fx with loops:=fx.loops.map fun x=>(x.1,⟨[(1000000000,.unit)],0,[],[],[],[],[]⟩) }
def splitK {R:Type} (fx:Hints) (vs:List V) (run:Hints→List V→Option R):Option R :=
 match fx.split with
 | none=>run fx vs
 | some (s,ns) =>
  match vs[s]? with
  | some (.v false [.val (.int k) i])=>y0v i ns (fun j=>run fx (vs.set s (.v false [.val (.int k) j]))) (run fx.stopped vs)
  | _=>none
theorem a1s {R:Type} {fx:Hints} {vs:List V} {run:Hints→List V→Option R} {r:R} (h:splitK fx vs run=some r):∃fx',fx'.top=fx.top∧run fx' vs=some r:=by
 unfold splitK at h;cases hsp:fx.split with
 | none=>rw[hsp] at h;exact ⟨_,rfl,h⟩
 | some sn =>
  obtain ⟨s,ns⟩:=sn;rw[hsp] at h;dsimp only at h;split at h
  ·rename_i k i hs;rcases s0w h with h | h
   ·rw[show vs.set s (.v false [.val (.int k) i])=vs by
     obtain ⟨hl,e⟩:=List.getElem?_eq_some_iff.1 hs
     rw[←e];exact List.set_getElem_self hl] at h
    exact ⟨_,rfl,h⟩
   ·exact ⟨fx.stopped,rfl,h⟩
  ·cases h
noncomputable def body (cx:Cx) (call:Oracle cx) (f:FuncId) (x:El (cx.arg f)):Option (El (cx.out f)) :=
 match cx.sig f,cx.P.funcs[f]? with
 | some s,some fn =>
  match fn.body,b0p (a:=cx.arg f) (b:=tupU s.ps) x with
  | some c,some x =>
   must (okBody s fn.ntmps c&&Nat.ble (w0s s.ps) (cx.hints f).top) <|
   d1v (w0s s.ps) s.ps x (o0a (cx.hints f) (w0s s.ps)) (cx.hints f).top fun vs h _ =>
    let ret (st:St):Option (El (tup (s.rs++s.back.filterMap (s.ps[·]?)))):=retK cx call fn s st
    splitK (cx.hints f) vs fun fx vs=>evC cx call (fx.calm c) _ ret c _ (fun r=>b0p (a:=tup (s.rs++s.back.filterMap (s.ps[·]?))) (b:=cx.out f) r)
     ⟨numbered 0 vs,h⟩ fun e st =>
      match e with
      | .normal | .ret=>(ret st).bind fun r=>b0p (a:=tup (s.rs++s.back.filterMap (s.ps[·]?))) (b:=cx.out f) r
      | _=>none
  | _,_=>none
 | _,_=>none
def x0n (cx:Cx) (h:Heap) (t:List (Nat×V)):List ResultVar→Option (List (Bool×List Cell))
 | []=>some []
 | .tmp s::r =>
  match getT t s with
  | .v a cs=>(x0n cx h t r).map ((a,cs) :: ·)
  | _=>none
 | .cell s ct::r =>
  match deRow (getT t s),cx.ty ct with
  | .v false [a],some c=>loadR (R:=List (Bool×List Cell)) h (width c) a fun cs=>(x0n cx h t r).map ((agg c,cs) :: ·)
  | _,_=>none
def Hints.shift (fx:Hints) (nm:Nat):Hints := { size:=fx.size,names:=fx.names.map fun x=>(x.1,bif Nat.blt x.2 fx.top then x.2 else x.2+nm),own:=fx.own,loops:=[],split:=none,thaw:=[],top:=fx.top }
noncomputable def inBody (cx:Cx) (call:Oracle cx) (R:Type) (f:FuncId) (args:List V) (h:Heap) (nm:Nat) (k:V→Heap→Option R):Option R :=
 match cx.P.funcs[f]? with
 | some fn =>
  match fn.body with
  | some c =>
   must (cx.inl f&&((cx.sig f).isSome&&(b0y fn.ntmps [] c&&Nat.ble args.length fn.ntmps))) <|
   evC cx call ((cx.hints f).shift nm) Empty (fun _=>none) c R (fun x=>nomatch x) ⟨numbered 0 args,h⟩ fun e st =>
    match e with
    | .normal | .ret=>(x0n cx st.h st.t fn.results.toList).bind fun l=>k (resV l) st.h
    | _=>none
  | none=>none
 | none=>none
def handF (cx:Cx) (H:Hand) (f:FuncId) (x:El (cx.arg f)):Option (El (cx.out f)) :=
 (b0p (a:=cx.arg f) (b:=H.a) x).bind fun y=>(H.g y).bind fun z=>b0p (a:=H.r) (b:=cx.out f) z
noncomputable def evF (cx:Cx):Nat→Oracle cx
 | 0=>⟨fun _ _=>none,fun _ _ _ _ _ _=>none⟩
 | n+1=>⟨fun f x=>match cx.hand f with | none=>body cx (evF cx n) f x | some H=>handF cx H f x,inBody cx (evF cx n)⟩
def findLoop (id:Nat):Code→Option Code
 | .seq a b=>match findLoop id a with | some c=>some c | none=>findLoop id b
 | .cond _ a b=>match findLoop id a with | some c=>some c | none=>findLoop id b
 | .block _ a=>findLoop id a
 | .scope a=>findLoop id a
 | .loop a=>if c0o a=some id then some a else findLoop id a
 | .rangeFunc _ _ a b=>match findLoop id a with | some c=>some c | none=>findLoop id b
 | _=>none
def m0k (id:Nat):Code→Option (List Nat×Code×Code)
 | .seq a b=>match m0k id a with | some c=>some c | none=>m0k id b
 | .cond _ a b=>match m0k id a with | some c=>some c | none=>m0k id b
 | .block _ a=>m0k id a
 | .scope a=>m0k id a
 | .loop a=>m0k id a
 | .rangeFunc _ ps a b=>if c0o b=some id then some (ps.toList,a,b) else none
 | _=>none
instance:Inhabited LoopH:=⟨⟨[],0,[],[],[],[],[]⟩⟩
def w0a (cx:Cx) (K id:Nat):LoopH:=((((cx.hints K).loops.find? fun x=>Nat.beq x.1 id).map (·.2))).getD default
def r0f (cx:Cx) (K:Nat):Sig:=(cx.sig K).getD default
def Sig.full (s:Sig):Ty:=tup (s.rs++s.back.filterMap (s.ps[·]?))
noncomputable def d0p (cx:Cx) (call:Oracle cx) (K id:Nat) (f:Nat) (x:El (b0d (w0a cx K id).live)) :
  Option (El (b0d (w0a cx K id).outs) ⊕ El (r0f cx K).full) :=
 match cx.P.funcs[K]? with
 | some fn =>
  match (fn.body).bind (findLoop id) with
  | some c =>
   f1k cx call (cx.hints K) (w0a cx K id) (fun st=>retK cx call fn (r0f cx K) st)
    (fun st k=>evC cx call (cx.hints K) _ (fun st=>retK cx call fn (r0f cx K) st) c _ (fun r=>some (.inr r)) st k) f x
  | none=>none
 | none=>none
noncomputable def runSeq (cx:Cx) (call:Oracle cx) (K id:Nat) (e:Ty) (xs:List (El e)) (x:El (b0d (w0a cx K id).live)):Option (El (b0d (w0a cx K id).live)) :=
 match cx.P.funcs[K]? with
 | some fn =>
  match (fn.body).bind (m0k id) with
  | some (ps,asg,c) =>
   seqF cx call (cx.hints K) (w0a cx K id).live e ps
    (fun st k=>evC cx call (cx.hints K) _ (fun st=>retK cx call fn (r0f cx K) st) asg _ (fun _=>none) st (onN fun st=>evC cx call (cx.hints K) _ (fun st=>retK cx call fn (r0f cx K) st) c _ (fun _=>none) st (onN k))) xs x
  | none=>none
 | none=>none
noncomputable def tif {α:Type} (b:Bool) (x y:α):α:=Bool.rec (motive:=fun _=>α) y x b
noncomputable def a0c {α β:Type} (o:Option α) (f:α→Option β):Option β:=Option.rec (motive:=fun _=>Option β) none f o
noncomputable def oelim {α β:Type} (o:Option α) (x:β) (f:α→β):β:=Option.rec (motive:=fun _=>β) x f o
noncomputable def f0v {α β γ:Type} (f:α→γ) (g:β→γ) (s:α ⊕ β):γ:=Sum.rec (motive:=fun _=>γ) f g s
@[simp] theorem tif_true {α:Type} (x y:α):tif true x y=x:=Eq.trans rfl rfl
@[simp] theorem g1z {α:Type} (x y:α):tif false x y=y:=Eq.trans rfl rfl
@[simp] theorem f1f {α β:Type} (x:α) (f:α→Option β):a0c (some x) f=f x:=Eq.trans rfl rfl
@[simp] theorem p0z {α β:Type} (a:α) (x:β) (f:α→β):oelim (some a) x f=f a:=Eq.trans rfl rfl
@[simp] theorem c0f {α β γ:Type} (f:α→γ) (g:β→γ) (a:α):f0v f g (.inl a)=f a:=Eq.trans rfl rfl
@[simp] theorem y0l {α β γ:Type} (f:α→γ) (g:β→γ) (b:β):f0v f g (.inr b)=g b:=Eq.trans rfl rfl
theorem f0t {α:Type} (b:Bool) (x y:α):tif b x y=if b=true then x else y:=by cases b<;>rfl
end Go.Flat
end
section
namespace Go.Flat
open Go.RowKit (Below)
abbrev Get:=Nat→Option Value
def one (v:Value):Get:=fun j=>v.cells[j]?
def mem (W:World) (b off:Nat):Get:=fun j=>W.cell? ⟨b,off+j,none⟩
abbrev Fz:=Nat→Prop
structure Later (W:World) (F:Fz) (W':World) (F':Fz):Prop where
 os:W'.os=W.os
 tape:W'.tape=W.tape
 output:W'.output=W.output
 size:W.heap.size≤W'.heap.size
 keep:∀b,F b→W'.heap[b]? = W.heap[b]?
 more:∀b,F b→F' b
theorem Later.refl (W:World) (F:Fz):Later W F W F:=⟨rfl,rfl,rfl,Nat.le_refl _,fun _ _=>rfl,fun _ h=>h⟩
theorem Later.trans {W W1 W2:World} {F F1 F2:Fz} (h:Later W F W1 F1) (k:Later W1 F1 W2 F2):Later W F W2 F2 :=
 ⟨k.os.trans h.os,k.tape.trans h.tape,k.output.trans h.output,Nat.le_trans h.size k.size,fun b hb=>(k.keep b (h.more b hb)).trans (h.keep b hb),fun b hb=>k.more b (h.more b hb)⟩
theorem Later.cell {W W':World} {F F':Fz} (h:Later W F W' F') {b:Nat} (hb:F b) (o:Nat):W'.cell? ⟨b,o,none⟩=W.cell? ⟨b,o,none⟩:=by
 simp only[World.cell?,h.keep b hb]
theorem Later.mem {W W':World} {F F':Fz} (h:Later W F W' F') {b:Nat} (hb:F b) (o:Nat):mem W' b o=mem W b o:=by
 funext j;exact h.cell hb _
def formed (t:Ty) (v:Value):Prop:=(agg t=true→∃cs,v = .agg cs)∧(agg t=false→v.oneCell'=true)∧v.cells.size=width t
structure Grow (W:World) (F:Fz) (W':World) (F':Fz):Prop where
 below:Below W.heap.size W W'
 more:∀b,F b→F' b
 new:∀b,F' b→F b∨(W.heap.size≤b∧b<W'.heap.size)
def Plain (P : Program) (f : FuncId) : Prop := ∃ fn, P.funcs[f]? = some fn ∧ (fn.name == "runtime.NumGoroutine") = false ∧ fn.body.isNone = false
def RdP (P:Program):(t:Ty)→(El t→World→Fz→Get→Prop)×(El t→World→Fz→List Value→Prop)
 | .unit=>(fun _ _ _ _=>True,fun _ _ _ vs=>vs=[])
 | .pair a b=>(fun x W F g=>(RdP P a).1 x.1 W F g∧(RdP P b).1 x.2 W F (fun j=>g (width a+j)),
   fun x W F vs=>∃v r,vs=v::r∧formed a v∧(RdP P a).1 x.1 W F (one v)∧(RdP P b).2 x.2 W F r)
 | .wrap e=>((RdP P e).1,fun _ _ _ _=>False)
 | .bool=>(fun x _ _ g=>g 0=some (.bool x),fun _ _ _ _=>False)
 | .int k=>(fun x _ _ g=>g 0=some (.int k x),fun _ _ _ _=>False)
 | .str=>(fun x _ _ g=>g 0=some (.string ⟨x.toArray⟩),fun _ _ _ _=>False)
 | .slice e=>(fun x W F g=>(x=[]∧∃a,g 0=some (.slice a 0 0)) ∨
   ∃b off cap,g 0=some (.slice (some ⟨b,off,none⟩) x.length cap)∧F b∧x.length≤cap∧∀i (h:i<x.length),(RdP P e).1 x[i] W F (mem W b (off+i*width e)),
   fun _ _ _ _=>False)
 | .ptr e=>(fun x W F g=>∃b off,g 0=some (.pointer (some ⟨b,off,none⟩))∧F b∧(RdP P e).1 x W F (mem W b off),fun _ _ _ _=>False)
 | .fn a r=>(fun x W F g=>∃f caps,g 0=some (.func (.func f) #[] caps)∧Plain P f ∧
   ∀W' F' vs y z,Later W F W' F'→(∀b,F' b→b<W'.heap.size)→(RdP P a).2 y W' F' vs→x y=some z →
    Calls P f (vs.toArray++caps) W' fun e W''=>∃v F'',e = .returned v∧Grow W' F' W'' F''∧formed r v∧(RdP P r).1 z W'' F'' (one v),
   fun _ _ _ _=>False)
 | .own _=>(fun _ _ _ _=>False,fun _ _ _ _=>False)
 | .ref _=>(fun _ _ _ _=>False,fun _ _ _ _=>False)
 | .opt _=>(fun _ _ _ _=>False,fun _ _ _ _=>False)
 | .row _=>(fun _ _ _ _=>False,fun _ _ _ _=>False)
 | .seg _=>(fun _ _ _ _=>False,fun _ _ _ _=>False)
 | .err=>(fun x _ _ g=>∃v,g 0=some v∧v.oneCell'=true∧((x=false→v = .nilIface)∧(x=true→∃t u,v = .iface t u)),fun _ _ _ _=>False)
 | .sb _ _=>(fun _ _ _ _=>False,fun _ _ _ _=>False)
 | .mp _ _=>(fun _ _ _ _=>False,fun _ _ _ _=>False)
 | .seq _=>(fun _ _ _ _=>False,fun _ _ _ _=>False)
 | .ls _=>(fun _ _ _ _=>False,fun _ _ _ _=>False)
 | .tk _=>(fun _ _ _ _=>False,fun _ _ _ _=>False)
 | .tref _ _=>(fun _ _ _ _=>False,fun _ _ _ _=>False)
abbrev Rd (P:Program) (t:Ty) (x:El t) (W:World) (F:Fz) (g:Get):Prop:=(RdP P t).1 x W F g
abbrev d0k (P:Program) (t:Ty) (x:El t) (W:World) (F:Fz) (vs:List Value):Prop:=(RdP P t).2 x W F vs
theorem Grow.later {W W':World} {F F':Fz} (h:Grow W F W' F') (hF:∀b,F b→b<W.heap.size):Later W F W' F' :=
 ⟨h.below.os,h.below.tape,h.below.output,h.below.size,fun b hb=>h.below.block b (hF b hb),h.more⟩
theorem Grow.lt {W W':World} {F F':Fz} (h:Grow W F W' F') (hF:∀b,F b→b<W.heap.size):∀b,F' b→b<W'.heap.size:=by
 intro b hb;rcases h.new b hb with h1 | h1
 ·exact Nat.lt_of_lt_of_le (hF b h1) h.below.size
 ·exact h1.2
theorem Grow.refl (W:World) (F:Fz):Grow W F W F:=⟨Below.refl _ _,fun _ h=>h,fun _ h => .inl h⟩
theorem Grow.trans {W W1 W2:World} {F F1 F2:Fz} (h:Grow W F W1 F1) (k:Grow W1 F1 W2 F2):Grow W F W2 F2:=by
 refine ⟨h.below.trans (k.below.mono h.below.size),fun b hb=>k.more b (h.more b hb),fun b hb => ?_⟩;rcases k.new b hb with h1 | h1
 ·rcases h.new b h1 with h2 | h2
  ·exact .inl h2
  ·exact .inr ⟨h2.1,Nat.lt_of_lt_of_le h2.2 k.below.size⟩
 ·exact .inr ⟨Nat.le_trans h.below.size h1.1,h1.2⟩
theorem RdP.later {P:Program}:∀(t:Ty) {W W':World} {F F':Fz},Later W F W' F' →
  (∀(x:El t) g,Rd P t x W F g→Rd P t x W' F' g)∧(∀(x:El t) vs,d0k P t x W F vs→d0k P t x W' F' vs):=by
 intro t;induction t with
 | unit=>exact fun _=>⟨fun _ _ h=>h,fun _ _ h=>h⟩
 | pair a b iha ihb =>
  intro W W' F F' hl;refine ⟨fun x g h=>⟨(iha hl).1 _ _ h.1,(ihb hl).1 _ _ h.2⟩,fun x vs h => ?_⟩;obtain ⟨v,r,h1,h2,h3,h4⟩:=h;exact ⟨v,r,h1,h2,(iha hl).1 _ _ h3,(ihb hl).2 _ _ h4⟩
 | wrap e ih=>exact fun hl=>⟨fun x g h=>(ih hl).1 _ _ h,fun _ _ h=>h.elim⟩
 | bool=>exact fun _=>⟨fun _ _ h=>h,fun _ _ h=>h.elim⟩
 | int k=>exact fun _=>⟨fun _ _ h=>h,fun _ _ h=>h.elim⟩
 | str=>exact fun _=>⟨fun _ _ h=>h,fun _ _ h=>h.elim⟩
 | slice e ih =>
  intro W W' F F' hl;refine ⟨fun x g h => ?_,fun _ _ h=>h.elim⟩;rcases h with h | ⟨b,off,cap,h1,h2,h3,h4⟩
  ·exact .inl h
  ·refine .inr ⟨b,off,cap,h1,hl.more b h2,h3,fun i hi => ?_⟩;rw[hl.mem h2];exact (ih hl).1 _ _ (h4 i hi)
 | ptr e ih =>
  intro W W' F F' hl;refine ⟨fun x g h => ?_,fun _ _ h=>h.elim⟩;obtain ⟨b,off,h1,h2,h3⟩:=h;refine ⟨b,off,h1,hl.more b h2,?_⟩;rw[hl.mem h2];exact (ih hl).1 _ _ h3
 | fn a r _ _ =>
  intro W W' F F' hl;refine ⟨fun x g h => ?_,fun _ _ h=>h.elim⟩;obtain ⟨f,caps,h1,h2⟩:=h;exact ⟨f,caps,h1,h2.1,fun W1 F1 vs y z h3 h4 h5 h6=>h2.2 W1 F1 vs y z (hl.trans h3) h4 h5 h6⟩
 | own e _=>exact fun _=>⟨fun _ _ h=>h.elim,fun _ _ h=>h.elim⟩
 | ref e _=>exact fun _=>⟨fun _ _ h=>h.elim,fun _ _ h=>h.elim⟩
 | opt e _=>exact fun _=>⟨fun _ _ h=>h.elim,fun _ _ h=>h.elim⟩
 | row e _=>exact fun _=>⟨fun _ _ h=>h.elim,fun _ _ h=>h.elim⟩
 | seg e _=>exact fun _=>⟨fun _ _ h=>h.elim,fun _ _ h=>h.elim⟩
 | err=>exact fun _=>⟨fun _ _ h=>h,fun _ _ h=>h.elim⟩
 | sb T e=>exact fun _=>⟨fun _ _ h=>h.elim,fun _ _ h=>h.elim⟩
 | mp k e _ _=>exact fun _=>⟨fun _ _ h=>h.elim,fun _ _ h=>h.elim⟩
 | seq e _=>exact fun _=>⟨fun _ _ h=>h.elim,fun _ _ h=>h.elim⟩
 | ls e _=>exact fun _=>⟨fun _ _ h=>h.elim,fun _ _ h=>h.elim⟩
 | tk k=>exact fun _=>⟨fun _ _ h=>h.elim,fun _ _ h=>h.elim⟩
 | tref k e _=>exact fun _=>⟨fun _ _ h=>h.elim,fun _ _ h=>h.elim⟩
theorem Rd.later {P:Program} {t:Ty} {x:El t} {W W':World} {F F':Fz} {g:Get} (h:Rd P t x W F g) (hl:Later W F W' F'):Rd P t x W' F' g:=(RdP.later t hl).1 _ _ h
theorem d0k.later {P:Program} {t:Ty} {x:El t} {W W':World} {F F':Fz} {vs:List Value} (h:d0k P t x W F vs) (hl:Later W F W' F'):d0k P t x W' F' vs:=(RdP.later t hl).2 _ _ h
theorem Rd.congr {P:Program}:∀(t:Ty) {x:El t} {W:World} {F:Fz} {g g':Get},(∀j,j<width t→g' j=g j)→Rd P t x W F g→Rd P t x W F g':=by
 intro t;induction t with
 | unit=>exact fun _ h=>h
 | pair a b iha ihb =>
  intro x W F g g' hg h;refine ⟨iha (fun j hj=>hg j (by simp[width];omega)) h.1,ihb (fun j hj=>hg _ (by simp[width];omega)) h.2⟩
 | wrap e ih=>exact fun hg h=>ih hg h
 | bool=>intro x W F g g' hg h;exact (hg 0 (by simp[width])).trans h
 | int k=>intro x W F g g' hg h;exact (hg 0 (by simp[width])).trans h
 | str=>intro x W F g g' hg h;exact (hg 0 (by simp[width])).trans h
 | slice e _ =>
  intro x W F g g' hg h;have h0:=hg 0 (by simp[width]);rcases h with ⟨h1,a,h2⟩ | ⟨b,off,cap,h1,h2⟩
  ·exact .inl ⟨h1,a,h0.trans h2⟩
  ·exact .inr ⟨b,off,cap,h0.trans h1,h2⟩
 | ptr e _ =>
  intro x W F g g' hg h;obtain ⟨b,off,h1,h2⟩:=h;exact ⟨b,off,(hg 0 (by simp[width])).trans h1,h2⟩
 | fn a r _ _ =>
  intro x W F g g' hg h;obtain ⟨f,caps,h1,h2⟩:=h;exact ⟨f,caps,(hg 0 (by simp[width])).trans h1,h2⟩
 | own e _=>exact fun _ h=>h.elim
 | ref e _=>exact fun _ h=>h.elim
 | opt e _=>exact fun _ h=>h.elim
 | row e _=>exact fun _ h=>h.elim
 | seg e _=>exact fun _ h=>h.elim
 | err =>
  intro x W F g g' hg h;obtain ⟨v,h1,h2⟩:=h;exact ⟨v,(hg 0 (by simp[width])).trans h1,h2⟩
 | sb T e=>exact fun _ h=>h.elim
 | mp k e _ _=>exact fun _ h=>h.elim
 | seq e _=>exact fun _ h=>h.elim
 | ls e _=>exact fun _ h=>h.elim
 | tk k=>exact fun _ h=>h.elim
 | tref k e _=>exact fun _ h=>h.elim
inductive Loc where
 | box (b:Nat)
 | nil
 | arr (b w len cap:Nat)
 | tree (v:Value) (bs:List Nat)
def Loc.has:Loc→Nat→Prop
 | .box b,x=>x=b
 | .nil,_=>False
 | .arr b _ _ _,x=>x=b
 | .tree _ bs,x=>x∈bs
structure EnvM where
 m:Nat→Nat→Option Loc
 top:Nat→Nat
structure EnvLe (E E':EnvM):Prop where
 top:∀n,E.top n≤E'.top n
 m:∀n ver,ver≤E.top n→E'.m n ver=E.m n ver
theorem EnvLe.refl (E:EnvM):EnvLe E E:=⟨fun _=>Nat.le_refl _,fun _ _ _=>rfl⟩
theorem EnvLe.trans {E E1 E2:EnvM} (h:EnvLe E E1) (k:EnvLe E1 E2):EnvLe E E2 :=
 ⟨fun n=>Nat.le_trans (h.top n) (k.top n),fun n ver hv=>(k.m n ver (Nat.le_trans hv (h.top n))).trans (h.m n ver hv)⟩
def c0w (c:Cell) (L:Loc) (v:Value):Prop :=
 match c,L with
 | .loc _ _ off,.box b=>v = .pointer (some ⟨b,off,none⟩)
 | .lel _ _ i off,.arr b w _ _=>v = .pointer (some ⟨b,i*w+off,none⟩)
 | .lrow _ _,.arr b _ len cap=>v = .pointer (some ⟨b,0,none⟩)∧len=cap
 | .sl _ _,.tree w _=>v=w
 | .sel _ _ i,.tree w _=>∃b len cap,w = .slice (some ⟨b,0,none⟩) len cap∧i<len∧v = .pointer (some ⟨b,i,none⟩)
 | .lall _ _,.nil=>∃a,v = .slice a 0 0
 | .lall _ _,.arr b _ len cap=>v = .slice (some ⟨b,0,none⟩) len cap
 | .lsl _ _ off l,.nil=>(∃a,v = .slice a 0 0)∧l=0∧off=0
 | .lsl _ _ off l,.arr b w len cap=>off+l≤len∧∃o c,v = .slice (some ⟨b,o,none⟩) l c∧l≤c∧(0<c→o=off*w∧off+c=cap)∧off+c=cap
 | _,_=>False
def b0q (P:Program) (W:World) (F:Fz) (E:EnvM) (c:Cell) (v:Value):Prop :=
 match c with
 | .val t x=>width t=1∧agg t=false∧Rd P t x W F (fun j=>if j=0 then some v else none)
 | .pin t x off=>∃b o,v = .pointer (some ⟨b,o+off,none⟩)∧F b∧Rd P t x W F (mem W b o)
 | .clo f t x=>∃caps,v = .func (.func f) #[] caps∧d0k P t x W F caps.toList
 | .np=>v = .pointer none
 | .ns=>∃a,v = .slice a 0 0
 | .nf=>v = .nilFunc
 | .anyB=>∃b,v = .bool b
 | .dead=>True
 | .nm=>v = .map none
 | .loc n ver off=>ver≤E.top n∧(∃L,E.m n ver=some L)∧∀L,E.m n ver=some L→c0w (.loc n ver off) L v
 | .lel n ver i off=>ver≤E.top n∧(∃L,E.m n ver=some L)∧∀L,E.m n ver=some L→c0w (.lel n ver i off) L v
 | .lrow n ver=>ver≤E.top n∧(∃L,E.m n ver=some L)∧∀L,E.m n ver=some L→c0w (.lrow n ver) L v
 | .lall n ver=>ver≤E.top n∧(∃L,E.m n ver=some L)∧∀L,E.m n ver=some L→c0w (.lall n ver) L v
 | .lsl n ver off l=>ver≤E.top n∧(∃L,E.m n ver=some L)∧∀L,E.m n ver=some L→c0w (.lsl n ver off l) L v
 | .sl n ver=>ver≤E.top n∧(∃L,E.m n ver=some L)∧∀L,E.m n ver=some L→c0w (.sl n ver) L v
 | .sel n ver i=>ver≤E.top n∧(∃L,E.m n ver=some L)∧∀L,E.m n ver=some L→c0w (.sel n ver i) L v
 | .clob f caps=>∃bs:List Nat,v = .func (.func f) #[] (bs.map fun b=>Value.pointer (some ⟨b,0,none⟩)).toArray∧bs.length=caps.length ∧
   ∀(i:Nat) p b,caps[i]? = some p→bs[i]? = some b→p.2≤E.top p.1∧E.m p.1 p.2=some (.box b)
theorem b0q.later {P:Program} {W W':World} {F F':Fz} {E E':EnvM} {c:Cell} {v:Value} (h:b0q P W F E c v) (hl:Later W F W' F')
  (hE:EnvLe E E'):b0q P W' F' E' c v:=by
 have key:∀n ver,(ver≤E.top n∧(∃L,E.m n ver=some L)∧∀L,E.m n ver=some L→c0w c L v) →
   (ver≤E'.top n∧(∃L,E'.m n ver=some L)∧∀L,E'.m n ver=some L→c0w c L v) :=
  fun n ver k=>⟨Nat.le_trans k.1 (hE.top n),by rw[hE.m n ver k.1];exact k.2.1,fun L hL=>k.2.2 L (by rw[←hE.m n ver k.1];exact hL)⟩
 cases c with
 | val t x=>exact ⟨h.1,h.2.1,h.2.2.later hl⟩
 | pin t x off =>
  obtain ⟨b,o,h1,h2,h3⟩:=h;refine ⟨b,o,h1,hl.more b h2,?_⟩;rw[hl.mem h2];exact h3.later hl
 | loc n ver off=>exact key n ver h
 | lel n ver i off=>exact key n ver h
 | lrow n ver=>exact key n ver h
 | lall n ver=>exact key n ver h
 | lsl n ver off l=>exact key n ver h
 | sl n ver=>exact key n ver h
 | sel n ver i=>exact key n ver h
 | clob f caps =>
  obtain ⟨bs,h1,h2,h3⟩:=h;exact ⟨bs,h1,h2,fun i p b hp hb=>⟨Nat.le_trans (h3 i p b hp hb).1 (hE.top _),by rw[hE.m _ _ (h3 i p b hp hb).1];exact (h3 i p b hp hb).2⟩⟩
 | clo f t x =>
  obtain ⟨caps,h1,h2⟩:=h;exact ⟨caps,h1,h2.later hl⟩
 | np=>exact h
 | ns=>exact h
 | nf=>exact h
 | anyB=>exact h
 | dead=>trivial
 | nm=>exact h
def a0d (P:Program) (W:World) (F:Fz) (E:EnvM) (cs:List Cell) (vs:List Value):Prop :=
 cs.length=vs.length∧∀(j:Nat) c v,cs[j]? = some c→vs[j]? = some v→b0q P W F E c v∧v.oneCell'=true
theorem a0d.later {P:Program} {W W':World} {F F':Fz} {E E':EnvM} {cs:List Cell} {vs:List Value} (h:a0d P W F E cs vs) (hl:Later W F W' F')
  (hE:EnvLe E E'):a0d P W' F' E' cs vs:=⟨h.1,fun j c v h1 h2=>⟨(h.2 j c v h1 h2).1.later hl hE,(h.2 j c v h1 h2).2⟩⟩
def RdV1 (P:Program) (W:World) (F:Fz) (E:EnvM) (ag:Bool) (cs:List Cell) (v:Value):Prop :=
 a0d P W F E cs v.cells.toList∧(ag=true→∃l,v = .agg l)∧(ag=false→v.oneCell'=true)
def RdV (P:Program) (W:World) (F:Fz) (E:EnvM) (x:V) (v:Value):Prop :=
 match x with
 | .v ag cs=>RdV1 P W F E ag cs v
 | .tup l=>∃vs:List Value,v = .tuple vs.toArray∧vs.length=l.length∧∀(j:Nat) p u,l[j]? = some p→vs[j]? = some u→RdV1 P W F E p.1 p.2 u
 | .undef=>v=undef
 | .lost=>True
theorem RdV1.later {P:Program} {W W':World} {F F':Fz} {E E':EnvM} {ag:Bool} {cs:List Cell} {v:Value} (h:RdV1 P W F E ag cs v) (hl:Later W F W' F')
  (hE:EnvLe E E'):RdV1 P W' F' E' ag cs v:=⟨h.1.later hl hE,h.2⟩
theorem RdV.later {P:Program} {W W':World} {F F':Fz} {E E':EnvM} {x:V} {v:Value} (h:RdV P W F E x v) (hl:Later W F W' F')
  (hE:EnvLe E E'):RdV P W' F' E' x v:=by
 cases x with
 | v ag cs=>exact RdV1.later h hl hE
 | tup l =>
  obtain ⟨vs,h1,h2,h3⟩:=h;exact ⟨vs,h1,h2,fun j p u hp hu=>(h3 j p u hp hu).later hl hE⟩
 | undef=>exact h
 | lost=>trivial
def l1m (m:Nat×Nat) (n:Nat):Prop:=m.1=m.2∨n≤m.1
abbrev RowT (n:Nat):Type := { p:TypeId×(Nat×Nat) // l1m p.2 n }
def h0g (P:Program) (W:World) (F:Fz) (b cap:Nat) (e:Ty) (xs:List (El e)):Prop :=
 ∃(cs:Array Value) (T:RowT cs.size),W.heap[b]? = some (.cells cs T.1.1 T.1.2)∧cs.size=cap*width e∧xs.length≤cap∧(cap≤maxLen∧0<cap)∧(∀v∈cs.toList,v.oneCell'=true) ∧
  ∀i (h:i<xs.length),Rd P e xs[i] W F (fun j=>cs[i*width e+j]?)
def b0i (x:List UInt8):List Value:=x.map fun c=>Value.int .u8 (c.toNat:Int)
def RowU (e:Nat) (u:Value) (x:List UInt8) (W:World):Prop :=
 (u = .slice none 0 0∧x=[])∨∃g cap cur m,u = .slice (some ⟨g,0,none⟩) x.length cap∧W.heap[g]? = some (.cells cur e m)∧(m.1=m.2∨m.2≤x.length)∧x.length≤cap∧(cap≤maxLen∧0<cap)∧cur.size=cap∧cur.toList.take x.length=b0i x
theorem RowU.kept {e:Nat} {u:Value} {x:List UInt8} {W W':World} (h:RowU e u x W) (hk:∀g,u.ownBlock=some g→W'.heap[g]? = W.heap[g]?):RowU e u x W':=by
 rcases h with h | ⟨g,cap,cur,m,rfl,h1,h2⟩
 ·exact .inl h
 ·exact .inr ⟨g,cap,cur,m,rfl,(hk g rfl).trans h1,h2⟩
theorem RowU.lt {e:Nat} {u:Value} {x:List UInt8} {W:World} (h:RowU e u x W):∀g,u.ownBlock=some g→g<W.heap.size:=by
 intro g hg;rcases h with ⟨rfl,_⟩ | ⟨g',cap,cur,m,rfl,h1,_⟩
 ·simp[Value.ownBlock] at hg
 ·simp[Value.ownBlock] at hg;subst hg;exact (Array.getElem?_eq_some_iff.1 h1).1
def h0f (T e b:Nat) (x:List UInt8) (W:World) (bs:List Nat):Prop :=
 ∃p u,(p = .pointer none∨p = .pointer (some ⟨b,0,none⟩))∧W.heap[b]? = some (.cells #[p,u] T (0,0))∧RowU e u x W∧u.ownBlock≠some b∧bs=b::u.ownBlock.toList
theorem h0f.lt {T e b:Nat} {x:List UInt8} {W:World} {bs:List Nat} (h:h0f T e b x W bs):∀c∈bs,c<W.heap.size:=by
 obtain ⟨p,u,hp,hb,hu,hne,rfl⟩:=h;intro c hc;rcases List.mem_cons.1 hc with rfl | hc
 ·exact (Array.getElem?_eq_some_iff.1 hb).1
 ·exact hu.lt c (by simpa using hc)
theorem h0f.nodup {T e b:Nat} {x:List UInt8} {W:World} {bs:List Nat} (h:h0f T e b x W bs):bs.Nodup:=by
 obtain ⟨p,u,hp,hb,hu,hne,rfl⟩:=h;cases ho:u.ownBlock with
 | none=>simp
 | some g=>simp;exact fun e=>hne (by rw[ho,e])
theorem h0f.same {T e b:Nat} {x:List UInt8} {W W':World} {bs:List Nat} (h:h0f T e b x W bs) (hs:∀c∈bs,W'.heap[c]? = W.heap[c]?):h0f T e b x W' bs:=by
 obtain ⟨p,u,hp,hb,hu,hne,rfl⟩:=h;exact ⟨p,u,hp,by rw[hs b (by simp)];exact hb,hu.kept fun g hg=>hs g (by simp[hg]),hne,rfl⟩
def n0s (P:Program):(t:Ty)→El t→World→List Nat→Value→Prop
 | .sb T e,x,W,bs,v=>∃b,v = .pointer (some ⟨b,0,none⟩)∧h0f T e b x W bs
 | _,_,_,_,_=>False
theorem n0s.same {P:Program} {t:Ty} {x:El t} {W W':World} {bs:List Nat} {v:Value} (h:n0s P t x W bs v) (hs:∀c∈bs,W'.heap[c]? = W.heap[c]?):n0s P t x W' bs v:=by
 cases t<;>first | exact h.elim | skip
 obtain ⟨b,h1,h2⟩:=h;exact ⟨b,h1,h2.same hs⟩
theorem n0s.one {P:Program} {t:Ty} {x:El t} {W:World} {bs:List Nat} {v:Value} (h:n0s P t x W bs v):v.oneCell'=true:=by
 cases t<;>first | exact h.elim | skip
 obtain ⟨b,rfl,_⟩:=h;rfl
theorem n0s.lt {P:Program} {t:Ty} {x:El t} {W:World} {bs:List Nat} {v:Value} (h:n0s P t x W bs v):∀c∈bs,c<W.heap.size:=by
 cases t<;>first | exact h.elim | skip
 obtain ⟨b,_,h⟩:=h;exact h.lt
def keyV:(k:Ty)→El k→Option Value
 | .str,s=>some (.string ⟨s.toArray⟩)
 | .int kd,n=>some (.int kd n)
 | _,_=>none
def o0g (k:Ty) {α:Type} (xs:List (El k×α)) (W:World) (bs:List Nat) (v:Value) (R:Nat→α→List Nat→Value→Prop):Prop :=
 ∃(b:Nat) (es:Array MapEntry) (clock:Nat) (Os:List (List Nat)),v = .map (some b)∧W.heap[b]? = some (.map es clock)∧es.size=xs.length∧Os.length=xs.length∧bs=b::Os.flatten ∧
  ∀i (h:i<xs.length),∃en O,es[i]? = some en∧Os[i]? = some O∧keyV k xs[i].1=some en.key∧R i xs[i].2 O en.val
theorem o0g.mono {k:Ty} {α:Type} {xs:List (El k×α)} {W W':World} {bs:List Nat} {v:Value} {R R':Nat→α→List Nat→Value→Prop} (h:o0g k xs W bs v R) (hW:∀b∈bs,W'.heap[b]? = W.heap[b]?)
  (hR:∀i y O u,(∀b∈O,b∈bs)→R i y O u→R' i y O u):o0g k xs W' bs v R':=by
 obtain ⟨b,es,clock,Os,h1,h2,h3,h4,rfl,h5⟩:=h;refine ⟨b,es,clock,Os,h1,(hW b (by simp)).trans h2,h3,h4,rfl,fun i hi => ?_⟩;obtain ⟨en,O,k1,k2,k3,k4⟩:=h5 i hi;exact ⟨en,O,k1,k2,k3,hR i _ O _ (fun c hc=>List.mem_cons_of_mem _ (List.mem_flatten.2 ⟨O,List.mem_of_getElem? k2,hc⟩)) k4⟩
theorem o0g.lt {k:Ty} {α:Type} {xs:List (El k×α)} {W:World} {bs:List Nat} {v:Value} {R:Nat→α→List Nat→Value→Prop} (h:o0g k xs W bs v R) (hR:∀i y O u,R i y O u→∀b∈O,b<W.heap.size):∀b∈bs,b<W.heap.size:=by
 obtain ⟨b,es,clock,Os,h1,h2,h3,h4,rfl,h5⟩:=h;intro c hc;rcases List.mem_cons.1 hc with rfl | hc
 ·exact (Array.getElem?_eq_some_iff.1 h2).1
 ·obtain ⟨O,hO,hcO⟩:=List.mem_flatten.1 hc;obtain ⟨i,hi,e⟩:=List.mem_iff_getElem.1 hO;obtain ⟨en,O',k1,k2,k3,k4⟩:=h5 i (by omega);rw[List.getElem?_eq_getElem hi,e] at k2;injection k2 with k2;exact hR i _ O' _ k4 c (k2 ▸ hcO)
theorem o0g.one {k:Ty} {α:Type} {xs:List (El k×α)} {W:World} {bs:List Nat} {v:Value} {R:Nat→α→List Nat→Value→Prop} (h:o0g k xs W bs v R):v.oneCell'=true:=by
 obtain ⟨b,es,clock,Os,rfl,_⟩:=h;rfl
def LsRd {α:Type} (xs:List α) (W:World) (bs:List Nat) (v:Value) (R:Nat→α→List Nat→Value→Prop):Prop :=
 (xs=[]∧bs=[]∧∃p,v = .slice p 0 0)∨∃(b:Nat) (arr:Array Value) (T:RowT arr.size) (Os:List (List Nat)),v = .slice (some ⟨b,0,none⟩) xs.length arr.size∧W.heap[b]? = some (.cells arr T.1.1 T.1.2) ∧
  xs.length≤arr.size∧(arr.size≤maxLen∧0<arr.size)∧(∀u∈arr.toList,u.oneCell'=true)∧Os.length=xs.length∧bs=b::Os.flatten ∧
  ∀i (h:i<xs.length),∃u O,arr[i]? = some u∧Os[i]? = some O∧R i xs[i] O u
theorem LsRd.mono {α:Type} {xs:List α} {W W':World} {bs:List Nat} {v:Value} {R R':Nat→α→List Nat→Value→Prop} (h:LsRd xs W bs v R) (hW:∀b∈bs,W'.heap[b]? = W.heap[b]?)
  (hR:∀i y O u,(∀b∈O,b∈bs)→R i y O u→R' i y O u):LsRd xs W' bs v R':=by
 rcases h with h | ⟨b,arr,T,Os,h1,h2,h3,h4,h5,h6,rfl,h7⟩
 ·exact .inl h
 ·refine .inr ⟨b,arr,T,Os,h1,(hW b (by simp)).trans h2,h3,h4,h5,h6,rfl,fun i hi => ?_⟩;obtain ⟨u,O,k1,k2,k3⟩:=h7 i hi;exact ⟨u,O,k1,k2,hR i _ O _ (fun c hc=>List.mem_cons_of_mem _ (List.mem_flatten.2 ⟨O,List.mem_of_getElem? k2,hc⟩)) k3⟩
theorem LsRd.lt {α:Type} {xs:List α} {W:World} {bs:List Nat} {v:Value} {R:Nat→α→List Nat→Value→Prop} (h:LsRd xs W bs v R) (hR:∀i y O u,R i y O u→∀b∈O,b<W.heap.size):∀b∈bs,b<W.heap.size:=by
 rcases h with ⟨_,rfl,_⟩ | ⟨b,arr,T,Os,h1,h2,h3,h4,h5,h6,rfl,h7⟩
 ·exact fun _ hc=>by cases hc
 intro c hc;rcases List.mem_cons.1 hc with rfl | hc
 ·exact (Array.getElem?_eq_some_iff.1 h2).1
 ·obtain ⟨O,hO,hcO⟩:=List.mem_flatten.1 hc;obtain ⟨i,hi,e⟩:=List.mem_iff_getElem.1 hO;obtain ⟨u,O',k1,k2,k3⟩:=h7 i (by omega);rw[List.getElem?_eq_getElem hi,e] at k2;injection k2 with k2;exact hR i _ O' _ k3 c (k2 ▸ hcO)
theorem LsRd.one {α:Type} {xs:List α} {W:World} {bs:List Nat} {v:Value} {R:Nat→α→List Nat→Value→Prop} (h:LsRd xs W bs v R):v.oneCell'=true:=by
 rcases h with ⟨_,_,p,rfl⟩ | ⟨b,arr,T,Os,rfl,_⟩<;>rfl
structure Turn (bs:List Nat) (A:World) (FA:Fz) (B:World) (FB:Fz):Prop where
 later:Later A FA B FB
 same:∀b,b<A.heap.size→b ∉ bs→B.heap[b]? = A.heap[b]?
 fz:∀b,FB b→FA b∨(A.heap.size≤b∧b<B.heap.size)
def u0b (P:Program) (e:Ty) (xs:List (El e)) (W:World) (F:Fz) (bs:List Nat) (v:Value):Prop :=
 ∃gf lb,v = .func (.func gf) #[] lb∧Plain P gf∧(∀b∈bs,b<W.heap.size) ∧
  ∀(l:Nat) (J:Nat→World→Fz→Prop) (W1:World) (F1:Fz),Later W F W1 F1→(∀b∈bs,W1.heap[b]? = W.heap[b]?)→(∀b,F1 b→b<W1.heap.size)→(∀b∈bs,¬F1 b) →
   (∀k A FA B FB,J k A FA→Turn bs A FA B FB→J k B FB) →
   (∀k y A FA vs,xs[k]? = some y→J k A FA→Later W1 F1 A FA→(∀b,FA b→b<A.heap.size)→d0k P e y A FA vs →
    YieldAt Fence.wide 0 P l vs.toArray A fun en A'=>en = .returned (.bool true)∧∃FA',J (k+1) A' FA'∧Later A FA A' FA'∧(∀b,FA' b→b<A'.heap.size)∧(∀b∈bs,A'.heap[b]? = A.heap[b]?)∧(∀b∈bs,¬FA' b)) →
   J 0 W1 F1→Calls P gf (#[.func (.yield l) #[] #[]]++lb) W1 fun en W'=>(∃u,en = .returned u)∧∃F',J xs.length W' F'
theorem u0b.later {P:Program} {e:Ty} {xs:List (El e)} {W W':World} {F F':Fz} {bs:List Nat} {v:Value} (h:u0b P e xs W F bs v) (hl:Later W F W' F') (hs:∀b∈bs,W'.heap[b]? = W.heap[b]?):u0b P e xs W' F' bs v:=by
 obtain ⟨gf,lb,h1,h2,h3,h4⟩:=h;exact ⟨gf,lb,h1,h2,fun b hb=>Nat.lt_of_lt_of_le (h3 b hb) hl.size,fun l J W1 F1 k1 k2 k3 k4 k5 k6 k7=>h4 l J W1 F1 (hl.trans k1) (fun b hb=>(k2 b hb).trans (hs b hb)) k3 k4 k5 k6 k7⟩
theorem u0b.one {P:Program} {e:Ty} {xs:List (El e)} {W:World} {F:Fz} {bs:List Nat} {v:Value} (h:u0b P e xs W F bs v):v.oneCell'=true:=by
 obtain ⟨gf,lb,rfl,_⟩:=h;rfl
theorem u0b.lt {P:Program} {e:Ty} {xs:List (El e)} {W:World} {F:Fz} {bs:List Nat} {v:Value} (h:u0b P e xs W F bs v):∀b∈bs,b<W.heap.size:=by
 obtain ⟨gf,lb,_,_,h,_⟩:=h;exact h
def D0:Nat→Nat:=fun _=>0
def RdB (P:Program):(D:Nat→Nat)→(t:Ty)→El t→World→Fz→List Nat→Get→Prop
 | D,.unit,_,_,_,O,_=>O=[]
 | D,.pair a b,x,W,F,O,g=>∃O1 O2,O=O1++O2∧RdB P D a x.1 W F O1 g∧RdB P D b x.2 W F O2 (fun j=>g (width a+j))
 | D,.wrap e,x,W,F,O,g=>RdB P D e x W F O g
 | D,.own e,x,W,F,O,g=>(x=[]∧O=[]∧∃p,g 0=some (.slice p 0 0))∨∃b cap,g 0=some (.slice (some ⟨b,0,none⟩) x.length cap)∧h0g P W F b cap e x∧O=[b]
 | D,.ref e,x,W,F,O,g=>∃b arr T O',g 0=some (.pointer (some ⟨b,0,none⟩))∧W.heap[b]? = some (.cells arr T (0,0))∧arr.size=width e∧(∀v∈arr.toList,v.oneCell'=true) ∧
   O=b::O'∧RdB P D e x W F O' (fun j=>arr[j]?)
 | D,.tk k,_,_,_,O,g=>O=[]∧g 0=some (.pointer (some ⟨D k,0,none⟩))
 | D,.tref k e,x,W,F,O,g=>∃arr T O',g 0=some (.pointer (some ⟨D k,0,none⟩))∧W.heap[D k]? = some (.cells arr T (0,0))∧arr.size=width e∧(∀v∈arr.toList,v.oneCell'=true) ∧
   O=D k::O'∧RdB P D e x W F O' (fun j=>arr[j]?)
 | D,.opt e,x,W,F,O,g=>match x with
  | none=>O=[]∧g 0=some (.pointer none)
  | some y=>width e=1∧RdB P D e y W F O g
 | D,.row e,x,W,F,O,g=>∃b cap,g 0=some (.pointer (some ⟨b,0,none⟩))∧(h0g P W F b cap e x∧x.length=cap)∧O=[b]
 | D,.seg e,x,W,F,O,g=>(x.1=[]∧x.2=(0,0)∧O=[]∧∃p,g 0=some (.slice p 0 0)) ∨
   ∃b cap o c,g 0=some (.slice (some ⟨b,o,none⟩) x.2.2 c)∧(h0g P W F b cap e x.1∧x.2.1+x.2.2≤x.1.length∧x.2.2≤c∧x.2.1+c=cap∧(0<c→o=x.2.1*width e))∧O=[b]
 | D,.sb T e,x,W,_,O,g=>∃v,g 0=some v∧n0s P (.sb T e) x W O v
 | D,.seq e,x,W,F,O,g=>∃v,g 0=some v∧u0b P e x W F O v
 | D,.mp k e,x,W,F,O,g=>∃v,g 0=some v∧o0g k x W O v (fun _ y O u=>formed e u∧RdB P D0 e y W F O (one u))
 | D,.ls e,x,W,F,O,g=>∃v,g 0=some v∧LsRd x W O v (fun _ y O u=>formed e u∧RdB P D0 e y W F O (one u))
 | D,.err,x,W,F,O,g=>O=[]∧Rd P .err x W F g
 | D,.bool,x,W,F,O,g=>O=[]∧Rd P .bool x W F g
 | D,.int k,x,W,F,O,g=>O=[]∧Rd P (.int k) x W F g
 | D,.str,x,W,F,O,g=>O=[]∧Rd P .str x W F g
 | D,.slice e,x,W,F,O,g=>O=[]∧Rd P (.slice e) x W F g
 | D,.ptr e,x,W,F,O,g=>O=[]∧Rd P (.ptr e) x W F g
 | D,.fn a r,x,W,F,O,g=>O=[]∧Rd P (.fn a r) x W F g
def f0m (P:Program) (W:World) (F:Fz) (E:EnvM):(t:Ty)→El t→Option (Nat×Cell)→List Nat→Value→Prop
 | .sb T e,x,hole,bs,v=>hole=none∧n0s P (.sb T e) x W bs v
 | .seq e,x,hole,bs,v=>hole=none∧u0b P e x W F bs v
 | .mp k e,x,hole,bs,v=>o0g k x W bs v (fun i y O u =>
   match hole with
   | some (j,c)=>if i=j then O=[]∧(formed e u∧a0d P W F E [c] u.cells.toList) else formed e u∧RdB P D0 e y W F O (one u)
   | none=>formed e u∧RdB P D0 e y W F O (one u))
 | .ls e,x,hole,bs,v=>LsRd x W bs v (fun i y O u =>
   match hole with
   | some (j,c)=>if i=j then O=[]∧(formed e u∧a0d P W F E [c] u.cells.toList) else formed e u∧RdB P D0 e y W F O (one u)
   | none=>formed e u∧RdB P D0 e y W F O (one u))
 | _,_,_,_,_=>False
def f0e (P:Program) (W:World) (F:Fz) (E:EnvM) (L:Loc):Blk→Prop
 | .box t cs fr=>∃b arr T,L = .box b∧W.heap[b]? = some (.cells arr T (0,0))∧a0d P W F E cs arr.toList∧cs.length=width t∧(fr=false→¬F b)∧(fr=true→F b)
 | .arr e xs fr=>(L = .nil∧xs=[])∨∃b cap,L = .arr b (width e) xs.length cap∧h0g P W F b cap e xs∧(fr=false→¬F b)∧(fr=true→F b)
 | .sealed n base top t x hole fr=>∃v bs,L = .tree v bs∧E.m n top=some L∧top≤E.top n∧(∀j,base≤j→j≤top→∃bs',E.m n j=some (.tree v bs'))∧(∀b∈bs,b<W.heap.size) ∧
   (fr=false→f0m P W F E t x hole bs v∧bs.Nodup∧∀b∈bs,¬F b)
structure HR (P:Program) (W:World) (F:Fz) (E:EnvM) (N:Nat→Prop) (h:Heap):Prop where
 top:∀n ver b,N n→h[n]? = some (ver,b)→ver=E.top n
 blk:∀n ver b,h[n]? = some (ver,some b)→N n∧∃L,E.m n ver=some L∧f0e P W F E L b
 inj:∀n m vn vm bn bm L M x,h[n]? = some (vn,some bn)→h[m]? = some (vm,some bm)→E.m n vn=some L→E.m m vm=some M→L.has x→M.has x→n=m
end Go.Flat
end
section
namespace Go.Flat
open Go.RowKit (Below)
variable {P:Program} {W:World} {F:Fz} {E:EnvM}
theorem z0h (g:Get) (v:Value) (h:g 0=some v):∀j,j<1→(fun j=>if j=0 then some v else none) j=g j:=by
 intro j hj;have:j=0:=by omega
 subst this;simp[h]
theorem Rd.leaf {t:Ty} {x:El t} {g:Get} (hw:width t=1) (h:Rd P t x W F g) {v:Value} (hv:g 0=some v):Rd P t x W F (fun j=>if j=0 then some v else none) :=
 Rd.congr t (fun j hj=>z0h g v hv j (by omega)) h
theorem a0d.append {a b:List Cell} {u v:List Value} (h:a0d P W F E a u) (k:a0d P W F E b v):a0d P W F E (a++b) (u++v):=by
 refine ⟨by simp[h.1,k.1],fun j c w h1 h2 => ?_⟩;have hl:=h.1;by_cases hj:j<a.length
 ·rw[List.getElem?_append_left hj] at h1;rw[List.getElem?_append_left (by omega)] at h2;exact h.2 j c w h1 h2
 ·rw[List.getElem?_append_right (by omega)] at h1;rw[List.getElem?_append_right (by omega),←hl] at h2;exact k.2 _ c w h1 h2
theorem a0d.nil:a0d P W F E [] []:=⟨rfl,fun j c v h=>by simp at h⟩
theorem a0d.cons {c:Cell} {cs:List Cell} {v:Value} {vs:List Value}:a0d P W F E (c::cs) (v::vs)↔(b0q P W F E c v∧v.oneCell'=true)∧a0d P W F E cs vs:=by
 constructor
 ·intro h;refine ⟨h.2 0 c v rfl rfl,by have:=h.1;simp at this;exact this,fun j a b h1 h2=>h.2 (j+1) a b (by simpa using h1) (by simpa using h2)⟩
 ·intro h;refine ⟨by simp[h.2.1],fun j a b h1 h2 => ?_⟩;cases j with
  | zero=>simp at h1 h2;subst h1;subst h2;exact h.1
  | succ j=>exact h.2.2 j a b (by simpa using h1) (by simpa using h2)
theorem a0d.one {c:Cell} {v:Value} (h:b0q P W F E c v) (hv:v.oneCell'=true):a0d P W F E [c] [v]:=a0d.cons.2 ⟨⟨h,hv⟩,a0d.nil⟩
theorem a0d.uncons {c:Cell} {cs:List Cell} {vs:List Value} (h:a0d P W F E (c::cs) vs):∃v r,vs=v::r∧b0q P W F E c v∧v.oneCell'=true∧a0d P W F E cs r:=by
 cases vs with
 | nil=>have:=h.1;simp at this
 | cons v r=>have:=a0d.cons.1 h;exact ⟨v,r,rfl,this.1.1,this.1.2,this.2⟩
theorem a0d.take {cs:List Cell} {vs:List Value} (h:a0d P W F E cs vs) (n:Nat):a0d P W F E (cs.take n) (vs.take n):=by
 refine ⟨by simp[h.1],fun j c v h1 h2 => ?_⟩;rw[List.getElem?_take] at h1 h2;split at h1
 ·rename_i hj;simp only[hj,if_true] at h2;exact h.2 j c v h1 h2
 ·cases h1
theorem a0d.drop {cs:List Cell} {vs:List Value} (h:a0d P W F E cs vs) (n:Nat):a0d P W F E (cs.drop n) (vs.drop n):=by
 refine ⟨by simp[h.1],fun j c v h1 h2 => ?_⟩;rw[List.getElem?_drop] at h1 h2;exact h.2 _ c v h1 h2
theorem h0x:∀(t:Ty) (x:El t) (g:Get),Rd P t x W F g→∃vs:List Value,vs.length=width t∧(∀j,j<width t→g j=vs[j]?)∧a0d P W F E (cells t x) vs:=by
 intro t;induction t with
 | unit=>intro x g _;exact ⟨[],rfl,fun j hj=>by simp[width] at hj,a0d.nil⟩
 | pair a b iha ihb =>
  intro x g h;obtain ⟨u,hu1,hu2,hu3⟩:=iha x.1 _ h.1;obtain ⟨v,hv1,hv2,hv3⟩:=ihb x.2 _ h.2;refine ⟨u++v,by simp[width,hu1,hv1],fun j hj => ?_,hu3.append hv3⟩;by_cases hj':j<width a
  ·rw[hu2 j hj',List.getElem?_append_left (by omega)]
  ·rw[List.getElem?_append_right (by omega),hu1];have:=hv2 (j-width a) (by simp[width] at hj;omega);rw[←this];congr 1;omega
 | wrap e ih=>intro x g h;exact ih x g h
 | bool =>
  intro x g h
  exact ⟨[.bool x], rfl, fun j hj => by have : j = 0 := by simp [width] at hj; omega
                                        subst this;exact h,a0d.one ⟨rfl,rfl,rfl⟩ rfl⟩
 | int k =>
  intro x g h
  exact ⟨[.int k x], rfl, fun j hj => by have : j = 0 := by simp [width] at hj; omega
                                         subst this;exact h,a0d.one ⟨rfl,rfl,rfl⟩ rfl⟩
 | str =>
  intro x g h
  exact ⟨[.string ⟨x.toArray⟩], rfl, fun j hj => by have : j = 0 := by simp [width] at hj; omega
                                                    subst this;exact h,a0d.one ⟨rfl,rfl,rfl⟩ rfl⟩
 | slice e ih =>
  intro x g h;have hv:∃v,g 0=some v∧v.oneCell'=true:=by
   rcases h with ⟨_,a,h2⟩ | ⟨b,off,cap,h1,_⟩
   ·exact ⟨_,h2,rfl⟩
   ·exact ⟨_,h1,rfl⟩
  obtain ⟨v,hv,hone⟩:=hv
  exact ⟨[v], rfl, fun j hj => by have : j = 0 := by simp [width] at hj; omega
                                  subst this;exact hv,a0d.one ⟨rfl,rfl,Rd.leaf (t := .slice e) rfl h hv⟩ hone⟩
 | ptr e ih =>
  intro x g h;obtain ⟨b,off,h1,h2,h3⟩:=h
  exact ⟨[_], rfl, fun j hj => by have : j = 0 := by simp [width] at hj; omega
                                  subst this;exact h1,a0d.one ⟨b,off,rfl,h2,h3⟩ rfl⟩
 | fn a r iha ihr =>
  intro x g h;obtain ⟨f,caps,h1,h2⟩:=h
  exact ⟨[_], rfl, fun j hj => by have : j = 0 := by simp [width] at hj; omega
                                  subst this;exact h1,a0d.one ⟨rfl,rfl,⟨f,caps,rfl,h2⟩⟩ rfl⟩
 | own e ih=>intro x g h;exact h.elim
 | ref e ih=>intro x g h;exact h.elim
 | opt e ih=>intro x g h;exact h.elim
 | row e ih=>intro x g h;exact h.elim
 | seg e ih=>intro x g h;exact h.elim
 | err =>
  intro x g h;obtain ⟨v,h1,h2,h3⟩:=h
  exact ⟨[v], rfl, fun j hj => by have : j = 0 := by simp [width] at hj; omega
                                  subst this;exact h1,a0d.one ⟨rfl,rfl,v,rfl,h2,h3⟩ h2⟩
 | sb T e=>intro x g h;exact h.elim
 | mp k e _ _=>intro x g h;exact h.elim
 | seq e _=>intro x g h;exact h.elim
 | ls e _=>intro x g h;exact h.elim
 | tk k=>intro x g h;exact h.elim
 | tref k e _=>intro x g h;exact h.elim
end Go.Flat
end
section
namespace Go.Flat
open Go.RowKit (Below)
theorem a0v {a b:Ty} {x:El a} {y:El b} (h:b0p x=some y):∃e:a=b,y=e ▸ x:=by
 unfold b0p at h;split at h
 ·rename_i e;exact ⟨e,by simpa using h.symm⟩
 ·cases h
def atName (h:Heap) (E:EnvM) (n b:Nat):Prop:=∃ver blk L,h[n]? = some (ver,some blk)∧E.m n ver=some L∧L.has b
def a0g (F:Fz) (h:Heap) (E:EnvM) (ns:List Nat):Fz:=fun b=>F b∨∃n∈ns,atName h E n b
section
variable {P:Program} {W:World} {F:Fz} {E:EnvM} {h:Heap} {N:Nat→Prop}
theorem a0z (ns:List Nat):Later W F W (a0g F h E ns):=⟨rfl,rfl,rfl,Nat.le_refl _,fun _ _=>rfl,fun _ hb => .inl hb⟩
theorem j1i {ns ms:List Nat} (hs:∀n∈ns,n∈ms):Later W (a0g F h E ns) W (a0g F h E ms) :=
 ⟨rfl,rfl,rfl,Nat.le_refl _,fun _ _=>rfl,fun _ hb=>Or.elim hb .inl fun ⟨n,hn,k⟩ => .inr ⟨n,hs n hn,k⟩⟩
def sub64Entry:Array Value→Sem Value:=fun args=>do
 let (x, y, b) ← Extern.MathBitsCarry.three "Sub64" args
 pure (Extern.MathBitsCarry.pair ((x+Extern.MathBitsCarry.m64-y-b) % Extern.MathBitsCarry.m64) (if x<y+b then 1 else 0))
def extEntry:Nat→Option (Array Value→Sem Value)
 | 1=>some add64Entry
 | 2=>some sub64Entry
 | _=>none
def ExtOk (P:Program) (f:FuncId) (k:Nat):Prop :=
 ∃ fn e, P.funcs[f]? = some fn ∧ (fn.name == "runtime.NumGoroutine") = false ∧ fn.body.isNone = true ∧ Extern.findNext fn = none ∧ Extern.find fn = some e ∧ extEntry k = some e
structure Fns (cx:Cx):Prop where
 plain:∀f s,cx.sig f=some s→Plain cx.P f
 ext:∀f k,cx.ext f=some k→ExtOk cx.P f k
def GShape (k:Nat) (v:Option Value):Prop :=
 match k with
 | 1=>∃m,v=some (.int .i64 m)
 | 2=>∃u,v=some u∧(u = .nilIface∨∃t p,u = .iface t p)
 | _=>False
structure GlobOk (cx:Cx) (W:World) (F:Fz):Prop where
 val:∀g t (x:El t),cx.glob g=some ⟨t,x⟩→F g∧Rd cx.P t x W F (mem W g 0)
 shp:∀g k,cx.gsh g=some k→F g∧GShape k (W.cell? ⟨g,0,none⟩)
theorem GlobOk.later {cx:Cx} {W W':World} {F F':Fz} (h:GlobOk cx W F) (hl:Later W F W' F'):GlobOk cx W' F':=⟨fun g t x e=>by
 obtain ⟨h1,h2⟩:=h.val g t x e;exact ⟨hl.more g h1,by rw[hl.mem h1];exact h2.later hl⟩,fun g k e=>by
 obtain ⟨h1,h2⟩:=h.shp g k e
 exact ⟨hl.more g h1,by rw[hl.cell h1];exact h2⟩⟩
structure CallSound (cx:Cx) (call:Oracle cx) (W0:World) (F0:Fz):Prop where
 fns:Fns cx
 glob:GlobOk cx W0 F0
 calls:∀f s,cx.sig f=some s→s.back=[]→∀r,s.rs=[r]→j0g r=true→oneTy r=true→∀(hr:cx.out f=r) (x:El (cx.arg f)) y,call f x=some y →
  ∀W F vs,GlobOk cx W F→(∀b,F b→b<W.heap.size)→d0k cx.P (cx.arg f) x W F vs →
   Calls cx.P f vs.toArray W fun e W'=>∃v F',e = .returned v∧Grow W F W' F'∧formed r v∧Rd cx.P r (hr ▸ y) W' F' (one v)
theorem CallSound.later {cx:Cx} {call:Oracle cx} {W W':World} {F F':Fz} (h:CallSound cx call W F) (hl:Later W F W' F'):CallSound cx call W' F':=⟨h.fns,h.glob.later hl,h.calls⟩
theorem d0k.app:∀(a ct:Ty) (x:El a) (cv:El ct) (us vs:List Value),d0k P a x W F us→d0k P ct cv W F vs→d0k P (appTy a ct) (appEl a ct x cv) W F (us++vs):=by
 intro a;induction a with
 | unit=>intro ct x cv us vs h k;have:us=[]:=h;subst this;exact k
 | pair p q _ ihq =>
  intro ct x cv us vs h k;obtain ⟨v,r,rfl,h2,h3,h4⟩:=h;exact ⟨v,r++vs,rfl,h2,h3,ihq ct x.2 cv r vs h4 k⟩
 | _=>intro ct x cv us vs h _;exact h.elim
theorem d0k.cast {a b:Ty} (e:a=b) {x:El a} {vs:List Value} (h:d0k P a x W F vs):d0k P b (e ▸ x) W F vs:=by subst e;exact h
theorem d1y {cx:Cx} {call:Oracle cx} (hc:CallSound cx call W F) {f:Nat} {ct:Ty} {cv:El ct} {a r:Ty} {p:El a→Option (El r)} (hp:k1m cx call f ct cv a r=some p)
  {caps:Array Value} (hcap:d0k cx.P ct cv W F caps.toList):Rd cx.P (.fn a r) p W F (fun j=>if j=0 then some (.func (.func f) #[] caps) else none):=by
 unfold k1m at hp;split at hp
 ·cases hp
 rename_i s hs;split at hp
 case h_2=>cases hp
 rename_i r' hb hrs;split at hp
 case isFalse=>cases hp
 rename_i hcl;split at hp
 case isFalse=>cases hp
 rename_i ha;split at hp
 case isFalse=>cases hp
 rename_i hr;obtain ⟨h1,h2,h3⟩:=hcl;subst h1;injection hp with hp;subst hp;refine ⟨f,caps,rfl,hc.fns.plain f s hs,fun W' F' vs y z hl hF hy hz => ?_⟩;subst hr;simp only at hz;have hargs:d0k cx.P (cx.arg f) (ha ▸ appEl a ct y cv) W' F' (vs++caps.toList):=d0k.cast ha (d0k.app a ct y cv vs caps.toList hy (hcap.later hl));have:=hc.calls f s hs hb _ hrs h2 h3 rfl _ z hz W' F' _ (hc.glob.later hl) hF hargs;have e:(vs++caps.toList).toArray=vs.toArray++caps:=by simp
 rw[e] at this;exact this
theorem r0u {cx:Cx} {call:Oracle cx} (hc:CallSound cx call W F) (hr:HR cx.P W F E N h) {t:Ty} {c:Cell} {x:El t} {ns:List Nat} (hp:g0x cx call h t c=some (x,ns))
  {v:Value} (hv:b0q cx.P W F E c v) :
  width t=1∧agg t=false∧Rd cx.P t x W (a0g F h E ns) (fun j=>if j=0 then some v else none):=by
 have arr:∀(e:Ty) (n ver:Nat) (e':Ty) (xs:List (El e')) (fr:Bool),h[n]? = some (ver,some (.arr e' xs fr))→∀(hE:e'=e) L,E.m n ver=some L →
   (L = .nil∧xs=[])∨∃b cap,L = .arr b (width e') xs.length cap∧h0g cx.P W F b cap e' xs∧atName h E n b:=by
  intro e n ver e' xs fr hn hE L hL;obtain ⟨_,L',hL',hB⟩:=hr.blk n ver _ hn;rw[hL] at hL';injection hL' with hL';subst hL';rcases hB with ⟨h1,h2⟩ | ⟨b,cap,h1,h2,_⟩
  ·exact .inl ⟨h1,h2⟩
  ·exact .inr ⟨b,cap,h1,h2,ver,_,L,hn,hL,by rw[h1];rfl⟩
 have ext:∀n ver (e':Ty) (xs:List (El e')) fr,h[n]? = some (ver,some (.arr e' xs fr))→∃L,E.m n ver=some L:=by
  intro n ver e' xs fr hn;obtain ⟨_,L',hL',_⟩:=hr.blk n ver _ hn;exact ⟨L',hL'⟩
 unfold g0x at hp;split at hp
 ·-- an array,whole
  rename_i e n ver;split at hp
  case h_2=>cases hp
  rename_i ver' e' xs fr hn;split at hp
  case isFalse=>cases hp
  rename_i hver;subst hver;cases hcast:b0p (a := .slice e') (b := .slice e) xs with
  | none=>rw[hcast] at hp;cases hp
  | some y =>
   rw[hcast] at hp;simp only[Option.map_some,Option.some.injEq,Prod.mk.injEq] at hp;obtain ⟨rfl,rfl⟩:=hp;obtain ⟨he,rfl⟩:=a0v hcast;injection he with he';subst he';refine ⟨rfl,rfl,?_⟩;obtain ⟨L,hL⟩:=ext n ver e' xs fr hn;have hloc:=hv.2.2 L hL;rcases arr e' n ver e' xs fr hn rfl L hL with ⟨rfl,rfl⟩ | ⟨b,cap,rfl,hat,hname⟩
   ·obtain ⟨a,rfl⟩:=hloc;exact .inl ⟨rfl,a,rfl⟩
   ·have hloc':v = .slice (some ⟨b,0,none⟩) xs.length cap:=hloc;subst hloc';obtain ⟨cs,T,k1,k2,k3,k4,k5,k6⟩:=hat;refine .inr ⟨b,0,cap,rfl,.inr ⟨n,by simp,hname⟩,k3,fun i hi => ?_⟩;refine Rd.congr e' ?_ ((k6 i hi).later (a0z [n]));intro j _;simp only[mem,Nat.zero_add];rw[cell_of_row W b _ cs T.1.1 T.1.2 k1]
 ·-- a piece of an array
  rename_i e n ver off len;split at hp
  case h_2=>cases hp
  rename_i ver' e' xs fr hn;split at hp
  case isFalse=>cases hp
  rename_i hver;subst hver;cases hcast:b0p (a := .slice e') (b := .slice e) ((xs.drop off).take len) with
  | none=>rw[hcast] at hp;cases hp
  | some y =>
   rw[hcast] at hp;simp only[Option.map_some,Option.some.injEq,Prod.mk.injEq] at hp;obtain ⟨rfl,rfl⟩:=hp;obtain ⟨he,rfl⟩:=a0v hcast;injection he with he';subst he';refine ⟨rfl,rfl,?_⟩;obtain ⟨L,hL⟩:=ext n ver e' xs fr hn;have hloc:=hv.2.2 L hL;rcases arr e' n ver e' xs fr hn rfl L hL with ⟨rfl,rfl⟩ | ⟨b,cap,rfl,hat,hname⟩
   ·obtain ⟨⟨a,rfl⟩,rfl,rfl⟩:=hloc;exact .inl ⟨rfl,a,rfl⟩
   ·obtain ⟨hle,o,c,rfl,hlc,hoc,hoe⟩:=hloc;obtain ⟨cs,T,k1,k2,k3,k4,k5,k6⟩:=hat;have hlen:((xs.drop off).take len).length=len:=by simp;omega
    by_cases h0:len=0
    ·subst h0;by_cases hc0:c=0
     ·subst hc0;exact .inl ⟨rfl,_,rfl⟩
     ·refine .inr ⟨b,o,c,by simp,.inr ⟨n,by simp,hname⟩,by simp,fun i hi => ?_⟩;simp at hi
    ·obtain ⟨ho,hcap⟩:=hoc (by omega);refine .inr ⟨b,o,c,by rw[hlen];rfl,.inr ⟨n,by simp,hname⟩,by rw[hlen];exact hlc,fun i hi => ?_⟩;have hi':i<len:=by rw[hlen] at hi;exact hi
     have hget:((xs.drop off).take len)[i]=xs[off+i]'(by omega):=by simp
     rw[hget];refine Rd.congr e' ?_ ((k6 (off+i) (by omega)).later (a0z [n]));intro j _;simp only[mem];rw[cell_of_row W b _ cs T.1.1 T.1.2 k1,ho,Nat.add_mul]
 ·-- the empty slice
  simp only[Option.some.injEq,Prod.mk.injEq] at hp;obtain ⟨rfl,rfl⟩:=hp;obtain ⟨a,rfl⟩:=hv;exact ⟨rfl,rfl,.inl ⟨rfl,a,rfl⟩⟩
 ·-- a pointer into closed memory
  rename_i e e' w off;split at hp
  case isFalse=>cases hp
  rename_i h0;subst h0;cases hcast:b0p (a := .ptr e') (b := .ptr e) w with
  | none=>rw[hcast] at hp;cases hp
  | some y =>
   rw[hcast] at hp;simp only[Option.map_some,Option.some.injEq,Prod.mk.injEq] at hp;obtain ⟨rfl,rfl⟩:=hp;obtain ⟨he,rfl⟩:=a0v hcast;injection he with he';subst he';obtain ⟨b,o,rfl,k1,k2⟩:=hv;exact ⟨rfl,rfl,b,o,rfl,.inl k1,k2.later (a0z [])⟩
 ·-- a closure
  rename_i a r f ct cv;cases hcl:k1m cx call f ct cv a r with
  | none=>rw[hcl] at hp;cases hp
  | some p =>
   rw[hcl] at hp;simp only[Option.map_some,Option.some.injEq,Prod.mk.injEq] at hp;obtain ⟨rfl,rfl⟩:=hp;obtain ⟨caps,rfl,k⟩:=hv;exact ⟨rfl,rfl,(d1y hc hcl k).later (a0z [])⟩
 ·-- a closed leaf
  rename_i t' w;cases hcast:b0p (a:=t') (b:=t) w with
  | none=>rw[hcast] at hp;cases hp
  | some y =>
   rw[hcast] at hp;simp only[Option.map_some,Option.some.injEq,Prod.mk.injEq] at hp;obtain ⟨rfl,rfl⟩:=hp;obtain ⟨he,rfl⟩:=a0v hcast;subst he;exact ⟨hv.1,hv.2.1,hv.2.2.later (a0z [])⟩
 ·cases hp
theorem a0g.left {ns ms:List Nat}:∀b,a0g F h E ns b→a0g F h E (ns++ms) b:=fun b hb=>Or.elim hb .inl fun ⟨n,hn,k⟩ => .inr ⟨n,by simp[hn],k⟩
theorem a0g.right {ns ms:List Nat}:∀b,a0g F h E ms b→a0g F h E (ns++ms) b:=fun b hb=>Or.elim hb .inl fun ⟨n,hn,k⟩ => .inr ⟨n,by simp[hn],k⟩
theorem Later.same {F F':Fz} (hm:∀b,F b→F' b):Later W F W F':=⟨rfl,rfl,rfl,Nat.le_refl _,fun _ _=>rfl,hm⟩
theorem y0x {cx:Cx} {call:Oracle cx} (hc:CallSound cx call W F) (hr:HR cx.P W F E N h):∀(t:Ty) (cs:List Cell) (x:El t) (rest:List Cell) (ns:List Nat),
  i0o cx call h t cs=some (x,rest,ns)→∀vs:List Value,a0d cx.P W F E cs vs →
   Rd cx.P t x W (a0g F h E ns) (fun j=>vs[j]?)∧a0d cx.P W F E rest (vs.drop (width t))∧width t≤vs.length:=by
 have leafCase:∀(t:Ty) (c:Cell) (cs:List Cell) (x:El t) (rest:List Cell) (ns:List Nat),
   (g0x cx call h t c).map (fun x=>(x.1,cs,x.2))=some (x,rest,ns)→∀vs:List Value,a0d cx.P W F E (c::cs) vs →
   Rd cx.P t x W (a0g F h E ns) (fun j=>vs[j]?)∧a0d cx.P W F E rest (vs.drop (width t))∧width t≤vs.length:=by
  intro t c cs x rest ns hp vs hv;obtain ⟨v,r,rfl,h1,h2,h3⟩:=hv.uncons;cases hl:g0x cx call h t c with
  | none=>rw[hl] at hp;cases hp
  | some y =>
   rw[hl] at hp;simp only[Option.map_some,Option.some.injEq,Prod.mk.injEq] at hp;obtain ⟨rfl,rfl,rfl⟩:=hp;obtain ⟨k1,k2,k3⟩:=r0u (x:=y.1) (ns:=y.2) hc hr hl h1;refine ⟨Rd.congr t ?_ k3,by rw[k1];exact h3,by rw[k1];simp⟩;intro j hj;have:j=0:=by omega
   subst this;simp
 intro t;induction t with
 | unit =>
  intro cs x rest ns hp vs hv;simp only[i0o] at hp;injection hp with hp;injection hp with _ hp;injection hp with h1 h2;subst h1;exact ⟨trivial,hv,Nat.zero_le _⟩
 | pair a b iha ihb =>
  intro cs x rest ns hp vs hv;simp only[i0o] at hp;cases h1:i0o cx call h a cs with
  | none=>rw[h1] at hp;cases hp
  | some y =>
   rw[h1] at hp;simp only[Option.bind_some] at hp;cases h2:i0o cx call h b y.2.1 with
   | none=>rw[h2] at hp;cases hp
   | some z =>
    rw[h2] at hp;simp only[Option.map_some,Option.some.injEq,Prod.mk.injEq] at hp;obtain ⟨rfl,rfl,rfl⟩:=hp;obtain ⟨k1,k2,k3⟩:=iha cs y.1 y.2.1 y.2.2 h1 vs hv;obtain ⟨m1,m2,m3⟩:=ihb y.2.1 z.1 z.2.1 z.2.2 h2 _ k2;refine ⟨⟨k1.later (Later.same a0g.left),?_⟩,?_,?_⟩
    ·refine Rd.congr b ?_ (m1.later (Later.same a0g.right));intro j _;simp
    ·simpa [width] using m2
    ·simp[width] at m3 ⊢;omega
 | wrap e ih =>
  intro cs x rest ns hp vs hv;exact ih cs x rest ns (by simpa only [i0o] using hp) vs hv
 | _ =>
  intro cs x rest ns hp vs hv;cases cs with
  | nil=>simp[i0o] at hp
  | cons c cs =>
   simp only[i0o] at hp;exact leafCase _ c cs x rest ns hp vs hv
theorem n0z {cx:Cx} {call:Oracle cx} (hc:CallSound cx call W F) (hr:HR cx.P W F E N h) {t:Ty} {cs:List Cell} {x:El t} {ns:List Nat}
  (hp:m0y cx call h t cs=some (x,ns)) {vs:List Value} (hv:a0d cx.P W F E cs vs) :
  Rd cx.P t x W (a0g F h E ns) (fun j=>vs[j]?)∧vs.length=width t:=by
 unfold m0y at hp;cases h1:i0o cx call h t cs with
 | none=>rw[h1] at hp;cases hp
 | some y =>
  rw[h1] at hp;simp only[Option.bind_some] at hp;split at hp
  ·rename_i hnil;simp only[Option.some.injEq,Prod.mk.injEq] at hp;obtain ⟨rfl,rfl⟩:=hp;obtain ⟨k1,k2,k3⟩:=y0x hc hr t cs y.1 y.2.1 y.2.2 h1 vs hv;rw[hnil] at k2;have:=k2.1;simp at this;exact ⟨k1,by omega⟩
  ·cases hp
end
end Go.Flat
end
section
namespace Go.Flat
open Go.RowKit (Below)
section
variable {P:Program} {W W':World} {F F':Fz} {E E':EnvM} {h:Heap} {N:Nat→Prop}
theorem h0g.later {b cap:Nat} {e:Ty} {xs:List (El e)} (h:h0g P W F b cap e xs) (hl:Later W F W' F') (hb:W'.heap[b]? = W.heap[b]?):h0g P W' F' b cap e xs:=by
 obtain ⟨cs,T,k1,k2,k3,k4,k5,k6⟩:=h;exact ⟨cs,T,hb.trans k1,k2,k3,k4,k5,fun i hi=>(k6 i hi).later hl⟩
theorem RdB.later:∀(t:Ty) {D:Nat→Nat} {x:El t} {O:List Nat} {g:Get},RdB P D t x W F O g→Later W F W' F'→(∀b∈O,W'.heap[b]? = W.heap[b]?)→RdB P D t x W' F' O g:=by
 intro t;induction t with
 | unit=>exact fun h _ _=>h
 | pair a b iha ihb =>
  intro D x O g h hl hO;obtain ⟨O1,O2,rfl,h1,h2⟩:=h;exact ⟨O1,O2,rfl,iha h1 hl (fun b hb=>hO b (by simp[hb])),ihb h2 hl (fun b hb=>hO b (by simp[hb]))⟩
 | wrap e ih=>exact fun h hl hO=>ih h hl hO
 | own e _ =>
  intro D x O g h hl hO;rcases h with h | ⟨b,cap,h1,h2,rfl⟩
  ·exact .inl h
  ·exact .inr ⟨b,cap,h1,h2.later hl (hO b (by simp)),rfl⟩
 | ref e ih =>
  intro D x O g h hl hO;obtain ⟨b,arr,T,O',h1,h2,h3,h4,rfl,h5⟩:=h;exact ⟨b,arr,T,O',h1,(hO b (by simp)).trans h2,h3,h4,rfl,ih h5 hl (fun b hb=>hO b (by simp[hb]))⟩
 | opt e ih =>
  intro D x O g h hl hO;cases x with
  | none=>exact h
  | some y=>exact ⟨h.1,ih h.2 hl hO⟩
 | tk k=>exact fun h _ _=>h
 | tref k e ih =>
  intro D x O g h hl hO;obtain ⟨arr,T,O',h1,h2,h3,h4,rfl,h5⟩:=h;exact ⟨arr,T,O',h1,(hO _ (by simp)).trans h2,h3,h4,rfl,ih h5 hl (fun b hb=>hO b (by simp[hb]))⟩
 | row e _ =>
  intro D x O g h hl hO;obtain ⟨b,cap,h1,h2,rfl⟩:=h;exact ⟨b,cap,h1,⟨h2.1.later hl (hO b (by simp)),h2.2⟩,rfl⟩
 | seg e _ =>
  intro D x O g h hl hO;rcases h with h | ⟨b,cap,o,c,h1,h2,rfl⟩
  ·exact .inl h
  ·exact .inr ⟨b,cap,o,c,h1,⟨h2.1.later hl (hO b (by simp)),h2.2⟩,rfl⟩
 | sb T e =>
  intro D x O g h hl hO;obtain ⟨v,h1,h2⟩:=h;exact ⟨v,h1,h2.same hO⟩
 | seq e _ =>
  intro D x O g h hl hO;obtain ⟨v,h1,h2⟩:=h;exact ⟨v,h1,h2.later hl hO⟩
 | mp k e _ ih =>
  intro D x O g h hl hO;obtain ⟨v,h1,h2⟩:=h;exact ⟨v,h1,h2.mono hO fun i y O' u hs k=>⟨k.1,ih k.2 hl fun b hb=>hO b (hs b hb)⟩⟩
 | ls e ih =>
  intro D x O g h hl hO;obtain ⟨v,h1,h2⟩:=h;exact ⟨v,h1,h2.mono hO fun i y O' u hs k=>⟨k.1,ih k.2 hl fun b hb=>hO b (hs b hb)⟩⟩
 | _=>exact fun h hl _=>⟨h.1,h.2.later hl⟩
theorem f0m.later {t:Ty} {x:El t} {hole:Option (Nat×Cell)} {bs:List Nat} {v:Value} (hl:Later W F W' F') (hE:EnvLe E E') (hs:∀b∈bs,W'.heap[b]? = W.heap[b]?) (h:f0m P W F E t x hole bs v):f0m P W' F' E' t x hole bs v:=by
 cases t<;>first | exact h.elim | skip
 case sb T e=>exact ⟨h.1,h.2.same hs⟩
 case seq e=>exact ⟨h.1,h.2.later hl hs⟩
 case mp k e =>
  simp only[f0m] at h ⊢;refine o0g.mono h hs fun i y O u hO hr => ?_
  cases hole with
  | none=>exact ⟨hr.1,hr.2.later e hl fun b hb=>hs b (hO b hb)⟩
  | some jc =>
   obtain ⟨j,c⟩:=jc;dsimp only at hr ⊢;by_cases hij:i=j
   ·rw[if_pos hij] at hr ⊢;exact ⟨hr.1,hr.2.1,hr.2.2.later hl hE⟩
   ·rw[if_neg hij] at hr ⊢;exact ⟨hr.1,hr.2.later e hl fun b hb=>hs b (hO b hb)⟩
 case ls e =>
  simp only[f0m] at h ⊢;refine LsRd.mono h hs fun i y O u hO hr => ?_
  cases hole with
  | none=>exact ⟨hr.1,hr.2.later e hl fun b hb=>hs b (hO b hb)⟩
  | some jc =>
   obtain ⟨j,c⟩:=jc;dsimp only at hr ⊢;by_cases hij:i=j
   ·rw[if_pos hij] at hr ⊢;exact ⟨hr.1,hr.2.1,hr.2.2.later hl hE⟩
   ·rw[if_neg hij] at hr ⊢;exact ⟨hr.1,hr.2.later e hl fun b hb=>hs b (hO b hb)⟩
theorem f0m.one {t:Ty} {x:El t} {hole:Option (Nat×Cell)} {bs:List Nat} {v:Value} (h:f0m P W F E t x hole bs v):v.oneCell'=true:=by
 cases t<;>first | exact h.elim | skip
 case sb T e=>exact h.2.one
 case seq e=>exact h.2.one
 case mp k e=>simp only[f0m] at h;exact o0g.one h
 case ls e=>simp only[f0m] at h;exact LsRd.one h
structure Spare (W:World) (F:Fz) (W':World) (F':Fz) (b:Nat):Prop where
 same:W'.heap[b]? = W.heap[b]?
 free:¬F b→¬F' b
theorem f0e.later {L:Loc} {B:Blk} (hl:Later W F W' F') (hE:EnvLe E E') (hs:∀b,L.has b→Spare W F W' F' b) (k:f0e P W F E L B):f0e P W' F' E' L B:=by
 cases B with
 | box t cs fr =>
  obtain ⟨b,arr,T,rfl,h1,h2,h3,h4,h5⟩:=k;have hb:=hs b rfl;exact ⟨b,arr,T,rfl,by rw[hb.same];exact h1,h2.later hl hE,h3,fun e=>hb.free (h4 e),fun e=>hl.more b (h5 e)⟩
 | arr e xs fr =>
  rcases k with k | ⟨b,cap,rfl,h1,h2,h3⟩
  ·exact .inl k
  ·have hb:=hs b rfl;obtain ⟨cs,T,k1,k2,k3,k4,k5,k6⟩:=h1;exact .inr ⟨b,cap,rfl,⟨cs,T,by rw[hb.same];exact k1,k2,k3,k4,k5,fun i hi=>(k6 i hi).later hl⟩,fun e=>hb.free (h2 e),fun e=>hl.more b (h3 e)⟩
 | sealed n base top t x hole fr =>
  obtain ⟨v,bs,rfl,h1,h2,h3,h4,h5⟩:=k;refine ⟨v,bs,rfl,by rw[hE.m n top h2];exact h1,Nat.le_trans h2 (hE.top n),fun j hj hj' => ?_,fun b hb=>Nat.lt_of_lt_of_le (h4 b hb) hl.size,fun e => ?_⟩
  ·rw[hE.m n j (Nat.le_trans hj' h2)];exact h3 j hj hj'
  ·obtain ⟨k1,k2,k3⟩:=h5 e;exact ⟨k1.later hl hE fun b hb=>(hs b hb).same,k2,fun b hb=>(hs b hb).free (k3 b hb)⟩
def j1f (h:Heap) (E:EnvM) (n b:Nat):Prop:=∃m,m≠n∧atName h E m b
def a0p (h:Heap) (E:EnvM) (b:Nat):Prop:=∃m,atName h E m b
theorem HR.world (hr:HR P W F E N h) (hl:Later W F W' F') (hs:∀b,a0p h E b→Spare W F W' F' b):HR P W' F' E N h:=by
 refine ⟨hr.top,fun n ver b hb => ?_,hr.inj⟩;obtain ⟨h1,L,h2,h3⟩:=hr.blk n ver b hb;exact ⟨h1,L,h2,h3.later hl (EnvLe.refl E) fun x hx=>hs x ⟨n,ver,b,L,hb,h2,hx⟩⟩
theorem HR.grow (hr:HR P W F E N h) (hg:Grow W F W' F') (hF:∀b,F b→b<W.heap.size) (hh:∀b,a0p h E b→b<W.heap.size):HR P W' F' E N h :=
 hr.world (hg.later hF) fun b hb=>⟨hg.below.block b (hh b hb),fun hn hf=>by
  rcases hg.new b hf with k | k
  ·exact hn k
  ·have:=hh b hb;omega⟩
theorem HR.put (hr:HR P W F E N h) {n ver:Nat} {ob:Option Blk} (hN:N n) (hE:EnvLe E E')
  (htop:E'.top n=ver) (hoth:∀m,m≠n→E'.top m=E.top m) (hl:Later W F W' F')
  (hs:∀b,j1f h E n b→Spare W F W' F' b)
  (hblk:∀B,ob=some B→∃L,E'.m n ver=some L∧f0e P W' F' E' L B∧∀x,L.has x→¬j1f h E n x) :
  HR P W' F' E' N (h.set n (ver,ob)):=by
 have hget:∀(m:Nat),m≠n→(h.set n (ver,ob))[m]? = h[m]? := fun m hm=>by rw[List.getElem?_set_ne (fun e=>hm e.symm)]
 have hself:∀v b,(h.set n (ver,ob))[n]? = some (v,b)→v=ver∧b=ob:=by
  intro v b hb;rw[List.getElem?_set] at hb;simp only[if_true] at hb;split at hb
  ·injection hb with hb;injection hb with h1 h2;exact ⟨h1.symm,h2.symm⟩
  ·cases hb
 have old:∀(m:Nat) v b,m≠n→h[m]? = some (v,some b)→v≤E.top m:=by
  intro m v b _ hb;obtain ⟨h1,_⟩:=hr.blk m v b hb;exact Nat.le_of_eq (hr.top m v _ h1 hb)
 refine ⟨fun m v b hm hb => ?_,fun m v b hb => ?_,fun m1 m2 v1 v2 b1 b2 L M x hb1 hb2 hL hM hx hy => ?_⟩
 ·by_cases e:m=n
  ·subst e;rw[(hself v b hb).1,htop]
  ·rw[hget m e] at hb;rw[hoth m e];exact hr.top m v b hm hb
 ·by_cases e:m=n
  ·subst e;obtain ⟨rfl,hob⟩:=hself v _ hb;obtain ⟨L,k1,k2,_⟩:=hblk b hob.symm;exact ⟨hN,L,k1,k2⟩
  ·rw[hget m e] at hb;obtain ⟨k1,L,k2,k3⟩:=hr.blk m v b hb;refine ⟨k1,L,by rw[hE.m m v (old m v b e hb)];exact k2,k3.later hl hE fun x hx=>hs x ⟨m,e,v,b,L,hb,k2,hx⟩⟩
 ·by_cases e1:m1=n
  ·by_cases e2:m2=n
   ·rw[e1,e2]
   ·exfalso;subst e1;obtain ⟨rfl,hob⟩:=hself v1 _ hb1;obtain ⟨L',k1,_,k3⟩:=hblk b1 hob.symm;rw[k1] at hL;injection hL with hL;subst hL;rw[hget m2 e2] at hb2;rw[hE.m m2 v2 (old m2 v2 b2 e2 hb2)] at hM;exact k3 x hx ⟨m2,e2,v2,b2,M,hb2,hM,hy⟩
  ·rw[hget m1 e1] at hb1;rw[hE.m m1 v1 (old m1 v1 b1 e1 hb1)] at hL;by_cases e2:m2=n
   ·exfalso;subst e2;obtain ⟨rfl,hob⟩:=hself v2 _ hb2;obtain ⟨L',k1,_,k3⟩:=hblk b2 hob.symm;rw[k1] at hM;injection hM with hM;subst hM;exact k3 x hy ⟨m1,e1,v1,b1,L,hb1,hL,hx⟩
   ·rw[hget m2 e2] at hb2;rw[hE.m m2 v2 (old m2 v2 b2 e2 hb2)] at hM;exact hr.inj m1 m2 v1 v2 b1 b2 L M x hb1 hb2 hL hM hx hy
def EnvM.next (E:EnvM) (n:Nat) (L:Option Loc):EnvM :=
 { m:=fun m v=>if m=n∧v=E.top n+1 then L else E.m m v,top:=fun m=>if m=n then E.top n+1 else E.top m }
theorem EnvM.next_le (E:EnvM) (n:Nat) (L:Option Loc):EnvLe E (E.next n L):=by
 refine ⟨fun m => ?_,fun m v hv => ?_⟩
 ·simp only[EnvM.next];split
  ·rename_i e;subst e;omega
  ·exact Nat.le_refl _
 ·simp only[EnvM.next];rw[if_neg];rintro ⟨rfl,rfl⟩;omega
theorem EnvM.next_m (E:EnvM) (n:Nat) (L:Option Loc):(E.next n L).m n (E.top n+1)=L:=by simp[EnvM.next]
theorem EnvM.next_top (E:EnvM) (n:Nat) (L:Option Loc):(E.next n L).top n=E.top n+1:=by simp[EnvM.next]
theorem EnvM.next_other (E:EnvM) (n:Nat) (L:Option Loc) (m:Nat) (h:m≠n):(E.next n L).top m=E.top m:=by simp[EnvM.next,h]
theorem b0h (hr:HR P W F E N h) {n m b:Nat} (k1:atName h E n b) (k2:atName h E m b):n=m:=by
 obtain ⟨v1,b1,L1,h1,e1,l1⟩:=k1;obtain ⟨v2,b2,L2,h2,e2,l2⟩:=k2;exact hr.inj n m v1 v2 b1 b2 L1 L2 b h1 h2 e1 e2 l1 l2
def Blk.freeze:Blk→Blk
 | .box t cs _ => .box t cs true
 | .arr e xs _ => .arr e xs true
 | .sealed n base top t x hole _ => .sealed n base top t x hole true
theorem HR.freeze1 (hr:HR P W F E N h) {n ver:Nat} {B:Blk} (hb:h[n]? = some (ver,some B)) :
  HR P W (a0g F h E [n]) E N (h.set n (ver,some B.freeze)):=by
 obtain ⟨hN,L,hL,hB⟩:=hr.blk n ver B hb;refine hr.put hN (EnvLe.refl E) (hr.top n ver _ hN hb).symm (fun _ _=>rfl) (Later.same fun _ hb => .inl hb) ?_ ?_
 ·rintro b ⟨m,hm,hat⟩;refine ⟨rfl,fun hn hf => ?_⟩;rcases hf with hf | ⟨k,hk,hat'⟩
  ·exact hn hf
  ·simp at hk;subst hk;exact hm (b0h hr hat hat')
 ·intro B' hB';injection hB' with hB';subst hB';refine ⟨L,hL,?_,fun x hx => ?_⟩
  ·have hat:∀x,L.has x→a0g F h E [n] x:=fun x hx => .inr ⟨n,by simp,ver,B,L,hb,hL,hx⟩
   cases B with
   | box t cs fr =>
    obtain ⟨b,arr,T,rfl,h1,h2,h3,h4,h5⟩:=hB;exact ⟨b,arr,T,rfl,h1,h2.later (a0z [n]) (EnvLe.refl E),h3,fun e=>by simp at e,fun _=>hat b rfl⟩
   | arr e xs fr =>
    rcases hB with k | ⟨b,cap,rfl,h1,h2,h3⟩
    ·exact .inl k
    ·obtain ⟨cs,T,k1,k2,k3,k4,k5,k6⟩:=h1;exact .inr ⟨b,cap,rfl,⟨cs,T,k1,k2,k3,k4,k5,fun i hi=>(k6 i hi).later (a0z [n])⟩,fun e=>by simp at e,fun _=>hat b rfl⟩
   | sealed m base top t x hole fr =>
    obtain ⟨v,bs,rfl,h1,h2,h3,h4,h5⟩:=hB;exact ⟨v,bs,rfl,h1,h2,h3,h4,fun e=>by cases e⟩
  ·rintro ⟨m,hm,hat⟩;exact hm (b0h hr hat ⟨ver,B,L,hb,hL,hx⟩)
end
end Go.Flat
end
section
namespace Go.Flat
open Go.RowKit (Below)
section
variable {P:Program} {W W':World} {F F':Fz} {E E':EnvM} {h:Heap} {N:Nat→Prop}
theorem e0e (h:Heap) (u v:Ups):a0u h (u++v)=a0u (a0u h u) v:=by
 induction u generalizing h with
 | nil=>rfl
 | cons x r ih=>obtain ⟨n,ver,b⟩:=x;exact ih _
theorem j0r (h:Heap) (n:Nat) (r:List Nat):a0i h (n::r)=(match h[n]? with | some (ver,some B)=>[(n,ver,some B.freeze)] | _=>[])++a0i h r:=by
 conv=>lhs;unfold a0i
 cases hn:h[n]? with
 | none=>rfl
 | some p =>
  obtain ⟨ver,ob⟩:=p;cases ob with
  | none=>rfl
  | some B=>cases B<;>rfl
def k0h (h k:Heap):Prop:=∀m:Nat,k[m]? = h[m]? ∨ ∃ver B,h[m]? = some (ver,some B)∧k[m]? = some (ver,some B.freeze)
theorem Blk.freeze_freeze (B:Blk):B.freeze.freeze=B.freeze:=by cases B<;>rfl
theorem k0h.refl (h:Heap):k0h h h:=fun _ => .inl rfl
theorem k0h.atName {h k:Heap} (hk:k0h h k) (n b:Nat):atName k E n b↔atName h E n b:=by
 constructor
 ·rintro ⟨ver,B,L,h1,h2,h3⟩;rcases hk n with e | ⟨ver',B',e1,e2⟩
  ·exact ⟨ver,B,L,by rw[←e];exact h1,h2,h3⟩
  ·rw[e2] at h1;injection h1 with h1;injection h1 with h4 h5;subst h4;exact ⟨_,B',L,e1,h2,h3⟩
 ·rintro ⟨ver,B,L,h1,h2,h3⟩;rcases hk n with e | ⟨ver',B',e1,e2⟩
  ·exact ⟨ver,B,L,by rw[e];exact h1,h2,h3⟩
  ·rw[e1] at h1;injection h1 with h1;injection h1 with h4 h5;subst h4;exact ⟨_,_,L,e2,h2,h3⟩
theorem HR.freeze (ns:List Nat):∀ {k:Heap} {F:Fz},HR P W F E N k→k0h h k→HR P W (a0g F h E ns) E N (a0u k (a0i h ns))∧k0h h (a0u k (a0i h ns)):=by
 induction ns with
 | nil =>
  intro k F hr hk;refine ⟨hr.world (Later.same fun b hb => .inl hb) fun b _=>⟨rfl,fun hn hf => ?_⟩,hk⟩;rcases hf with hf | ⟨n,hn',_⟩
  ·exact hn hf
  ·cases hn'
 | cons n r ih =>
  intro k F hr hk;have split2:a0g (a0g F h E [n]) h E r=a0g F h E (n::r):=by
   funext b;apply propext;constructor
   ·rintro (h1 | ⟨m,hm,h1⟩)
    ·rcases h1 with h1 | ⟨m,hm,h1⟩
     ·exact .inl h1
     ·exact .inr ⟨m,by simp at hm;simp[hm],h1⟩
    ·exact .inr ⟨m,by simp[hm],h1⟩
   ·rintro (h1 | ⟨m,hm,h1⟩)
    ·exact .inl (.inl h1)
    ·simp at hm;rcases hm with rfl | hm
     ·exact .inl (.inr ⟨m,by simp,h1⟩)
     ·exact .inr ⟨m,hm,h1⟩
  rw[j0r,e0e,←split2];cases hn:h[n]? with
  | none =>
   have e:a0g F h E [n]=F:=by
    funext b;apply propext;constructor
    ·rintro (h1 | ⟨m,hm,ver,B,L,h1,_⟩)
     ·exact h1
     ·simp at hm;subst hm;rw[hn] at h1;cases h1
    ·exact .inl
   rw[e];exact ih hr hk
  | some p =>
   obtain ⟨ver,ob⟩:=p;cases ob with
   | none =>
    have e:a0g F h E [n]=F:=by
     funext b;apply propext;constructor
     ·rintro (h1 | ⟨m,hm,ver',B,L,h1,_⟩)
      ·exact h1
      ·simp at hm;subst hm;rw[hn] at h1;injection h1 with h1;injection h1 with _ h1;cases h1
     ·exact .inl
    rw[e];exact ih hr hk
   | some B =>
    have hkn:∃B',k[n]? = some (ver,some B')∧B'.freeze=B.freeze:=by
     rcases hk n with e | ⟨ver',B',e1,e2⟩
     ·exact ⟨B,by rw[e];exact hn,rfl⟩
     ·rw[hn] at e1;injection e1 with e1;injection e1 with e3 e4;injection e4 with e4;subst e3;subst e4;exact ⟨_,e2,Blk.freeze_freeze B⟩
    obtain ⟨B',hB1,hB2⟩:=hkn;have h1:=hr.freeze1 hB1;have e:a0g F k E [n]=a0g F h E [n]:=by
     funext b;apply propext;constructor
     ·rintro (h1 | ⟨m,hm,h1⟩)
      ·exact .inl h1
      ·exact .inr ⟨m,hm,(hk.atName m b).1 h1⟩
     ·rintro (h1 | ⟨m,hm,h1⟩)
      ·exact .inl h1
      ·exact .inr ⟨m,hm,(hk.atName m b).2 h1⟩
    rw[e,hB2] at h1;refine ih h1 (fun m => ?_);by_cases hm:m=n
    ·subst hm;have hlt:m<k.length:=by
      rcases Nat.lt_or_ge m k.length with h2 | h2
      ·exact h2
      ·rw[List.getElem?_eq_none h2] at hB1;cases hB1
     refine .inr ⟨ver,B,hn,?_⟩;show (k.set m (ver,some B.freeze))[m]? = _;rw[List.getElem?_set];simp[hlt]
    ·have e:(k.set n (ver,some B.freeze))[m]? = k[m]? := List.getElem?_set_ne (fun e=>hm e.symm);show (k.set n (ver,some B.freeze))[m]? = _∨∃v B',_∧(k.set n (ver,some B.freeze))[m]? = _;rw[e];exact hk m
def a0e (u:Ups):List Nat:=u.map (·.1)
structure OpPost (P:Program) (W:World) (F:Fz) (E:EnvM) (N:Nat→Prop) (h:Heap) (W':World) (F':Fz) (E':EnvM) (u:Ups):Prop where
 hr:HR P W' F' E' N (a0u h u)
 later:Later W F W' F'
 env:EnvLe E E'
 frame:∀b,b<W.heap.size→(∀n∈a0e u,¬atName h E n b)→W'.heap[b]? = W.heap[b]?
 fz:∀b,F' b→F b∨(∃n∈a0e u,atName h E n b)∨(W.heap.size≤b∧b<W'.heap.size)
 own:∀m b,m∈a0e u→atName (a0u h u) E' m b→(∃n∈a0e u,atName h E n b)∨(W.heap.size≤b∧b<W'.heap.size)
 tops:∀m,m ∉ a0e u→E'.top m=E.top m
theorem OpPost.refl (hr:HR P W F E N h):OpPost P W F E N h W F E [] :=
 ⟨hr,Later.refl W F,EnvLe.refl E,fun _ _ _=>rfl,fun _ hb => .inl hb,(fun _ _ hm=>by cases hm),fun _ _=>rfl⟩
def Rnd (r:Option Nat):Fence := { Fence.wide with round:=r }
theorem p0l {rd:Option Nat} {n:Nat} {f:FuncId} {args:Array Value} {w:World} {R:Ending→World→Prop} (h:Calls P f args w R):CallsIn (Rnd rd) n P f args w R :=
 (callsIn_wide (n:=n)).2 h
def OpOk (P:Program) (o:Oper) (a:Act) (W:World) (F:Fz) (E:EnvM) (N:Nat→Prop) (h:Heap) (x:V) (u:Ups):Prop :=
 ∀(rd:Option Nat) (next:Act→World→Prop) (Q:Exit→Act→World→Prop),o.semAt rd a.eval=execOp a.eval o →
  (∀v W' F' E',OpPost P W F E N h W' F' E' u→RdV P W' F' E' x v→next (a.put o.dst v) W')→o.wpIn (Rnd rd) 0 P a W next Q
theorem OpOk.value {o:Oper} {a:Act} {x:V} {v:Value} (hr:HR P W F E N h) (hrun:(execOp a.eval o).run P W = .ok (.value v) W) (hv:RdV P W F E x v):OpOk P o a W F E N h x []:=by
 intro rd next Q hsem hn;refine ⟨fun _ _=>trivial,?_⟩;rw[show (Rnd rd).round=rd from rfl,hsem,hrun];exact hn v W F E (OpPost.refl hr) hv
theorem OpOk.grow {o:Oper} {a:Act} {x:V} {v:Value} (hr:HR P W F E N h) (hF:∀b,F b→b<W.heap.size) (hh:∀b,a0p h E b→b<W.heap.size)
  (hrun:(execOp a.eval o).run P W = .ok (.value v) W') (hg:Grow W F W' F') (hv:RdV P W' F' E x v):OpOk P o a W F E N h x []:=by
 intro rd next Q hsem hn;refine ⟨fun _ _=>trivial,?_⟩;rw[show (Rnd rd).round=rd from rfl,hsem,hrun];refine hn v W' F' E ⟨hr.grow hg hF hh,hg.later hF,EnvLe.refl E,fun b hb _=>hg.below.block b hb,fun b hb => ?_,(fun m b hm _=>by cases hm),fun _ _=>rfl⟩ hv;rcases hg.new b hb with k | k
 ·exact .inl k
 ·exact .inr (.inr k)
end
end Go.Flat
end
section
namespace Go.Flat
open Go.RowKit (Below)
def t0t:Cell→Option Value
 | .val .bool b=>some (.bool b)
 | .val (.int k) n=>some (.int k n)
 | .val .str s=>some (.string ⟨s.toArray⟩)
 | .np=>some (.pointer none)
 | .ns=>some (.slice none 0 0)
 | .nf=>some .nilFunc
 | .nm=>some (.map none)
 | _=>none
def eqLit:Value→Value→Bool
 | .bool a,.bool b=>a==b
 | .int k a,.int l b=>decide (k=l)&&decide (a=b)
 | .string a,.string b=>decide (a.data.toList=b.data.toList)
 | .pointer none,.pointer none=>true
 | .slice none 0 0,.slice none 0 0=>true
 | .nilFunc,.nilFunc=>true
 | .map none,.map none=>true
 | _,_=>false
theorem x0v:∀ {a b:Value},eqLit a b=true→a=b:=by
 intro a b h;unfold eqLit at h;split at h
 ·simp at h;rw[h]
 ·simp at h;rw[h.1,h.2]
 ·simp at h;rename_i x y;have e:x=y:=by
   cases x;cases y;simp only[ByteArray.mk.injEq];exact h
  rw[e]
 ·rfl
 ·rfl
 ·rfl
 ·rfl
 ·cases h
def p0d:List Value→List Cell→Bool
 | [],[]=>true
 | v::vs,c::cs=>(match t0t c with | some u=>eqLit v u | none=>false)&&p0d vs cs
 | _,_=>false
theorem g1f {P:Program} {W:World} {F:Fz} {E:EnvM} {c:Cell} {v:Value} (h:t0t c=some v):b0q P W F E c v∧v.oneCell'=true:=by
 unfold t0t at h;split at h<;>(try (cases h))<;>first
  | exact ⟨⟨rfl,rfl,rfl⟩,rfl⟩
  | exact ⟨rfl,rfl⟩
  | exact ⟨⟨none,rfl⟩,rfl⟩
theorem e0r {P:Program} {W:World} {F:Fz} {E:EnvM}:∀ {vs:List Value} {cs:List Cell},p0d vs cs=true→a0d P W F E cs vs:=by
 intro vs;induction vs with
 | nil=>intro cs h;cases cs with
  | nil=>exact a0d.nil
  | cons=>cases h
 | cons v vs ih =>
  intro cs h;cases cs with
  | nil=>cases h
  | cons c cs =>
   simp only[p0d,Bool.and_eq_true] at h;obtain ⟨h1,h2⟩:=h;cases hc:t0t c with
   | none=>rw[hc] at h1;cases h1
   | some u =>
    rw[hc] at h1;have:=x0v h1;subst this;exact a0d.cons.2 ⟨g1f hc,ih h2⟩
def aggB (P:Program) (t:TypeId):Bool:=match P.underlying t with | some (.struct _) | some (.array _ _)=>true | _=>false
def fieldsB:List Field→List (Nat×Nat)→Bool
 | [],[]=>true
 | f::fs,x::xs=>Nat.beq f.offset x.1&&(Nat.beq f.type x.2&&fieldsB fs xs)
 | _,_=>false
def shpB (P:Program) (t:TypeId) (s:Shp):Bool :=
 match s,P.underlying t with
 | .struct fs,some (.struct gs)=>fieldsB gs.toList fs
 | .arr n e,some (.array m d)=>Nat.beq n m&&Nat.beq e d
 | .slice e,some (.slice d)=>Nat.beq e d
 | .str,some .string=>true
 | .int k,some (.int l)=>decide (k=l)
 | .bld _,some (.struct _) =>
  match P.info? t with
  | some ti=>match ti.zero with | some z=>p0d z.cells.toList [.np,.ns] | none=>false
  | none=>false
 | .map k e,some (.map k' e')=>Nat.beq k k'&&Nat.beq e e'
 | .other,_=>true
 | _,_=>false
def l0p (P:Program) (t:TypeId) (e:Ty):Bool :=
 match P.info? t with
 | some ti=>Nat.beq ti.size (width e)&&((agg e==aggB P t)&&((agg e||Nat.beq (width e) 1)&&(P.underlying t).isSome))
 | none=>false
def k0b (P:Program) (self:TypeId→Ty→Bool):List Field→Ty→Nat→Bool
 | [],.unit,_=>true
 | [f], e, off => (f.name != "_") && (Nat.beq f.offset off && (l0p P f.type e && self f.type e))
 | f :: g :: r, .pair a b, off => (f.name != "_") && (Nat.beq f.offset off && (l0p P f.type a && (self f.type a && k0b P self (g :: r) b (off + width a))))
 | _,_,_=>false
def f0i (P:Program) (self:TypeId→Ty→Bool) (el:TypeId):Nat→Ty→Bool
 | 0,.unit=>true
 | 1,e=>l0p P el e&&self el e
 | n+2,.pair a b=>l0p P el a&&(self el a&&f0i P self el (n+1) b)
 | _,_=>false
def j1x (P:Program):Nat→TypeId→Ty→Bool
 | 0,_,_=>false
 | d+1,t,c =>
  match P.underlying t,c with
  | some .bool,.bool=>true
  | some (.int _),.int _=>true
  | some .string,.str=>true
  | some (.struct fs),.wrap e => !P.stoodInHeld t&&k0b P (j1x P d) fs.toList e 0
  | some (.array n el),.wrap e=>(P.info? el).isSome&&f0i P (j1x P d) el n e
  | _,_=>false
def eqB (P:Program) (t:TypeId) (i:TI):Bool :=
 match i.eq,P.underlying t with
 | 0,_=>true
 | 1,some (.pointer _)=>true
 | 2,some (.func _ _ _)=>true
 | 4,some .bool=>true
 | 5,some (.slice _)=>true
 | 6,some (.interface _)=>true
 | 3,_=>match i.ty with | some c=>agg c&&(!P.eqGuardType P.depth t&&j1x P 10000 t c) | none=>false
 | _,_=>false
def infoB (P:Program) (t:TypeId) (i:TI):Bool :=
 match P.info? t with
 | some ti =>
  eqB P t i&&(Nat.beq ti.size i.cells&&(Nat.beq ti.bytes i.bytes&&(shpB P t i.shp &&
   (match i.ty with
    | none=>true
    | some c=>Nat.beq (width c) i.cells&&((agg c==aggB P t)&&((agg c||Nat.beq (width c) 1)&&((P.underlying t).isSome&&(match ti.zero with | some z=>p0d z.cells.toList (zeroCells c)&&((agg c==(match z with | .agg _=>true | _=>false))) | none=>false))))))))
 | none=>false
structure InfoOk (P:Program) (t:TypeId) (i:TI):Prop where
 info:∃ti,P.info? t=some ti∧ti.size=i.cells∧ti.bytes=i.bytes ∧
  (∀c,i.ty=some c→∃z,ti.zero=some z∧p0d z.cells.toList (zeroCells c)=true∧(agg c=true↔∃l,z = .agg l))
 ty:∀c,i.ty=some c→width c=i.cells∧agg c=aggB P t∧(agg c=false→width c=1)∧∃d,P.underlying t=some d
 shp:shpB P t i.shp=true
 eq:eqB P t i=true
theorem infoB_ok {P:Program} {t:TypeId} {i:TI} (h:infoB P t i=true):InfoOk P t i:=by
 unfold infoB at h;split at h
 case h_2=>cases h
 rename_i ti hti;simp only[Bool.and_eq_true] at h;obtain ⟨h0,h1,h2,h3,h4⟩:=h;refine ⟨⟨ti,hti,Nat.eq_of_beq_eq_true h1,Nat.eq_of_beq_eq_true h2,fun c hc => ?_⟩,fun c hc => ?_,h3,h0⟩
 ·rw[hc] at h4;simp only[Bool.and_eq_true] at h4;obtain ⟨_,_,_,_,h5⟩:=h4;split at h5
  case h_2=>cases h5
  rename_i z hz;simp only[Bool.and_eq_true,beq_iff_eq] at h5;refine ⟨z,hz,h5.1,?_⟩;rw[h5.2];cases z<;>simp
 ·rw[hc] at h4;simp only[Bool.and_eq_true,beq_iff_eq] at h4;refine ⟨Nat.eq_of_beq_eq_true h4.1,h4.2.1,fun e => ?_,Option.isSome_iff_exists.1 h4.2.2.2.1⟩;have:=h4.2.2.1;rw[e] at this;exact Nat.eq_of_beq_eq_true (by simpa using this)
def e0d (cx:Cx):Prop:=∀t i,cx.info t=some i→InfoOk cx.P t i
def BT.allB {α:Type} (p:Nat→α→Bool):BT α→(Nat→Nat)→Bool
 | .nil,_=>true
 | .node l r v,ix=>(match v with | some x=>p (ix 0) x | none=>true)&&(l.allB p (fun n=>ix (2*n+1))&&r.allB p (fun n=>ix (2*n+2)))
theorem BT.get_all {α:Type} {p:Nat→α→Bool}:∀(t:BT α) (ix:Nat→Nat),t.allB p ix=true→∀n x,t.get n=some x→p (ix n) x=true:=by
 intro t;induction t with
 | nil=>intro ix _ n x h;cases h
 | node l r v ihl ihr =>
  intro ix h n x hx;simp only[BT.allB,Bool.and_eq_true] at h;obtain ⟨h1,h2,h3⟩:=h;unfold BT.get at hx;cases hn:Nat.beq n 0 with
  | true =>
   rw[hn] at hx;have:=Nat.eq_of_beq_eq_true hn;subst this;simp only[cond_true] at hx;rw[hx] at h1;exact h1
  | false =>
   rw[hn] at hx;simp only[cond_false] at hx;have hne:n≠0:=fun e=>by subst e;cases hn
   cases ho:Nat.beq (n % 2) 1 with
   | true =>
    rw[ho] at hx;have:=Nat.eq_of_beq_eq_true ho;have e:n=2*(n / 2)+1:=by omega
    rw[e];exact ihl _ h2 (n / 2) x hx
   | false =>
    rw[ho] at hx;have hn1:n % 2≠1:=fun e=>by rw[e] at ho;cases ho
    have e:n=2*(n / 2-1)+2:=by omega
    rw[e];exact ihr _ h3 (n / 2-1) x hx
section
variable {P:Program} {W W':World} {F F':Fz} {E E':EnvM} {h:Heap} {N:Nat→Prop}
theorem oneCell_cells {v:Value} (h:v.oneCell'=true):v.cells = #[v]:=by
 cases v<;>simp_all [Value.oneCell',Value.cells]
theorem RdV.single {c:Cell} {v:Value} (h:RdV P W F E (.v false [c]) v):b0q P W F E c v∧v.oneCell'=true:=by
 obtain ⟨h1,_,h3⟩:=h;have ho:=h3 rfl;rw[oneCell_cells ho] at h1;exact h1.2 0 c v rfl rfl
theorem RdV.mk1 {c:Cell} {v:Value} (h:b0q P W F E c v) (ho:v.oneCell'=true):RdV P W F E (.v false [c]) v :=
 ⟨by rw[oneCell_cells ho];exact a0d.one h ho,(fun e=>by cases e),fun _=>ho⟩
theorem n0y {b:Bool} {v:Value} (h:RdV P W F E (.v false [.val .bool b]) v):v = .bool b:=by
 have:=h.single.1.2.2
 simpa [Rd,RdP] using this
theorem g0t {k:IntKind} {n:Int} {v:Value} (h:RdV P W F E (.v false [.val (.int k) n]) v):v = .int k n:=by
 have:=h.single.1.2.2
 simpa [Rd,RdP] using this
theorem n0p {s:List UInt8} {v:Value} (h:RdV P W F E (.v false [.val .str s]) v):v = .string ⟨s.toArray⟩:=by
 have:=h.single.1.2.2
 simpa [Rd,RdP] using this
theorem d0d (b:Bool):RdV P W F E (.v false [.val .bool b]) (.bool b):=RdV.mk1 ⟨rfl,rfl,rfl⟩ rfl
theorem e0m (k:IntKind) (n:Int):RdV P W F E (.v false [.val (.int k) n]) (.int k n):=RdV.mk1 ⟨rfl,rfl,rfl⟩ rfl
theorem d1d (s:List UInt8):RdV P W F E (.v false [.val .str s]) (.string ⟨s.toArray⟩):=RdV.mk1 ⟨rfl,rfl,rfl⟩ rfl
theorem e0g {t:TypeId} {i:TypeInfo} {b o:Nat} {vs:List Value} (hi:P.info? t=some i) (hd:∃d,P.underlying t=some d) (hl:vs.length=i.size)
  (hc:∀j,j<vs.length→W.cell? ⟨b,o+j,none⟩=vs[j]?) (hone:aggB P t=false→vs.length=1) :
  (loadVar t ⟨b,o,none⟩).run P W = .ok (if aggB P t=true then .agg vs.toArray else vs.headD .nilFunc) W:=by
 obtain ⟨d,hd⟩:=hd;have hload:(loadCells ⟨b,o,none⟩ i.size).run P W = .ok vs.toArray W:=by
  rw[←hl];refine run_loadCells_list (P:=P) (w:=W) ⟨b,o,none⟩ vs fun j v hv => ?_
  have hj:j<vs.length:=by
   rcases Nat.lt_or_ge j vs.length with k | k
   ·exact k
   ·rw[List.getElem?_eq_none k] at hv;cases hv
  have e:(⟨b,o,none⟩:Addr).add j=⟨b,o+j,none⟩:=by unfold Addr.add;split<;>simp_all
  rw[e,hc j hj,hv]
 cases hag:aggB P t with
 | true =>
  simp only[if_true];unfold loadVar isAgg;unfold aggB at hag;rw[hd] at hag;cases d<;>simp_all [run_underlying hd,sizeOf,typeInfo]
 | false =>
  have h1:=hone hag
  match vs,h1 with
  | [v],_ =>
   have:=hc 0 (by simp);simp at this;unfold loadVar isAgg;unfold aggB at hag;rw[hd] at hag;have hl1:(load ⟨b,o,none⟩).run P W = .ok v W:=by
    simp[load,Sem.run,this]
   cases d<;>simp_all [run_underlying hd]
end
end Go.Flat
end
section
namespace Go.Flat
open Go.RowKit (Below)
theorem b0k? {α:Type} {l:Array α} {b:Nat} {x:α} (h:l[b]? = some x):b<l.size:=by
 rcases Nat.lt_or_ge b l.size with k | k
 ·exact k
 ·rw[Array.getElem?_eq_none k] at h;cases h
section
variable {P:Program} {W W':World} {F F':Fz} {E E':EnvM} {h:Heap} {N:Nat→Prop}
theorem HR.lt (hr:HR P W F E N h):∀b,a0p h E b→b<W.heap.size:=by
 rintro b ⟨n,ver,B,L,h1,h2,h3⟩;obtain ⟨_,L',k1,k2⟩:=hr.blk n ver B h1;rw[h2] at k1;injection k1 with k1;subst k1;cases B with
 | box t cs fr =>
  obtain ⟨b',arr,T,rfl,m1,_⟩:=k2;have h3:b=b':=h3;subst h3;exact b0k? m1
 | arr e xs fr =>
  rcases k2 with ⟨rfl,_⟩ | ⟨b',cap,rfl,⟨cs,T,m1,_⟩,_⟩
  ·cases h3
  ·have h3:b=b':=h3;subst h3;exact b0k? m1
 | sealed m base top t x hole fr =>
  obtain ⟨v,bs,rfl,m1,m2,m3,m4,_⟩:=k2;exact m4 b h3
end
structure Ctx (cx:Cx) (call:Oracle cx) (W:World) (F:Fz) (E:EnvM) (N:Nat→Prop) (h:Heap) (ρ:Operand→V) (a:Act):Prop where
 hc:CallSound cx call W F
 tab:e0d cx
 hr:HR cx.P W F E N h
 ρ:∀x,RdV cx.P W F E (ρ x) (a.eval x)
 hF:∀b,F b→b<W.heap.size
section
variable {cx:Cx} {call:Oracle cx} {fx:Hints} {W W':World} {F F':Fz} {E E':EnvM} {h:Heap} {N:Nat→Prop} {ρ:Operand→V} {a:Act} {R:Type}
def a0r (cx:Cx) (W:World) (F:Fz) (E:EnvM) (N:Nat→Prop) (h:Heap) (a:Act) (o:Oper) (k:V→Ups→Option R) (r:R):Prop :=
 ∃x u,k x u=some r∧OpOk cx.P o a W F E N h x u
theorem a0r.value {o:Oper} {k:V→Ups→Option R} {r:R} {x:V} {v:Value} (c:Ctx cx call W F E N h ρ a) (hk:k x []=some r)
  (hrun:(execOp a.eval o).run cx.P W = .ok (.value v) W) (hv:RdV cx.P W F E x v):a0r cx W F E N h a o k r :=
 ⟨x,[],hk,OpOk.value c.hr hrun hv⟩
theorem i1r {o:Oper} {k:V→Ups→Option R} {r:R} {x:Operand} (c:Ctx cx call W F E N h ρ a) (ho:o.op = .move x∨o.op = .assign x) (hk:k (ρ x) []=some r) :
  a0r cx W F E N h a o k r:=by
 refine a0r.value c hk (v:=a.eval x) ?_ (c.ρ x);rcases ho with ho | ho<;>simp[execOp,ho]
theorem op_pick {o:Oper} {k:V→Ups→Option R} {r:R} {z x y:Operand} {b:Bool} (c:Ctx cx call W F E N h ρ a) (ho:o.op = .pick z x y) (hz:ρ z = .v false [.val .bool b])
  (hk:(bif b then k (ρ x) [] else k (ρ y) [])=some r):a0r cx W F E N h a o k r:=by
 have hb:=c.ρ z;rw[hz] at hb;have hb:=n0y hb;cases b with
 | true=>exact a0r.value c hk (v:=a.eval x) (by simp[execOp,ho,hb,asBool]) (c.ρ x)
 | false=>exact a0r.value c hk (v:=a.eval y) (by simp[execOp,ho,hb,asBool]) (c.ρ y)
def AddrAt (P:Program) (W:World) (F:Fz) (E:EnvM) (v:Value) (cs:List Cell):Prop :=
 ∃b o,∃vs:List Value,v = .pointer (some ⟨b,o,none⟩)∧a0d P W F E cs vs∧∀j,j<vs.length→W.cell? ⟨b,o+j,none⟩=vs[j]?
theorem t0q {P:Program} {cs:List Cell} {vs:List Value} {off w:Nat} {c:List Cell} (hc:cut cs off w=some c) (hv:a0d P W F E cs vs) :
  off+w≤vs.length∧a0d P W F E c ((vs.drop off).take w)∧c.length=w:=by
 unfold cut at hc;split at hc
 ·rename_i hle;injection hc with hc;subst hc;have:=hv.1;exact ⟨by omega,(hv.drop off).take w,by simp;omega⟩
 ·cases hc
theorem o0f {P:Program} (hr:HR P W F E N h) {n ver:Nat} {t:Ty} {cs:List Cell} {fr:Bool} (hn:h[n]? = some (ver,some (.box t cs fr))) :
  ∃b arr T,E.m n ver=some (.box b)∧W.heap[b]? = some (.cells arr T (0,0))∧a0d P W F E cs arr.toList∧cs.length=width t∧(fr=false→¬F b)∧(fr=true→F b):=by
 obtain ⟨_,L,hL,b,arr,T,rfl,k1,k2,k3,k4,k5⟩:=hr.blk n ver _ hn;exact ⟨b,arr,T,hL,k1,k2,k3,k4,k5⟩
theorem c0p {P:Program} (hr:HR P W F E N h) {n ver:Nat} {e:Ty} {xs:List (El e)} {fr:Bool} (hn:h[n]? = some (ver,some (.arr e xs fr))) :
  (E.m n ver=some .nil∧xs=[])∨∃b cap,E.m n ver=some (.arr b (width e) xs.length cap)∧h0g P W F b cap e xs∧(fr=false→¬F b)∧(fr=true→F b):=by
 obtain ⟨_,L,hL,k⟩:=hr.blk n ver _ hn;rcases k with ⟨rfl,k⟩ | ⟨b,cap,rfl,k⟩
 ·exact .inl ⟨hL,k⟩
 ·exact .inr ⟨b,cap,hL,k⟩
theorem rowK_rd {e:Ty} {xs:List (El e)} {cs:Array Value} (q:∀i (h:i<xs.length),Rd cx.P e xs[i] W F (fun j=>cs[i*width e+j]?)):∀(n j:Nat) (k:List Cell→Option R) (r:R),rowK e xs n j k=some r →
  ∃c vs,k c=some r∧a0d cx.P W F E c vs∧∀p,p<vs.length→cs[j*width e+p]? = vs[p]? := by
 intro n;induction n with
 | zero=>intro j k r h;exact ⟨[],[],h,a0d.nil,fun p hp=>by simp at hp⟩
 | succ n ih =>
  intro j k r h;unfold rowK at h;cases hx:xs[j]? with
  | none=>rw[hx] at h;cases h
  | some y =>
   rw[hx] at h;simp only[Option.bind_some] at h;obtain ⟨hj,hy⟩:=List.getElem?_eq_some_iff.1 hx;obtain ⟨us,m1,m2,m3⟩:=h0x (E:=E) e y _ (hy ▸ q j hj);obtain ⟨c,vs,h1,h2,h3⟩:=ih (j+1) _ r h;refine ⟨_,us++vs,h1,m3.append h2,fun p hp => ?_⟩;rw[List.length_append] at hp;by_cases hlt:p<us.length
   ·rw[List.getElem?_append_left hlt];exact m2 p (by omega)
   ·rw[List.getElem?_append_right (by omega),←h3 (p-us.length) (by omega)];congr 1;rw[Nat.succ_mul];omega
theorem x0k {w:Nat} {c:Cell} {k:List Cell→Option R} {r:R} (hr:HR cx.P W F E N h) (hk:o0y h w c k=some r) {v:Value} (hv:b0q cx.P W F E c v) :
  ∃cs,k cs=some r∧cs.length=w∧AddrAt cx.P W F E v cs:=by
 unfold o0y at hk;split at hk
 ·-- a box of one's own
  rename_i n ver off;split at hk
  case h_2=>cases hk
  rename_i ver' t cs fr hn;split at hk
  case isFalse=>cases hk
  rename_i e;subst e;split at hk
  case h_2=>cases hk
  rename_i c hcut;obtain ⟨b,arr,T,k1,k2,k3,_⟩:=o0f hr hn;have hp:v = .pointer (some ⟨b,off,none⟩):=hv.2.2 _ k1;obtain ⟨m1,m2,m3⟩:=t0q hcut k3;refine ⟨c,hk,m3,b,off,_,hp,m2,fun j hj => ?_⟩;simp at hj;rw[cell_of_row W b _ arr T (0,0) k2,List.getElem?_take];simp[show j<w by omega]
 ·-- closed memory
  rename_i t x off;split at hk
  case h_2=>cases hk
  rename_i c hcut;obtain ⟨b,o,rfl,k1,k2⟩:=hv;obtain ⟨vs,m1,m2,m3⟩:=h0x (E:=E) t x _ k2;obtain ⟨n1,n2,n3⟩:=t0q hcut m3;refine ⟨c,hk,n3,b,o+off,_,rfl,n2,fun j hj => ?_⟩;simp at hj;have:=m2 (off+j) (by omega);simp only[mem] at this;rw[Nat.add_assoc,this,List.getElem?_take];simp[show j<w by omega]
 ·-- an element of an array of one's own
  rename_i n ver i off;split at hk
  case h_2=>cases hk
  rename_i ver' e xs fr hn;split at hk
  case isFalse=>cases hk
  rename_i e';subst e';cases hb:Nat.ble (off+w) (width e) with
  | false =>
   rw[hb] at hk;simp only[cond_false] at hk;cases hb2:Nat.beq i 0&&Nat.beq off 0 with
   | false=>rw[hb2] at hk;cases hk
   | true =>
    rw[hb2] at hk;simp only[cond_true] at hk;rw[Bool.and_eq_true] at hb2;obtain ⟨hi0,ho0⟩:=hb2;have hi0:=Nat.eq_of_beq_eq_true hi0;have ho0:=Nat.eq_of_beq_eq_true ho0;subst hi0;subst ho0;rcases c0p hr hn with ⟨k1,_⟩ | ⟨b,cap,k1,⟨cs,T,q1,q2,q3,q4,q5,q6⟩,_⟩
    ·exact (hv.2.2 _ k1:False).elim
    ·have hp:v = .pointer (some ⟨b,0*width e+0,none⟩):=hv.2.2 _ k1;rw[w0x] at hk;obtain ⟨c,vs,m1,m2,m3⟩:=rowK_rd (E:=E) q6 _ _ _ _ hk;cases hc:Nat.beq c.length w with
     | false=>rw[hc] at m1;cases m1
     | true =>
      rw[hc] at m1;refine ⟨c,m1,Nat.eq_of_beq_eq_true hc,b,0*width e+0,vs,hp,m2,fun j hj => ?_⟩;rw[cell_of_row W b _ cs T.1.1 T.1.2 q1,Nat.add_zero,m3 j hj]
  | true =>
  rw[hb] at hk;simp only[cond_true] at hk;cases hx:xs[i]? with
  | none=>rw[hx] at hk;cases hk
  | some y =>
   rw[hx] at hk;simp only[Option.bind_some] at hk;split at hk
   case h_2=>cases hk
   rename_i c hcut;have hi:i<xs.length:=by
    rcases Nat.lt_or_ge i xs.length with q | q
    ·exact q
    ·rw[List.getElem?_eq_none q] at hx;cases hx
   have hy:xs[i]=y:=by rw[List.getElem?_eq_getElem hi] at hx;injection hx
   rcases c0p hr hn with ⟨_,rfl⟩ | ⟨b,cap,k1,⟨cs,T,q1,q2,q3,q4,q5,q6⟩,_⟩
   ·simp at hi
   ·have hp:v = .pointer (some ⟨b,i*width e+off,none⟩):=hv.2.2 _ k1;obtain ⟨vs,m1,m2,m3⟩:=h0x (E:=E) e y _ (hy ▸ q6 i hi);obtain ⟨n1,n2,n3⟩:=t0q hcut m3;refine ⟨c,hk,n3,b,_,_,hp,n2,fun j hj => ?_⟩;simp at hj;have:=m2 (off+j) (by omega);rw[cell_of_row W b _ cs T.1.1 T.1.2 q1,Nat.add_assoc,this,List.getElem?_take];simp[show j<w by omega]
 ·cases hk
structure TyOf (cx:Cx) (t:TypeId) (c:Ty):Prop where
 ti:∃ti,cx.P.info? t=some ti∧ti.size=width c∧(∃z,ti.zero=some z∧p0d z.cells.toList (zeroCells c)=true∧(agg c=true↔∃l,z = .agg l))
 ag:agg c=aggB cx.P t
 w:cx.cells t=width c
 one:agg c=false→width c=1
 und:∃d,cx.P.underlying t=some d
theorem k0k {t:TypeId} {c:Ty} (ht:e0d cx) (h:cx.ty t=some c):TyOf cx t c:=by
 unfold Cx.ty at h;split at h
 case h_2=>cases h
 rename_i i hi;obtain ⟨⟨ti,h1,h2,h3,h4⟩,h5,h6⟩:=ht t i hi;obtain ⟨k1,k2,k3,k4⟩:=h5 c h;exact ⟨⟨ti,h1,h2.trans k1.symm,h4 c h⟩,k2,by unfold Cx.cells;rw[hi];exact k1.symm,k3,k4⟩
theorem a0d.mkV {P:Program} {cs:List Cell} {vs:List Value} {ag:Bool} (hv:a0d P W F E cs vs) (h1:ag=false→cs.length=1) :
  RdV P W F E (.v ag cs) (if ag=true then .agg vs.toArray else vs.headD .nilFunc):=by
 cases ag with
 | true=>exact ⟨by simpa [Value.cells] using hv,fun _=>⟨_,rfl⟩,fun e=>by cases e⟩
 | false =>
  obtain ⟨c,rfl⟩:=List.length_eq_one_iff.1 (h1 rfl);obtain ⟨v,r,rfl,k1,k2,_⟩:=hv.uncons;exact RdV.mk1 k1 k2
theorem op_load {o:Oper} {k:V→Ups→Option R} {r:R} {t:TypeId} {x:Operand} {c:Ty} {d:Cell} (cc:Ctx cx call W F E N h ρ a) (ho:o.op = .load t x)
  (hc:cx.ty t=some c) (hx:ρ x = .v false [d]) (hk:o0y h (width c) d (fun cs=>k (.v (agg c) cs) [])=some r):a0r cx W F E N h a o k r:=by
 have hv:=cc.ρ x;rw[hx] at hv;obtain ⟨cs,k1,k2,b,o',vs,k3,k4,k5⟩:=x0k cc.hr hk hv.single.1;obtain ⟨⟨ti,t1,t2,_⟩,t3,t4,t5,t6⟩:=k0k cc.tab hc;have hl:vs.length=ti.size:=by rw[←k4.1,k2,t2]
 have hrun:=e0g (P:=cx.P) (W:=W) (b:=b) (o:=o') t1 t6 hl k5 (fun e=>by rw[hl,t2];exact t5 (t3.trans e));refine a0r.value cc k1 (v:=_) ?_ (k4.mkV (fun e=>by rw[k2];exact t5 e));rw[t3];simp[execOp,ho,Instr.loadAt,k3,Instr.sureAddr,hrun]
theorem x0z {P:Program} {x:V} {v:Value} (h:RdV P W F E x v):RdV P W F E (deRow x) v:=by
 unfold deRow;split
 ·rename_i n ver;obtain ⟨g1,g2,g3⟩:=h.single.1;refine RdV.mk1 ⟨g1,g2,fun L hL => ?_⟩ (h.2.2 rfl);have:=g3 L hL;cases L with
  | box b=>exact this.elim
  | nil=>exact this.elim
  | tree w bs=>exact this.elim
  | arr b w len cap =>
   obtain ⟨rfl,_⟩:=this;show _=Value.pointer (some ⟨b,0*w+0,none⟩);simp
 ·exact h
theorem Ctx.deRow (cc:Ctx cx call W F E N h ρ a):Ctx cx call W F E N h (fun x=>Flat.deRow (ρ x)) a := { cc with ρ:=fun x=>x0z (cc.ρ x) }
theorem z0r {x:V} {n:Int} (h:h0p x=some n):h0p (Flat.deRow x)=some n:=by
 unfold Flat.deRow;split
 ·cases h
 ·exact h
theorem i1w {P:Program} {c:Cell} {v:Value} (hn:isNil c=some false) (hv:b0q P W F E c v):(∃p,v = .pointer (some p))∨(∃f caps,v = .func (.func f) #[] caps):=by
 unfold isNil at hn;split at hn<;>(try (cases hn))
 ·obtain ⟨b,o,rfl,_⟩:=hv;exact .inl ⟨_,rfl⟩
 ·obtain ⟨_,⟨L,hL⟩,h2⟩:=hv;have:=h2 L hL;cases L<;>simp[c0w] at this;exact .inl ⟨_,this⟩
 ·obtain ⟨_,⟨L,hL⟩,h2⟩:=hv;have:=h2 L hL;cases L<;>simp[c0w] at this;exact .inl ⟨_,this⟩
 ·obtain ⟨_,⟨L,hL⟩,h2⟩:=hv;have:=h2 L hL;cases L<;>simp[c0w] at this;exact .inl ⟨_,this.1⟩
 ·obtain ⟨caps,rfl,_⟩:=hv;exact .inr ⟨_,_,rfl⟩
 ·obtain ⟨_,_,f,caps,h1,_⟩:=hv;simp at h1;exact .inr ⟨f,caps,h1⟩
theorem b1f {o:Oper} {k:V→Ups→Option R} {r:R} {x:Operand} {c:Cell} (cc:Ctx cx call W F E N h ρ a) (ho:o.op = .nilCheck x)
  (hx:ρ x = .v false [c]) (hn:isNil c=some false) (hk:k (.v false [c]) []=some r):a0r cx W F E N h a o k r:=by
 have hv:=cc.ρ x;rw[hx] at hv;refine a0r.value cc hk (v:=a.eval x) ?_ hv;rcases i1w hn hv.single.1 with ⟨p,hp⟩ | ⟨f,caps,hp⟩<;>simp[execOp,ho,hp]
theorem h0v {op:BinOp} {t:TypeId} {x y:Operand} {u v:Value} (h1:∀l m,u = .agg l→v = .agg m→False) (h2:u = .nilIface→v = .nilIface→False) :
  (eqGuard op t x y u v).run cx.P W = .ok () W:=by
 unfold eqGuard;cases op<;>simp<;>(cases u<;>simp<;>cases v<;>simp_all)
theorem d0f {op:BinOp} {t yt:TypeId} {x y:Operand} {o:Oper} {u v w:Value} (ho:o.op = .binOp op t x y yt) (hu:a.eval x=u) (hv:a.eval y=v)
  (hg:(eqGuard op t x y u v).run cx.P W = .ok () W) (hb:(binOp op t u v).run cx.P W = .ok w W):(execOp a.eval o).run cx.P W = .ok (.value w) W:=by
 simp[execOp,ho,hu,hv,hg,hb]
theorem j1n (x y:Int):(x==y)=decide (x=y):=by rw[Bool.eq_iff_iff];simp
theorem binI_rd {op:BinOp} {kd kd':IntKind} {x y:Int} {kk:Cell→Option R} {r:R} {t:TypeId} (hk:binI op kd x y kk=some r) (hkd:kd=kd'∨b1s op=true) :
  ∃c w,kk c=some r∧(binOp op t (.int kd x) (.int kd' y)).run cx.P W = .ok w W∧RdV cx.P W F E (.v false [c]) w:=by
 have same:b1s op=false→kd=kd':=fun e=>hkd.resolve_right (by simp[e])
 cases op with
 | add=>cases same rfl;exact ⟨_,_,hk,by simp[binOp,Op.intArith],e0m _ _⟩
 | sub=>cases same rfl;exact ⟨_,_,hk,by simp[binOp,Op.intArith],e0m _ _⟩
 | mul=>cases same rfl;exact ⟨_,_,hk,by simp[binOp,Op.intArith],e0m _ _⟩
 | quo =>
  cases same rfl;simp only[binI] at hk;cases hd:decide (y=0) with
  | true=>rw[hd] at hk;cases hk
  | false =>
   rw[hd] at hk;have hy:y≠0:=by simpa using hd
   exact ⟨_,_,hk,by simp[binOp,Op.intDiv,hy],e0m _ _⟩
 | rem =>
  cases same rfl;simp only[binI] at hk;cases hd:decide (y=0) with
  | true=>rw[hd] at hk;cases hk
  | false =>
   rw[hd] at hk;have hy:y≠0:=by simpa using hd
   exact ⟨_,_,hk,by simp[binOp,Op.intDiv,hy],e0m _ _⟩
 | and=>cases same rfl;exact ⟨_,_,hk,by simp[binOp,Op.intBits,andI],e0m _ _⟩
 | or=>cases same rfl;exact ⟨_,_,hk,by simp[binOp,Op.intBits,orI],e0m _ _⟩
 | xor=>cases same rfl;exact ⟨_,_,hk,by simp[binOp,Op.intBits,xorI],e0m _ _⟩
 | andNot=>cases same rfl;exact ⟨_,_,hk,by simp[binOp,Op.intBits,l1f],e0m _ _⟩
 | shl =>
  simp only[binI] at hk;cases hd:decide (y<0) with
  | true=>rw[hd] at hk;cases hk
  | false =>
   rw[hd] at hk;have hy:¬y<0:=by simpa using hd
   exact ⟨_,_,hk,by simp[binOp,Op.shift,hy,shlI],e0m _ _⟩
 | shr =>
  simp only[binI] at hk;cases hd:decide (y<0) with
  | true=>rw[hd] at hk;cases hk
  | false =>
   rw[hd] at hk;have hy:¬y<0:=by simpa using hd
   exact ⟨_,_,hk,by simp[binOp,Op.shift,hy,shrI],e0m _ _⟩
 | eql=>cases same rfl;exact ⟨_,_,hk,by simp[binOp,Op.intCmp,j1n],d0d _⟩
 | neq=>cases same rfl;exact ⟨_,_,hk,by simp[binOp,Op.intCmp,bne,j1n],d0d _⟩
 | lss=>cases same rfl;exact ⟨_,_,hk,by simp[binOp,Op.intCmp],d0d _⟩
 | leq=>cases same rfl;exact ⟨_,_,hk,by simp[binOp,Op.intCmp],d0d _⟩
 | gtr=>cases same rfl;exact ⟨_,_,hk,by simp[binOp,Op.intCmp],d0d _⟩
 | geq=>cases same rfl;exact ⟨_,_,hk,by simp[binOp,Op.intCmp],d0d _⟩
theorem toList_mk (s:List UInt8):(⟨s.toArray⟩:ByteArray).toList=s:=by
 rw[ByteArray.toList_eq]
theorem size_mk (s:List UInt8):(⟨s.toArray⟩:ByteArray).size=s.length:=by simp[ByteArray.size]
theorem l1d (s t:List UInt8):(⟨s.toArray⟩:ByteArray)++⟨t.toArray⟩=⟨(s++t).toArray⟩:=by
 apply ByteArray.ext;simp
theorem binS_rd {op:BinOp} {x y:List UInt8} {kk:Cell→Option R} {r:R} {t:TypeId} (hk:binS op x y kk=some r) :
  ∃c w,kk c=some r∧(binOp op t (.string ⟨x.toArray⟩) (.string ⟨y.toArray⟩)).run cx.P W = .ok w W∧RdV cx.P W F E (.v false [c]) w:=by
 cases op with
 | add =>
  simp only[binS] at hk;cases hd:decide (x.length+y.length≤9223372036854775807) with
  | false=>rw[hd] at hk;cases hk
  | true =>
   rw[hd] at hk;have hle:x.length+y.length≤9223372036854775807:=by simpa using hd
   refine ⟨_,_,hk,?_,d1d _⟩;have hm:IntKind.i64.max=9223372036854775807:=by decide
   have hn:¬(((x.length+y.length:Nat):Int)>IntKind.i64.max):=by rw[hm];omega
   simp only[binOp,Op.stringOp,size_mk,hn,if_false,l1d];rfl
 | eql=>exact ⟨_,_,hk,by simp[binOp,Op.stringOp],d0d _⟩
 | neq=>exact ⟨_,_,hk,by simp[binOp,Op.stringOp],d0d _⟩
 | lss=>exact ⟨_,_,hk,by simp[binOp,Op.stringOp],d0d _⟩
 | leq=>exact ⟨_,_,hk,by simp[binOp,Op.stringOp],d0d _⟩
 | gtr=>exact ⟨_,_,hk,by simp[binOp,Op.stringOp],d0d _⟩
 | geq=>exact ⟨_,_,hk,by simp[binOp,Op.stringOp],d0d _⟩
 | _=>cases hk
theorem op_unOp {o:Oper} {k:V→Ups→Option R} {r:R} {op:UnOp} {t:TypeId} {x:Operand} (cc:Ctx cx call W F E N h ρ a) (ho:o.op = .unOp op t x)
  (hk:unK op (ρ x) (fun c=>k (.v false [c]) [])=some r):a0r cx W F E N h a o k r:=by
 have hv:=cc.ρ x;unfold unK at hk;split at hk
 ·rename_i b hx;rw[hx] at hv;have:=n0y hv;exact a0r.value cc hk (v := .bool !b) (by simp[execOp,ho,this,Op.unary]) (d0d _)
 ·rename_i kd n hx;rw[hx] at hv;have:=g0t hv;exact a0r.value cc hk (v := .int kd (kd.wrap (0-n))) (by simp[execOp,ho,this,Op.unary,Op.intArith]) (e0m _ _)
 ·rename_i kd n hx;rw[hx] at hv;have:=g0t hv;exact a0r.value cc hk (v := .int kd (xorI kd (if kd.signed then -1 else kd.max) n)) (by simp[execOp,ho,this,Op.unary,Op.intBits,xorI]) (e0m _ _)
 ·cases hk
theorem v0f {t:TypeId} (ht:e0d cx) {s:Shp} (h:cx.shp t=s) (hne:s ≠ .other):shpB cx.P t s=true:=by
 unfold Cx.shp at h;split at h
 ·rename_i i hi;have:=(ht t i hi).shp;rw[h] at this;exact this
 ·exact absurd h.symm hne
theorem c0l {t e:TypeId} (ht:e0d cx) (h:cx.shp t = .slice e):cx.P.underlying t=some (.slice e):=by
 have:=v0f ht h (by simp);unfold shpB at this;split at this<;>simp_all
theorem p0p {t e:TypeId} {n:Nat} (ht:e0d cx) (h:cx.shp t = .arr n e):cx.P.underlying t=some (.array n e):=by
 have:=v0f ht h (by simp);unfold shpB at this;split at this<;>simp_all
theorem k0n {t:TypeId} (ht:e0d cx) (h:cx.shp t = .str):cx.P.underlying t=some .string:=by
 have:=v0f ht h (by simp);unfold shpB at this;split at this<;>simp_all
theorem s0h {t:TypeId} {k:IntKind} (ht:e0d cx) (h:cx.shp t = .int k):cx.P.underlying t=some (.int k):=by
 have:=v0f ht h (by simp);unfold shpB at this;split at this<;>simp_all
theorem c1b:∀ {fs:List Field} {l:List (Nat×Nat)},fieldsB fs l=true→∀(k:Nat) off ft,l[k]? = some (off,ft)→∃f:Field,fs[k]? = some f∧f.offset=off∧f.type=ft:=by
 intro fs;induction fs with
 | nil=>intro l h k off ft hk;cases l with
  | nil=>simp at hk
  | cons=>cases h
 | cons f fs ih =>
  intro l h k off ft hk;cases l with
  | nil=>cases h
  | cons x xs =>
   simp only[fieldsB,Bool.and_eq_true] at h;obtain ⟨h1,h2,h3⟩:=h;cases k with
   | zero =>
    simp at hk;subst hk;exact ⟨f,rfl,Nat.eq_of_beq_eq_true h1,Nat.eq_of_beq_eq_true h2⟩
   | succ k =>
    obtain ⟨g,k1,k2⟩:=ih h3 k off ft (by simpa using hk);exact ⟨g,by simpa using k1,k2⟩
theorem v0e {t:TypeId} {l:List (Nat×Nat)} (ht:e0d cx) (h:cx.shp t = .struct l):∃fs,cx.P.underlying t=some (.struct fs)∧fieldsB fs.toList l=true:=by
 have:=v0f ht h (by simp);unfold shpB at this;split at this<;>simp_all
theorem d1r {s f:Nat} {off ft:Nat} (ht:e0d cx) (h:n0g cx s f=some (off,ft)) :
  ∃fs g,cx.P.underlying s=some (.struct fs)∧fs[f]? = some g∧g.offset=off∧g.type=ft:=by
 unfold n0g at h;split at h
 case h_2=>cases h
 rename_i l hl;obtain ⟨fs,h1,h2⟩:=v0e ht hl;obtain ⟨g,k1,k2,k3⟩:=c1b h2 f off ft h;exact ⟨fs,g,h1,by simpa using k1,k2,k3⟩
theorem r0w {t:TypeId} (ht:e0d cx) (h:Nat.beq (cx.cells t) 0=false):∃ti,cx.P.info? t=some ti∧ti.size=cx.cells t∧ti.size≠0:=by
 unfold Cx.cells at h ⊢;split at h
 ·rename_i i hi;obtain ⟨⟨ti,h1,h2,_⟩,_⟩:=ht t i hi;exact ⟨ti,h1,h2,fun e=>by rw[h2] at e;rw[e] at h;cases h⟩
 ·cases h
end
end Go.Flat
end
section
namespace Go.Flat
open Go.RowKit (Below)
section
variable {cx:Cx} {call:Oracle cx} {fx:Hints} {W W':World} {F F':Fz} {E E':EnvM} {h:Heap} {N:Nat→Prop} {ρ:Operand→V} {a:Act} {R:Type}
theorem addr_add (b o n:Nat):(⟨b,o,none⟩:Addr).add n=⟨b,o+n,none⟩:=by unfold Addr.add;split<;>simp_all
def q0q:Cell→Nat→Option Cell
 | .loc n v o,d=>some (.loc n v (o+d))
 | .pin t v o,d=>some (.pin t v (o+d))
 | .lel n v i o,d=>some (.lel n v i (o+d))
 | _,_=>none
theorem c1t {P:Program} {c c':Cell} {d:Nat} {v:Value} (hs:q0q c d=some c') (hv:b0q P W F E c v) :
  ∃b o,v = .pointer (some ⟨b,o,none⟩)∧b0q P W F E c' (.pointer (some ⟨b,o+d,none⟩)):=by
 unfold q0q at hs;split at hs<;>(try (cases hs))
 ·rename_i n ver o;obtain ⟨h1,⟨L,hL⟩,h2⟩:=hv;have:=h2 L hL;cases L with
  | box b=>exact ⟨b,o,this,h1,⟨_,hL⟩,fun L' hL'=>by rw[hL] at hL';injection hL' with e;subst e;rfl⟩
  | nil=>exact this.elim
  | tree w bs=>exact this.elim
  | arr b w l c=>exact this.elim
 ·obtain ⟨b,o',rfl,h1,h2⟩:=hv;exact ⟨b,_,rfl,b,o',by rw[Nat.add_assoc],h1,h2⟩
 ·rename_i n ver i o;obtain ⟨h1,⟨L,hL⟩,h2⟩:=hv;have:=h2 L hL;cases L with
  | box b=>exact this.elim
  | nil=>exact this.elim
  | tree w bs=>exact this.elim
  | arr b w l c =>
   exact ⟨b,i*w+o,this,h1,⟨_,hL⟩,fun L' hL'=>by rw[hL] at hL';injection hL' with e;subst e;simp[c0w,Nat.add_assoc]⟩
theorem m0d {o:Oper} {k:V→Ups→Option R} {r:R} {s f:Nat} {x:Operand} {c c':Cell} {off ft:Nat} (cc:Ctx cx call W F E N h ρ a) (ho:o.op = .fieldAddr s x f)
  (hf:n0g cx s f=some (off,ft)) (hx:ρ x = .v false [c]) (hz:Nat.beq (cx.cells ft) 0=false) (hs:q0q c off=some c') (hk:k (.v false [c']) []=some r) :
  a0r cx W F E N h a o k r:=by
 have hv:=cc.ρ x;rw[hx] at hv;obtain ⟨b,p,k1,k2⟩:=c1t hs hv.single.1;obtain ⟨fs,g,f1,f2,f3,f4⟩:=d1r cc.tab hf;obtain ⟨ti,t1,t2,t3⟩:=r0w cc.tab hz;refine a0r.value cc hk (v := .pointer (some ⟨b,p+off,none⟩)) ?_ (RdV.mk1 k2 rfl);rw[←f4] at t1;simp[execOp,ho,Instr.fieldAt,run_underlying f1,f2,k1,Instr.sureAddr,fieldPlace,sizeOf,typeInfo,t1,t3,f3,addr_add]
theorem b1c {P:Program} {t:TypeId} {ti:TypeInfo} {vs:Array Value} {off w:Nat} (hi:P.info? t=some ti) (hs:ti.size=w) (hd:∃d,P.underlying t=some d)
  (hle:off+w≤vs.size) (h1:aggB P t=false→w=1) :
  (part t vs off).run P W = .ok (if aggB P t=true then .agg ((vs.toList.drop off).take w).toArray else ((vs.toList.drop off).take w).headD .nilFunc) W:=by
 obtain ⟨d,hd⟩:=hd;unfold part isAgg;cases hag:aggB P t with
 | true =>
  unfold aggB at hag;rw[hd] at hag;have:vs.extract off (off+w)=((vs.toList.drop off).take w).toArray:=by
   apply Array.ext';simp[List.extract_eq_take_drop]
  cases d<;>simp_all [run_underlying hd,sizeOf,typeInfo]
 | false =>
  have hw:=h1 hag;unfold aggB at hag;rw[hd] at hag;have hlt:off<vs.size:=by omega
  have e:vs[off]? = some vs[off]:=by simp[hlt]
  have e2:((vs.toList.drop off).take w).headD .nilFunc=vs[off]:=by
   rw[hw,List.take_one,List.head?_drop];simp[hlt]
  rw[e2];cases d<;>simp_all [run_underlying hd]
theorem op_field {o:Oper} {k:V→Ups→Option R} {r:R} {s f:Nat} {x:Operand} {cs cs':List Cell} {off ft:Nat} {c:Ty} (cc:Ctx cx call W F E N h ρ a) (ho:o.op = .field s x f)
  (hf:n0g cx s f=some (off,ft)) (hx:ρ x = .v true cs) (hc:cx.ty ft=some c) (hcut:cut cs off (width c)=some cs') (hk:k (.v (agg c) cs') []=some r) :
  a0r cx W F E N h a o k r:=by
 have hv:=cc.ρ x;rw[hx] at hv;obtain ⟨v1,v2,_⟩:=hv;obtain ⟨l,hl⟩:=v2 rfl;rw[hl] at v1;simp only[Value.cells] at v1;obtain ⟨fs,g,f1,f2,f3,f4⟩:=d1r cc.tab hf;obtain ⟨⟨ti,t1,t2,_⟩,t3,t4,t5,t6⟩:=k0k cc.tab hc;obtain ⟨m1,m2,m3⟩:=t0q hcut v1;have hp:=b1c (W:=W) t1 t2 t6 (off:=off) (vs:=l) (by simpa using m1) (fun e=>t5 (t3.trans e));refine a0r.value cc hk (v:=_) ?_ (m2.mkV (ag:=agg c) (fun e=>by rw[m3];exact t5 e));rw[t3];subst f4;simp[execOp,ho,Instr.field,run_underlying f1,f2,hl,asAgg,f3,hp]
theorem j0z {x:V} {n:Int} {v:Value} (hn:h0p x=some n) (hv:RdV cx.P W F E x v):∃k,v = .int k n:=by
 unfold h0p at hn;split at hn
 ·rename_i k m;injection hn with hn;subst hn;exact ⟨k,g0t hv⟩
 ·cases hn
theorem s0x {i:Int} {k:Nat→Option R} {r:R}:∀(n j:Nat),l0y i n j k=some r→∃m:Nat,i=m∧j≤m∧m<j+n∧k m=some r:=by
 intro n;induction n with
 | zero=>intro j h;cases h
 | succ n ih =>
  intro j h;simp only[l0y] at h;cases hd:decide (i=(j:Int)) with
  | true=>rw[hd] at h;exact ⟨j,by simpa using hd,Nat.le_refl _,by omega,h⟩
  | false =>
   rw[hd] at h;obtain ⟨m,h1,h2,h3,h4⟩:=ih (j+1) h;exact ⟨m,h1,by omega,by omega,h4⟩
theorem a0l {b:Bool} {k:Option R} {r:R} (h:must b k=some r):b=true∧k=some r:=by
 unfold must at h;cases b with
 | true=>exact ⟨rfl,h⟩
 | false=>cases h
theorem at?_some {α:Type} {xs:List α} {i:Int} {x:α} (h:at? xs i=some x):∃n:Nat,i=n∧n<xs.length∧xs[n]? = some x:=by
 unfold at? at h;cases hd:decide (0≤i) with
 | false=>rw[hd] at h;cases h
 | true =>
  rw[hd] at h;simp only[cond_true] at h;have hi:0≤i:=by simpa using hd
  refine ⟨i.toNat,by omega,?_,h⟩;rcases Nat.lt_or_ge i.toNat xs.length with q | q
  ·exact q
  ·rw[List.getElem?_eq_none q] at h;cases h
theorem z0q {kd:IntKind}:∀ {cs:List Cell} {l:List Int},intsOf kd cs=some l→cs.length=l.length∧∀(j:Nat) y,l[j]? = some y→cs[j]? = some (.val (.int kd) y):=by
 intro cs;induction cs with
 | nil=>intro l h;injection h with h;subst h;exact ⟨rfl,fun j y hy=>by simp at hy⟩
 | cons c r ih =>
  intro l h;unfold intsOf at h;split at h
  ·rename_i heq;cases heq
  ·rename_i k n r' heq;injection heq with e1 e2;subst e1 e2;split at h
   ·rename_i e;subst e;cases h1:intsOf k r with
    | none=>rw[h1] at h;cases h
    | some l' =>
     rw[h1] at h;injection h with h;subst h;obtain ⟨q1,q2⟩:=ih h1;refine ⟨by simp[q1],fun j y hy => ?_⟩;cases j with
     | zero=>simp at hy;subst hy;rfl
     | succ j=>simp at hy ⊢;exact q2 j y hy
   ·cases h
  ·cases h
theorem i1c {n:Nat} {c:Ty} {cs:List Cell} {kd:IntKind} {l:List Int} (h:rowOf n c cs=some (kd,l)):c = .int kd:=by
 unfold rowOf at h;split at h
 ·rename_i kd';cases hb:Nat.ble 4 n with
  | false=>rw[hb] at h;cases h
  | true =>
   rw[hb] at h;simp only[cond_true] at h;split at h
   ·rename_i l' hl;cases hn:Nat.beq l'.length n with
    | false=>rw[hn] at h;cases h
    | true =>
     rw[hn] at h;simp only[cond_true,Option.some.injEq,Prod.mk.injEq] at h;rw[h.1]
   ·cases h
 ·cases h
theorem v0j {n:Nat} {c:Ty} {cs:List Cell} {kd:IntKind} {l:List Int} {i y:Int} (h:rowOf n c cs=some (kd,l)) (hy:at? l i=some y) :
  ∃j:Nat,i=j∧j<n∧cut cs (j*width c) (width c)=some [.val (.int kd) y]∧agg c=false:=by
 unfold rowOf at h;split at h
 ·rename_i kd';cases hb:Nat.ble 4 n with
  | false=>rw[hb] at h;cases h
  | true =>
   rw[hb] at h;simp only[cond_true] at h;split at h
   ·rename_i l' hl;cases hn:Nat.beq l'.length n with
    | false=>rw[hn] at h;cases h
    | true =>
     rw[hn] at h;simp only[cond_true,Option.some.injEq,Prod.mk.injEq] at h;obtain ⟨rfl,rfl⟩:=h;have hn:=Nat.eq_of_beq_eq_true hn;obtain ⟨q1,q2⟩:=z0q hl;obtain ⟨j,e1,e2,e3⟩:=at?_some hy;refine ⟨j,e1,by omega,?_,rfl⟩;have hc:=q2 j y e3;unfold cut;simp only[width,Nat.mul_one];rw[if_pos (by omega)];obtain ⟨hlt,hg⟩:=List.getElem?_eq_some_iff.1 hc;rw[List.drop_eq_getElem_cons hlt,hg];rfl
   ·cases h
 ·cases h
end
end Go.Flat
end
section
namespace Go.Flat
open Go.RowKit (Below)
section
variable {cx:Cx} {call:Oracle cx} {fx:Hints} {W W':World} {F F':Fz} {E E':EnvM} {h:Heap} {N:Nat→Prop} {ρ:Operand→V} {a:Act} {R:Type}
theorem i0y {et:TypeId} {e:Ty} (ht:e0d cx) (hs:e0f cx et e=true):∃ti,cx.P.info? et=some ti∧ti.size=width e:=by
 unfold e0f at hs;simp only[Bool.and_eq_true] at hs;have h1:=Nat.eq_of_beq_eq_true hs.1;have hz:Nat.beq (cx.cells et) 0=false:=by
  rw[h1];have:=hs.2
  simpa using this
 obtain ⟨ti,k1,k2,_⟩:=r0w ht hz;exact ⟨ti,k1,k2.trans h1⟩
theorem run_indexAt_slice {t et:TypeId} {ti:TypeInfo} {kd:IntKind} {m b o len cap:Nat} (hu:cx.P.underlying t=some (.slice et)) (hi:cx.P.info? et=some ti) (hm:m<len) :
  (Instr.indexAt t (.slice (some ⟨b,o,none⟩) len cap) (.int kd m)).run cx.P W = .ok (.pointer (some ⟨b,o+m*ti.size,none⟩)) W:=by
 have h1:(0:Int)≤(m:Int)∧(m:Int)<(len:Int):=by omega
 simp[Instr.indexAt,asIntOf,run_underlying hu,h1,sizeOf,typeInfo,hi,addr_add,hm]
theorem run_indexAt_array {t et:TypeId} {ti:TypeInfo} {kd:IntKind} {m b o n:Nat} (hu:cx.P.underlying t=some (.array n et)) (hi:cx.P.info? et=some ti) (hm:m<n) :
  (Instr.indexAt t (.pointer (some ⟨b,o,none⟩)) (.int kd m)).run cx.P W = .ok (.pointer (some ⟨b,o+m*ti.size,none⟩)) W:=by
 have h1:(0:Int)≤(m:Int)∧(m:Int)<(n:Int):=by omega
 simp[Instr.indexAt,asIntOf,run_underlying hu,h1,sizeOf,typeInfo,hi,addr_add,Instr.sureAddr,hm]
theorem a0d.get0' {P:Program} {c:Cell} {vs:List Value} (hv:a0d P W F E [c] vs):∃v,vs[0]? = some v∧b0q P W F E c v:=by
 obtain ⟨v,r,rfl,h1,_,_⟩:=hv.uncons;exact ⟨v,rfl,h1⟩
theorem ls_at {P:Program} (hr:HR P W F E N h) {n ver base v0:Nat} {e:Ty} {xs:List (El e)} {hole:Option (Nat×Cell)} (hn:h[n]? = some (ver,some (.sealed n base ver (.ls e) xs hole false))) (hb1:base≤v0) (hb2:v0≤ver) {v:Value} (hv:RdV P W F E (.v false [.sl n v0]) v) :
  ∃bs,f0m P W F E (.ls e) xs hole bs v∧bs.Nodup∧(∀b∈bs,¬F b)∧E.m n ver=some (.tree v bs)∧ver=E.top n∧(∀j,base≤j→j≤ver→∃bs',E.m n j=some (.tree v bs'))∧N n:=by
 obtain ⟨hN,L,hL,w,bs,rfl,g1,g2,g3,g4,g5⟩:=hr.blk n _ _ hn;obtain ⟨m1,m2,m3⟩:=g5 rfl;obtain ⟨bs',hbs'⟩:=g3 v0 hb1 hb2;have hone:=hv.2.2 rfl;have hrd:=hv.1;rw[oneCell_cells hone] at hrd;have hvw:v=w:=(hrd.2 0 _ _ rfl rfl).1.2.2 _ hbs';subst hvw;exact ⟨bs,m1,m2,m3,hL,hr.top n _ _ hN hn,g3,hN⟩
theorem z0f {o:Oper} {k:V→Ups→Option R} {r:R} {t:TypeId} {x i:Operand} {n:Int} (cc:Ctx cx call W F E N h ρ a) (ho:o.op = .indexAddr t x i)
  (hi:h0p (ρ i)=some n) (hk:i0a cx h t (ρ x) n (fun c=>k (.v false [c]) [])=some r):a0r cx W F E N h a o k r:=by
 obtain ⟨kd,hiv⟩:=j0z hi (cc.ρ i);have hv:=cc.ρ x;have fin:∀ {c:Cell} {b p:Nat},k (.v false [c]) []=some r→(Instr.indexAt t (a.eval x) (a.eval i)).run cx.P W = .ok (.pointer (some ⟨b,p,none⟩)) W →
   b0q cx.P W F E c (.pointer (some ⟨b,p,none⟩))→a0r cx W F E N h a o k r:=by
  intro c b p h1 h2 h3;exact a0r.value cc h1 (v := .pointer (some ⟨b,p,none⟩)) (by simp[execOp,ho,h2]) (RdV.mk1 h3 rfl)
 unfold i0a at hk;split at hk
 ·-- an array
  rename_i m et hsh;have hu:=p0p cc.tab hsh;cases hz:Nat.beq (cx.cells et) 0 with
  | true=>rw[hz] at hk;cases hk
  | false =>
   rw[hz] at hk;simp only[cond_false] at hk;obtain ⟨ti,t1,t2,_⟩:=r0w cc.tab hz;have arr:∀c:Cell,ρ x = .v false [c]→l0y n m 0 (fun j=>match q0q c (j*cx.cells et) with | some c'=>k (.v false [c']) [] | none=>none)=some r→a0r cx W F E N h a o k r:=by
    intro c hx hp;rw[hx] at hv;obtain ⟨j,h1,_,h3,h4⟩:=s0x m 0 hp;cases hs:q0q c (j*cx.cells et) with
    | none=>rw[hs] at h4;cases h4
    | some c' =>
     rw[hs] at h4;obtain ⟨b,p,q1,q2⟩:=c1t hs hv.single.1;subst h1;refine fin h4 ?_ q2;rw[hiv,q1,run_indexAt_array hu t1 (by omega),t2]
   split at hk
   ·rename_i nn ver off hx;exact arr _ hx (by simpa [q0q] using hk)
   ·rename_i tt vv off hx;split at hk
    ·rename_i kd' xs hrow;cases hy:at? xs n with
     | none=>rw[hy] at hk;cases hk
     | some y =>
      rw[hy] at hk;simp only[Option.bind_some] at hk;rw[hx] at hv;obtain ⟨b,o',hp,hFb,hrd⟩:=hv.single.1;unfold pinRow at hrow;split at hrow
      case h_2=>cases hrow
      rename_i c hc;split at hrow
      case h_2=>cases hrow
      rename_i cs hcut;have hci:=i1c hrow;subst hci;obtain ⟨j,rfl,e2,e3,_⟩:=v0j hrow hy;obtain ⟨vs,u1,u2,u3⟩:=h0x (E:=E) tt vv _ hrd;obtain ⟨_,n2,n3⟩:=t0q hcut u3;obtain ⟨_,n4,_⟩:=t0q e3 n2;have hw1:ti.size=1:=by rw[t2,(k0k cc.tab hc).w];rfl
      obtain ⟨u,hu0,hcell⟩:=a0d.get0' n4;simp only[width,Nat.mul_one,List.getElem?_take,List.getElem?_drop,Nat.add_zero] at hu0;rw[if_pos (by omega),if_pos (by omega)] at hu0;have hul:off+j<vs.length:=(List.getElem?_eq_some_iff.1 hu0).1;have hg:=u2 (off+j) (by omega);refine fin hk (b:=b) (p:=o'+off+j*ti.size) ?_ ⟨b,o'+off+j*ti.size,by simp,hFb,?_⟩
      ·rw[hiv,hp,run_indexAt_array hu t1 (by omega)]
      ·show W.cell? ⟨b,o'+off+j*ti.size+0,none⟩=some (.int kd' y);have hcv:=hcell.2.2;simp only[Rd,RdP,if_true] at hcv;rw[hw1,←hcv,←hu0,←hg];simp only[mem,Nat.mul_one,Nat.add_zero,Nat.add_assoc]
    ·exact arr _ hx (by simpa [q0q] using hk)
   ·rename_i nn ver q off hx;split at hk
    ·rename_i len hrow;obtain ⟨hb,hk2⟩:=a0l hk;simp only[Bool.and_eq_true,decide_eq_true_eq] at hb;obtain ⟨b0,b1,b2⟩:=hb;unfold rowOk at hrow;cases hq:Nat.beq q 0&&Nat.beq off 0 with
     | false=>rw[hq] at hrow;cases hrow
     | true =>
      rw[hq] at hrow;simp only[cond_true] at hrow;rw[Bool.and_eq_true] at hq;have hq0:=Nat.eq_of_beq_eq_true hq.1;have ho0:=Nat.eq_of_beq_eq_true hq.2;subst hq0;subst ho0;split at hrow
      case h_2=>cases hrow
      rename_i ver' e xs fr hn;split at hrow
      case isFalse=>cases hrow
      rename_i hver;subst hver;cases hw:e0f cx et e with
      | false=>rw[hw] at hrow;cases hrow
      | true =>
       rw[hw] at hrow;simp only[cond_true,Option.some.injEq] at hrow;subst hrow;rw[hx] at hv
       replace hv:=hv.single.1
       have hwe:cx.cells et=width e:=by
        unfold e0f at hw;simp only[Bool.and_eq_true] at hw;exact Nat.eq_of_beq_eq_true hw.1
       obtain ⟨v1,⟨L,hL⟩,v3⟩:=hv;have hloc:=v3 L hL;rcases c0p cc.hr hn with ⟨k1,_⟩ | ⟨b,cap,k1,_,_⟩
       ·rw[k1] at hL;injection hL with hL;subst hL;exact (hloc:False).elim
       ·rw[k1] at hL;injection hL with hL;subst hL;have hp:a.eval x = .pointer (some ⟨b,0*width e+0,none⟩):=hloc;obtain ⟨j,rfl⟩:=Int.eq_ofNat_of_zero_le b0;refine fin hk2 (b:=b) (p:=0*width e+0+j*ti.size) ?_ ⟨v1,⟨_,k1⟩,fun L hL => ?_⟩
        ·rw[hiv,hp,run_indexAt_array hu t1 (by omega)]
        ·rw[k1] at hL;injection hL with hL;subst hL;show _=Value.pointer (some ⟨b,(j:Int).toNat*width e+0,none⟩);rw[t2,hwe];simp
    ·exact arr _ hx (by simpa [q0q] using hk)
   ·cases hk
 ·-- a slice
  rename_i et hsh;have hu:=c0l cc.tab hsh;split at hk
  ·-- closed
   rename_i e xs hx;rw[hx] at hv;cases hw:e0f cx et e with
   | false=>rw[hw] at hk;cases hk
   | true =>
    rw[hw] at hk;simp only[cond_true] at hk;obtain ⟨ti,t1,t2⟩:=i0y cc.tab hw;cases hy:at? xs n with
    | none=>rw[hy] at hk;cases hk
    | some y =>
     rw[hy] at hk;simp only[Option.bind_some] at hk;obtain ⟨m,rfl,h2,h3⟩:=at?_some hy;have hrd:=hv.single.1.2.2;rcases hrd with ⟨rfl,_⟩ | ⟨b,off,cap,q1,q2,q3,q4⟩
     ·simp at h2
     ·simp at q1;have hy':xs[m]=y:=by rw[List.getElem?_eq_getElem h2] at h3;injection h3
      refine fin hk (b:=b) (p:=off+m*width e) ?_ ⟨b,_,rfl,q2,hy' ▸ q4 m h2⟩;rw[hiv,q1,run_indexAt_slice hu t1 h2,t2]
  ·-- all of an array of one's own
   rename_i nm ver hx;rw[hx] at hv;split at hk
   case h_2=>cases hk
   rename_i ver' e xs fr hn;split at hk
   case isFalse=>cases hk
   rename_i hver;subst hver;cases hw:e0f cx et e with
   | false=>rw[hw] at hk;cases hk
   | true =>
    rw[hw] at hk;simp only[cond_true] at hk;obtain ⟨ti,t1,t2⟩:=i0y cc.tab hw;cases hy:at? xs n with
    | none=>rw[hy] at hk;cases hk
    | some y =>
     rw[hy] at hk;simp only[Option.bind_some] at hk;obtain ⟨m,rfl,h2,h3⟩:=at?_some hy;obtain ⟨g1,g2,g3⟩:=hv.single.1;rcases c0p cc.hr hn with ⟨_,rfl⟩ | ⟨b,cap,q1,_⟩
     ·simp at h2
     ·have hp:a.eval x = .slice (some ⟨b,0,none⟩) xs.length cap:=g3 _ q1;refine fin hk (b:=b) (p:=0+m*width e) ?_ ⟨g1,g2,fun L hL => ?_⟩
      ·rw[hiv,hp,run_indexAt_slice hu t1 h2,t2]
      ·rw[q1] at hL;injection hL with hL;subst hL;simp[c0w]
  ·-- a piece
   rename_i nm ver off len hx;rw[hx] at hv;split at hk
   case h_2=>cases hk
   rename_i ver' e xs fr hn;split at hk
   case isFalse=>cases hk
   rename_i hver;subst hver;cases hw:e0f cx et e with
   | false=>rw[hw] at hk;cases hk
   | true =>
    rw[hw] at hk;simp only[cond_true] at hk;obtain ⟨ti,t1,t2⟩:=i0y cc.tab hw;cases hy:at? ((xs.drop off).take len) n with
    | none=>rw[hy] at hk;cases hk
    | some y =>
     rw[hy] at hk;simp only[Option.bind_some] at hk;obtain ⟨m,rfl,h2,h3⟩:=at?_some hy;obtain ⟨g1,g2,g3⟩:=hv.single.1;have h2':m<len:=by simp at h2;omega
     rcases c0p cc.hr hn with ⟨_,rfl⟩ | ⟨b,cap,q1,_⟩
     ·simp at h2
     ·obtain ⟨hle,p,c,hp,hlc,hoc,hoe⟩:c0w (.lsl nm ver off len) (.arr b (width e) xs.length cap) (a.eval x):=g3 _ q1;obtain ⟨hp1,hp2⟩:=hoc (by omega);refine fin hk (b:=b) (p:=p+m*width e) ?_ ⟨g1,g2,fun L hL => ?_⟩
      ·rw[hiv,hp,run_indexAt_slice hu t1 h2',t2]
      ·rw[q1] at hL;injection hL with hL;subst hL;simp[c0w,hp1,Nat.add_mul]
  ·-- of a list of things of one's own
   rename_i nm v0 hx;rw[hx] at hv;split at hk
   case h_2=>cases hk
   rename_i ver' n' base top e xs hole hn;split at hk
   case isFalse=>cases hk
   rename_i hver;obtain ⟨rfl,hb1,hb2,rfl⟩:=hver;cases hw:Nat.beq (cx.cells et) 1 with
   | false=>rw[hw] at hk;cases hk
   | true =>
    rw[hw] at hk;simp only[cond_true] at hk;have hc1:=Nat.eq_of_beq_eq_true hw;obtain ⟨ti,t1,t2,_⟩:=r0w (t:=et) cc.tab (by rw[hc1];rfl);cases hy:at? (α:=El e) xs n with
    | none=>rw[hy] at hk;cases hk
    | some y =>
     rw[hy] at hk;simp only[Option.bind_some] at hk;obtain ⟨m,rfl,h2,h3⟩:=at?_some hy;obtain ⟨bs,hseal,_,_,hm,htop,hall,_⟩:=ls_at cc.hr hn hb1 hb2 hv;simp only[f0m] at hseal;rcases hseal with ⟨q1,_⟩ | ⟨b,arr,T,Os,q1,q2,q3,_⟩
     ·rw[q1] at h2;cases h2
     ·refine fin hk (b:=b) (p:=0+m*1) ?_ ⟨by omega,(hall v0 hb1 hb2).elim fun _ q=>⟨_,q⟩,fun L hL => ?_⟩
      ·rw[hiv,q1,run_indexAt_slice hu t1 h2,t2,hc1]
      ·obtain ⟨bs',hbs'⟩:=hall v0 hb1 hb2;rw[hbs'] at hL;injection hL with hL;subst hL;exact ⟨b,_,_,q1,h2,by simp⟩
  ·cases hk
 ·cases hk
theorem op_index {o:Oper} {k:V→Ups→Option R} {r:R} {t:TypeId} {x i:Operand} {n:Int} (cc:Ctx cx call W F E N h ρ a) (ho:o.op = .index t x i)
  (hi:h0p (ρ i)=some n) (hk:v0z cx t (ρ x) n (fun v=>k v [])=some r):a0r cx W F E N h a o k r:=by
 obtain ⟨kd,hiv⟩:=j0z hi (cc.ρ i);have hv:=cc.ρ x;unfold v0z at hk;split at hk
 ·rename_i m et cs hsh hx;have hu:=p0p cc.tab hsh;rw[hx] at hv;split at hk
  case h_2=>cases hk
  rename_i c hc;obtain ⟨⟨ti,t1,t2,_⟩,t3,t4,t5,t6⟩:=k0k cc.tab hc;have main:∃j:Nat,n=j∧j<m∧∃cs',cut cs (j*width c) (width c)=some cs'∧k (.v (agg c) cs') []=some r:=by
   split at hk
   ·rename_i kd' l hrow;cases hy:at? l n with
    | none=>rw[hy] at hk;cases hk
    | some y =>
     rw[hy] at hk;obtain ⟨j,e1,e2,e3,e4⟩:=v0j hrow hy;exact ⟨j,e1,e2,_,e3,by rw[e4];exact hk⟩
   ·obtain ⟨j,e,_,h3,h4⟩:=s0x m 0 hk;split at h4
    case h_2=>cases h4
    rename_i cs' hcut;exact ⟨j,e,by omega,cs',hcut,h4⟩
  obtain ⟨j,rfl,h3,cs',hcut,h4⟩:=main;obtain ⟨v1,v2,_⟩:=hv;obtain ⟨l,hl⟩:=v2 rfl;rw[hl] at v1;simp only[Value.cells] at v1;obtain ⟨m1,m2,m3⟩:=t0q hcut v1;have hp:=b1c (W:=W) t1 t2 t6 (off:=j*width c) (vs:=l) (by simpa using m1) (fun e=>t5 (t3.trans e));refine a0r.value cc h4 (v:=_) ?_ (m2.mkV (ag:=agg c) (fun e=>by rw[m3];exact t5 e));rw[t3];have hj:(0:Int)≤(j:Int)∧(j:Int)<(m:Int):=by omega
  have hjm:j<m:=by omega
  simp[execOp,ho,Instr.index,hiv,asIntOf,run_underlying hu,hl,hj,hjm,sizeOf,typeInfo,t1,t2,hp]
 ·rename_i s hsh hx;have hu:=k0n cc.tab hsh;rw[hx] at hv;have hs:=n0p hv;cases hy:at? s n with
  | none=>rw[hy] at hk;cases hk
  | some y =>
   rw[hy] at hk;simp only[Option.bind_some] at hk;obtain ⟨m,rfl,h2,h3⟩:=at?_some hy;refine a0r.value cc hk (v := .int .u8 y.toNat) ?_ (e0m _ _);have e:(⟨s.toArray⟩:ByteArray)[m]? = some y:=by
    have hlt:m<(⟨s.toArray⟩:ByteArray).size:=by rw[size_mk];exact h2
    have:(⟨s.toArray⟩:ByteArray)[m]? = some ((⟨s.toArray⟩:ByteArray)[m]):=by simp[getElem?_pos,hlt]
    rw[this];have hy':s[m]=y:=by rw[List.getElem?_eq_getElem h2] at h3;injection h3
    rw[←hy'];rfl
   simp[execOp,ho,Instr.index,hiv,asIntOf,run_underlying hu,hs,e]
 ·cases hk
end
end Go.Flat
end
section
namespace Go.Flat
open Go.RowKit (Below)
section
variable {cx:Cx} {call:Oracle cx} {fx:Hints} {W W':World} {F F':Fz} {E E':EnvM} {h:Heap} {N:Nat→Prop} {ρ:Operand→V} {a:Act} {R:Type}
theorem upK_rd {n l:Nat} {hi:Option V} {vlo vhi:Option Value} {kk:Nat→Nat→Option R} {r:R} (hk:upK n l hi kk=some r)
  (hl:∀(y:Nat),l≤y→∀code,(match vlo with | some v=>Instr.sliceBound v y code | none=>pure 0:Sem Nat).run cx.P W = .ok l W)
  (hhi:∀x,hi=some x→∃v,vhi=some v∧RdV cx.P W F E x v) (hhi0:hi=none→vhi=none) :
  ∃j,l≤j∧j≤n∧kk l j=some r∧∀(isS:Bool) (cap:Nat),n≤cap→(Instr.sliceBounds isS n cap vlo vhi none).run cx.P W = .ok (l,j,cap) W:=by
 unfold upK at hk;cases hi with
 | none =>
  obtain ⟨h1,h2⟩:=a0l hk;have h1:l≤n:=by simpa using h1
  refine ⟨n,h1,Nat.le_refl _,h2,fun isS cap hc => ?_⟩;rw[hhi0 rfl];have:=hl n h1 .sliceB;cases vlo with
  | none=>simp[Instr.sliceBounds] at this ⊢;exact this
  | some v=>simp[Instr.sliceBounds] at this ⊢;simp[this]
 | some x =>
  obtain ⟨v,rfl,hv⟩:=hhi x rfl;simp only at hk;cases hx:h0p x with
  | none=>rw[hx] at hk;cases hk
  | some j =>
   rw[hx] at hk;obtain ⟨h1,h2⟩:=a0l hk;simp only[Bool.and_eq_true,decide_eq_true_eq] at h1;obtain ⟨kd,rfl⟩:=j0z hx hv;refine ⟨j.toNat,by omega,by omega,h2,fun isS cap hc => ?_⟩;have hj:0≤j∧j≤(cap:Int):=by omega
   have:=hl j.toNat (by omega) .sliceB;cases vlo with
   | none=>simp at this;subst this;simp[Instr.sliceBounds,Instr.sliceBound,asIntOf,hj]
   | some v => 
    have hj':j≤(cap:Int):=hj.2;have hj0:0≤j:=hj.1;have e1:Instr.sliceBound (.int kd j) cap (if isS then .sliceAcap else .sliceAlen)=pure j.toNat:=by
     simp[Instr.sliceBound,asIntOf,hj]
    simp only at this;simp[Instr.sliceBounds,e1,this]
theorem g0g {n:Nat} {lo hi:Option V} {vlo vhi:Option Value} {kk:Nat→Nat→Option R} {r:R} (hk:h0e n lo hi kk=some r)
  (hlo:∀x,lo=some x→∃v,vlo=some v∧RdV cx.P W F E x v) (hlo0:lo=none→vlo=none)
  (hhi:∀x,hi=some x→∃v,vhi=some v∧RdV cx.P W F E x v) (hhi0:hi=none→vhi=none) :
  ∃l j,l≤j∧j≤n∧kk l j=some r∧∀(isS:Bool) (cap:Nat),n≤cap→(Instr.sliceBounds isS n cap vlo vhi none).run cx.P W = .ok (l,j,cap) W:=by
 unfold h0e at hk;cases lo with
 | none =>
  refine ⟨0,upK_rd hk (fun y _ code => ?_) hhi hhi0⟩;rw[hlo0 rfl];rfl
 | some x =>
  obtain ⟨v,rfl,hv⟩:=hlo x rfl;simp only at hk;cases hx:h0p x with
  | none=>rw[hx] at hk;cases hk
  | some i =>
   rw[hx] at hk;obtain ⟨h1,h2⟩:=a0l hk;have h1:0≤i:=by simpa using h1
   obtain ⟨kd,rfl⟩:=j0z hx hv;refine ⟨i.toNat,upK_rd h2 (fun y hy code => ?_) hhi hhi0⟩;have:0≤i∧i≤(y:Int):=by omega
   simp[Instr.sliceBound,asIntOf,this]
theorem optρ {x:Option Operand} (cc:Ctx cx call W F E N h ρ a):(∀y,x.map ρ=some y→∃v,x.map a.eval=some v∧RdV cx.P W F E y v)∧(x.map ρ=none→x.map a.eval=none):=by
 cases x with
 | none=>exact ⟨fun y hy=>by simp at hy,fun _=>rfl⟩
 | some x=>exact ⟨fun y hy=>⟨a.eval x,rfl,by simp at hy;rw[←hy];exact cc.ρ x⟩,fun hy=>by simp at hy⟩
theorem extract_mk (s:List UInt8) (l j:Nat):(⟨s.toArray⟩:ByteArray).extract l j=⟨((s.take j).drop l).toArray⟩:=by
 apply ByteArray.ext;rw[ByteArray.data_extract];apply Array.ext';simp[List.extract_eq_take_drop,List.drop_take]
theorem i1n {o:Oper} {k:V→Ups→Option R} {r:R} {t:TypeId} {x:Operand} {lo hi mx:Option Operand} (cc:Ctx cx call W F E N h ρ a) (ho:o.op = .slice t x lo hi mx)
  (hs:cx.shp t = .str) (hk:u0z (ρ x) (lo.map ρ) (hi.map ρ) (mx.map ρ) (fun c=>k (.v false [c]) [])=some r):a0r cx W F E N h a o k r:=by
 have hu:=k0n cc.tab hs;unfold u0z at hk;split at hk
 case h_2=>cases hk
 rename_i s hmx hx;have hv:=cc.ρ x;rw[hx] at hv;have hstr:=n0p hv;have hm:mx=none:=by cases mx<;>simp_all
 subst hm;obtain ⟨l,j,h1,h2,h3,h4⟩:=g0g hk (optρ cc).1 (optρ cc).2 (optρ cc).1 (optρ cc).2;refine a0r.value cc h3 (v := .string ⟨((s.take j).drop l).toArray⟩) ?_ (d1d _);have hb:=h4 false s.length (Nat.le_refl _);simp[execOp,ho,Instr.sliceAt,Instr.slice,run_underlying hu,hstr,size_mk,hb,extract_mk]
theorem i0g {t et:TypeId} {ti:TypeInfo} {b:Option Addr} {len cap l j:Nat} {vlo vhi:Option Value} (hu:cx.P.underlying t=some (.slice et)) (hi:cx.P.info? et=some ti)
  (hb:(Instr.sliceBounds true len cap vlo vhi none).run cx.P W = .ok (l,j,cap) W) :
  (Instr.sliceAt t (.slice b len cap) vlo vhi none).run cx.P W = .ok (.slice (if cap=l then b else b.map (·.add (l*ti.size))) (j-l) (cap-l)) W:=by
 simp[Instr.sliceAt,Instr.slice,run_underlying hu,hb,sizeOf,typeInfo,hi]
theorem u0s {x:Option Operand} (cc:Ctx cx call W F E N h ρ a) (hz:w0o (x.map ρ)=true):∃y k,x=some y∧a.eval y = .int k 0:=by
 unfold w0o at hz;split at hz
 ·rename_i k hx;cases x with
  | none=>simp at hx
  | some y =>
   simp at hx;have:=cc.ρ y;rw[hx] at this;exact ⟨y,k,rfl,g0t this⟩
 ·cases hz
theorem i1p {o:Oper} {k:V→Ups→Option R} {r:R} {t et:TypeId} {x:Operand} {lo hi mx:Option Operand} (cc:Ctx cx call W F E N h ρ a) (ho:o.op = .slice t x lo hi mx)
  (hs:cx.shp t = .slice et) (hinfo:∃ti,cx.P.info? et=some ti)
  (hk:v0d cx h et (ρ x) (lo.map ρ) (hi.map ρ) (mx.map ρ) (fun c=>k (.v false [c]) [])=some r):a0r cx W F E N h a o k r:=by
 have hu:=c0l cc.tab hs;have hv:=cc.ρ x;unfold v0d at hk;split at hk
 ·-- [:0:0]
  rename_i m hmx;split at hk
  case isFalse=>cases hk
  rename_i hz;simp only[Bool.and_eq_true] at hz;obtain ⟨⟨hz1,hz2⟩,hz3⟩:=hz;have hl:lo=none:=by cases lo<;>simp_all
  subst hl;obtain ⟨y,k1,hy,z1⟩:=u0s cc hz1;obtain ⟨m',k2,hm,z2⟩:=u0s cc hz2;subst hy;subst hm;obtain ⟨ti,t1⟩:=hinfo;have fin:∀ {b:Option Addr} {len cap:Nat},a.eval x = .slice b len cap→k (.v false [.ns]) []=some r→a0r cx W F E N h a o k r:=by
   intro b len cap hx hk;refine a0r.value cc hk (v := .slice b 0 0) ?_ (RdV.mk1 ⟨b,rfl⟩ rfl);simp[execOp,ho,hx,z1,z2,Instr.sliceAt,Instr.slice,run_underlying hu,sizeOf,typeInfo,t1,Instr.sliceBounds,Instr.sliceBound,asIntOf]
  split at hk
  ·rename_i e xs hx;rw[hx] at hv;rcases hv.single.1.2.2 with ⟨_,p,q1⟩ | ⟨b,off,cap,q1,_⟩
   ·exact fin (by simpa using q1) hk
   ·exact fin (by simpa using q1) hk
  ·rename_i hx;rw[hx] at hv;obtain ⟨p,hp⟩:=hv.single.1;exact fin hp hk
  ·rename_i n ver hx;rw[hx] at hv;split at hk
   case h_2=>cases hk
   rename_i ver' e xs fr hn;split at hk
   case isFalse=>cases hk
   rename_i hver;subst hver;obtain ⟨g1,g2,g3⟩:=hv.single.1;rcases c0p cc.hr hn with ⟨q1,rfl⟩ | ⟨b,cap,q1,_⟩
   ·obtain ⟨p,hp⟩:c0w (.lall n ver) .nil (a.eval x):=g3 _ q1;exact fin hp hk
   ·have hp:a.eval x = .slice (some ⟨b,0,none⟩) xs.length cap:=g3 _ q1;exact fin hp hk
  ·cases hk
 ·rename_i hmx;have hm:mx=none:=by cases mx<;>simp_all
  subst hm;have fin:∀ {c:Cell} {v:Value},k (.v false [c]) []=some r→(Instr.sliceAt t (a.eval x) (lo.map a.eval) (hi.map a.eval) none).run cx.P W = .ok v W →
    b0q cx.P W F E c v→v.oneCell'=true→a0r cx W F E N h a o k r:=by
   intro c v h1 h2 h3 h4;exact a0r.value cc h1 (v:=v) (by simp[execOp,ho,h2]) (RdV.mk1 h3 h4)
  split at hk
  ·-- closed
   rename_i e xs hx;rw[hx] at hv;cases hw:e0f cx et e with
   | false=>rw[hw] at hk;cases hk
   | true =>
    rw[hw] at hk;simp only[cond_true] at hk;obtain ⟨ti,t1,t2⟩:=i0y cc.tab hw;obtain ⟨l,j,h1,h2,h3,h4⟩:=g0g hk (optρ cc).1 (optρ cc).2 (optρ cc).1 (optρ cc).2;have hlen:((xs.take j).drop l).length=j-l:=by simp;omega
    rcases hv.single.1.2.2 with ⟨rfl,p,q1⟩ | ⟨b,off,cap,q1,q2,q3,q4⟩
    ·simp at q1;simp at h2;have hl0:l=0:=by omega
     subst hl0;subst h2;refine fin h3 (v := .slice p 0 0) ?_ ⟨rfl,rfl,.inl ⟨by simp,p,rfl⟩⟩ rfl;rw[q1,i0g (len:=0) hu t1 (h4 true 0 (Nat.le_refl 0))];simp
    ·simp at q1;have hrun:=i0g (b:=some ⟨b,off,none⟩) hu t1 (h4 true cap q3);by_cases hc:cap=l
     ·have hj:j=l:=by omega
      refine fin h3 (v := .slice (some ⟨b,off,none⟩) 0 0) ?_ ⟨rfl,rfl,.inl ⟨List.eq_nil_of_length_eq_zero (by rw[hlen];omega),_,rfl⟩⟩ rfl;rw[q1,hrun];simp[hc,hj]
     ·refine fin h3 (v := .slice (some ⟨b,off+l*width e,none⟩) (j-l) (cap-l)) ?_ ⟨rfl,rfl,.inr ⟨b,_,_,by rw[hlen];rfl,q2,by rw[hlen];omega,fun i hi => ?_⟩⟩ rfl
      ·rw[q1,hrun];simp[hc,addr_add,t2]
      ·rw[hlen] at hi;have:((xs.take j).drop l)[i]=xs[l+i]'(by omega):=by simp
       rw[this];have:=q4 (l+i) (by omega);rw[Nat.add_mul,←Nat.add_assoc] at this;exact this
  ·-- the empty one
   rename_i hx;rw[hx] at hv;obtain ⟨p,hp⟩:=hv.single.1;obtain ⟨l,j,h1,h2,h3,h4⟩:=g0g hk (optρ cc).1 (optρ cc).2 (optρ cc).1 (optρ cc).2;have hj:j=0:=by omega
   have hl:l=0:=by omega
   subst hj;subst hl;obtain ⟨ti,t1⟩:=hinfo;refine fin h3 (v := .slice p 0 0) ?_ ⟨p,rfl⟩ rfl;rw[hp,i0g (len:=0) hu t1 (h4 true 0 (Nat.le_refl 0))];simp
  ·-- all of one's own
   rename_i nm ver hx;rw[hx] at hv;split at hk
   case h_2=>cases hk
   rename_i ver' e xs fr hn;split at hk
   case isFalse=>cases hk
   rename_i hver;subst hver;cases hw:e0f cx et e with
   | false=>rw[hw] at hk;cases hk
   | true =>
    rw[hw] at hk;simp only[cond_true] at hk;obtain ⟨ti,t1,t2⟩:=i0y cc.tab hw;obtain ⟨l,j,h1,h2,h3,h4⟩:=g0g hk (optρ cc).1 (optρ cc).2 (optρ cc).1 (optρ cc).2;obtain ⟨g1,g2,g3⟩:=hv.single.1;rcases c0p cc.hr hn with ⟨q1,rfl⟩ | ⟨b,cap,q1,⟨cs,T,_,_,q3,_⟩,_⟩
    ·obtain ⟨p,hp⟩:c0w (.lall nm ver) .nil (a.eval x):=g3 _ q1;simp at h2;have hl0:l=0:=by omega
     subst hl0;subst h2;refine fin h3 (v := .slice p 0 0) ?_ ⟨g1,g2,fun L hL => ?_⟩ rfl
     ·rw[hp,i0g (len:=0) hu t1 (h4 true 0 (Nat.le_refl 0))];simp
     ·rw[q1] at hL;injection hL with hL;subst hL;exact ⟨⟨p,rfl⟩,rfl,rfl⟩
    ·have hp:a.eval x = .slice (some ⟨b,0,none⟩) xs.length cap:=g3 _ q1;refine fin h3 (v := .slice (if cap=l then some ⟨b,0,none⟩ else some ⟨b,l*width e,none⟩) (j-l) (cap-l)) ?_ ⟨g1,g2,fun L hL => ?_⟩ rfl
     ·rw[hp,i0g hu t1 (h4 true cap q3)];by_cases hc:cap=l<;>simp[hc,addr_add,t2]
     ·rw[q1] at hL;injection hL with hL;subst hL;refine ⟨by omega,if cap=l then 0 else l*width e,cap-l,?_,by omega,fun hc => ?_,by omega⟩
      ·by_cases hc:cap=l<;>simp[hc]
      ·have:cap≠l:=by omega
       simp[this];omega
  ·-- a piece of a piece
   rename_i nm ver off len hx;rw[hx] at hv;split at hk
   case h_2=>cases hk
   rename_i ver' e xs fr hn;split at hk
   case isFalse=>cases hk
   rename_i hver;subst hver;cases hw:e0f cx et e with
   | false=>rw[hw] at hk;cases hk
   | true =>
    rw[hw] at hk;simp only[cond_true] at hk;obtain ⟨ti,t1,t2⟩:=i0y cc.tab hw;obtain ⟨l,j,h1,h2,h3,h4⟩:=g0g hk (optρ cc).1 (optρ cc).2 (optρ cc).1 (optρ cc).2;obtain ⟨g1,g2,g3⟩:=hv.single.1;rcases c0p cc.hr hn with ⟨q1,rfl⟩ | ⟨b,cap,q1,_⟩
    ·obtain ⟨⟨p,hp⟩,hl0,ho0⟩:c0w (.lsl nm ver off len) .nil (a.eval x):=g3 _ q1;subst hl0;have hj:j=0:=by omega
     have hl:l=0:=by omega
     subst hj;subst hl;refine fin h3 (v := .slice p 0 0) ?_ ⟨g1,g2,fun L hL => ?_⟩ rfl
     ·rw[hp,i0g (len:=0) hu t1 (h4 true 0 (Nat.le_refl 0))];simp
     ·rw[q1] at hL;injection hL with hL;subst hL;exact ⟨⟨p,rfl⟩,by simp,by omega⟩
    ·obtain ⟨hle,p,c,hp,hlc,hoc,hoe⟩:c0w (.lsl nm ver off len) (.arr b (width e) xs.length cap) (a.eval x):=g3 _ q1;refine fin h3 (v := .slice (if c=l then some ⟨b,p,none⟩ else some ⟨b,p+l*width e,none⟩) (j-l) (c-l)) ?_ ⟨g1,g2,fun L hL => ?_⟩ rfl
     ·rw[hp,i0g hu t1 (h4 true c hlc)];by_cases hc:c=l<;>simp[hc,addr_add,t2]
     ·rw[q1] at hL;injection hL with hL;subst hL;refine ⟨by omega,if c=l then p else p+l*width e,c-l,?_,by omega,fun hc => ?_,by omega⟩
      ·by_cases hc:c=l<;>simp[hc]
      ·have hne:c≠l:=by omega
       obtain ⟨k1,k2⟩:=hoc (by omega);simp[hne,k1,Nat.add_mul];omega
  ·cases hk
theorem i1o {o:Oper} {k:V→Ups→Option R} {r:R} {t et:TypeId} {n:Nat} {x:Operand} {lo hi mx:Option Operand} (cc:Ctx cx call W F E N h ρ a) (ho:o.op = .slice t x lo hi mx)
  (hs:cx.shp t = .arr n et) (hk:v0b cx h n et (ρ x) (lo.map ρ) (hi.map ρ) (mx.map ρ) (fun c=>k (.v false [c]) [])=some r):a0r cx W F E N h a o k r:=by
 have hu:=p0p cc.tab hs;have hv:=cc.ρ x;unfold v0b at hk;split at hk
 case h_2=>cases hk
 rename_i m ver hmx hx;have hm:mx=none:=by cases mx<;>simp_all
 subst hm;rw[hx] at hv;split at hk
 case h_2=>cases hk
 rename_i ver' e xs fr hn;split at hk
 case isFalse=>cases hk
 rename_i hver;subst hver;cases hw:e0f cx et e with
 | false=>rw[hw] at hk;cases hk
 | true =>
  rw[hw] at hk;simp only[cond_true] at hk;obtain ⟨hlen,hk⟩:=a0l hk;have hlen:=of_decide_eq_true hlen;obtain ⟨ti,t1,t2⟩:=i0y cc.tab hw;obtain ⟨l,j,h1,h2,h3,h4⟩:=g0g hk (optρ cc).1 (optρ cc).2 (optρ cc).1 (optρ cc).2;obtain ⟨g1,g2,g3⟩:=hv.single.1;rcases c0p cc.hr hn with ⟨q1,rfl⟩ | ⟨b,cap,q1,_⟩
  ·exact (g3 _ q1:False).elim
  ·obtain ⟨hp,hcap⟩:a.eval x = .pointer (some ⟨b,0,none⟩)∧xs.length=cap:=g3 _ q1;have hb:=h4 false n (Nat.le_refl n);have hrun:(Instr.sliceAt t (a.eval x) (lo.map a.eval) (hi.map a.eval) none).run cx.P W = .ok (.slice (some (if n=l then ⟨b,0,none⟩ else ⟨b,l*width e,none⟩)) (j-l) (n-l)) W:=by
    rw[hp];simp[Instr.sliceAt,run_underlying hu,Instr.sureAddr,hb,sizeOf,typeInfo,t1,t2,addr_add]
   refine a0r.value cc h3 (v := .slice (some (if n=l then ⟨b,0,none⟩ else ⟨b,l*width e,none⟩)) (j-l) (n-l)) (by simp[execOp,ho,hrun]) (RdV.mk1 ⟨g1,g2,fun L hL => ?_⟩ rfl);rw[q1] at hL;injection hL with hL;subst hL;refine ⟨by omega,if n=l then 0 else l*width e,n-l,?_,by omega,fun hc => ?_,by omega⟩
   ·by_cases hc:n=l<;>simp[hc]
   ·have:n≠l:=by omega
    simp[this];omega
end
end Go.Flat
end
section
namespace Go.Flat
open Go.RowKit (Below)
section
variable {cx:Cx} {call:Oracle cx} {fx:Hints} {W W':World} {F F':Fz} {E E':EnvM} {h:Heap} {N:Nat→Prop} {ρ:Operand→V} {a:Act} {R:Type}
theorem args1 {args:Array Operand} {x:V} (h:args.toList.map ρ=[x]):∃p,args = #[p]∧ρ p=x:=by
 obtain ⟨l⟩:=args
 match l,h with
 | [p],h=>exact ⟨p,rfl,by simpa using h⟩
theorem args2 {args:Array Operand} {x y:V} (h:args.toList.map ρ=[x,y]):∃p q,args = #[p,q]∧ρ p=x∧ρ q=y:=by
 obtain ⟨l⟩:=args
 match l,h with
 | [p,q],h=>exact ⟨p,q,rfl,by simpa using h⟩
theorem args3 {args:Array Operand} {x y z:V} (h:args.toList.map ρ=[x,y,z]):∃p q s,args = #[p,q,s]∧ρ p=x∧ρ q=y∧ρ s=z:=by
 obtain ⟨l⟩:=args
 match l,h with
 | [p,q,s],h=>exact ⟨p,q,s,rfl,by simpa using h⟩
theorem e1z {o:Oper} {k:V→Ups→Option R} {r:R} {x:Operand} {i:Nat} (cc:Ctx cx call W F E N h ρ a) (ho:o.op = .extract x i)
  {vs:List (Bool×List Cell)} {ag:Bool} {cs:List Cell} (hx:ρ x = .tup vs) (hi:vs[i]? = some (ag,cs)) (hk:k (.v ag cs) []=some r):a0r cx W F E N h a o k r:=by
 have hv:=cc.ρ x;rw[hx] at hv;obtain ⟨us,h1,h2,h3⟩:=hv;have hlt:i<us.length:=by
  rw[h2];rcases Nat.lt_or_ge i vs.length with q | q
  ·exact q
  ·rw[List.getElem?_eq_none q] at hi;cases hi
 have hu:us[i]? = some us[i]:=List.getElem?_eq_getElem hlt;refine a0r.value cc hk (v:=us[i]) ?_ (h3 i _ _ hi hu);simp[execOp,ho,h1,Instr.extract,hu]
theorem z0i {P:Program} (hr:HR P W F E N h) {n ver base v0:Nat} {ck e:Ty} {xs:List (El ck×El e)} (hn:h[n]? = some (ver,some (.sealed n base ver (.mp ck e) xs none false))) (hb1:base≤v0) (hb2:v0≤ver) {v:Value} (hv:RdV P W F E (.v false [.sl n v0]) v) :
  ∃bs,o0g ck xs W bs v (fun _ y O u=>formed e u∧RdB P D0 e y W F O (one u))∧bs.Nodup∧(∀b∈bs,¬F b)∧(∀b∈bs,atName h E n b)∧ver=E.top n∧(∀j,base≤j→j≤ver→∃bs',E.m n j=some (.tree v bs')):=by
 obtain ⟨hN,L,hL,w,bs,rfl,g1,g2,g3,g4,g5⟩:=hr.blk n _ _ hn;obtain ⟨m1,m2,m3⟩:=g5 rfl;obtain ⟨bs',hbs'⟩:=g3 v0 hb1 hb2;have hone:=hv.2.2 rfl;have hrd:=hv.1;rw[oneCell_cells hone] at hrd;have hvw:v=w:=(hrd.2 0 _ _ rfl rfl).1.2.2 _ hbs';subst hvw;simp only[f0m] at m1;exact ⟨bs,m1,m2,m3,fun b hb=>⟨_,_,_,hn,hL,hb⟩,hr.top n _ _ hN hn,g3⟩
theorem h1u {t k e:TypeId} (ht:e0d cx) (h:cx.shp t = .map k e):cx.P.underlying t=some (.map k e):=by
 have:=v0f ht h (by simp);unfold shpB at this;split at this<;>simp_all
theorem op_len {o:Oper} {cl:Go.Call} {k:V→Ups→Option R} {r:R} {c:Cell} (cc:Ctx cx call W F E N h ρ a) (ho:o.op = .call cl) (hc:cl.callee = .builtin .len)
  (ha:cl.args.toList.map ρ=[.v false [c]]) {s:Shp} (hs:(cl.argTypes[0]?).map cx.shp=some s) (hk:lenK h s c (fun n=>k (.v false [.val (.int .i64) (n:Int)]) [])=some r) :
  a0r cx W F E N h a o k r:=by
 obtain ⟨p,hargs,hp⟩:=args1 ha;have hv:=cc.ρ p;rw[hp] at hv;obtain ⟨t,ht,rfl⟩:∃t,cl.argTypes[0]? = some t∧cx.shp t=s:=by
  cases ht:cl.argTypes[0]? with
  | none=>rw[ht] at hs;cases hs
  | some t=>rw[ht] at hs;exact ⟨t,rfl,by simpa using hs⟩
 have fin:∀ {n:Nat},(Builtin.len_ cl.argTypes o.type #[a.eval p]).run cx.P W = .ok (goInt n) W→k (.v false [.val (.int .i64) (n:Int)]) []=some r→a0r cx W F E N h a o k r:=by
  intro n hrun hk;refine a0r.value cc hk (v := .int .i64 n) ?_ (e0m _ _);simp[execOp,ho,resolve,hc,hargs,invoke,builtin,hrun,goInt]
 unfold lenK at hk;split at hk
 case h_4=>cases hk
 ·rename_i hsh;have hu:=k0n cc.tab hsh;split at hk
  case h_2=>cases hk
  rename_i s;have:=n0p hv;refine fin ?_ hk;simp[Builtin.len_,ht,run_underlying hu,this,size_mk]
 ·rename_i et hsh;have hu:=c0l cc.tab hsh;have fin2:∀ {b:Option Addr} {n cap:Nat},a.eval p = .slice b n cap→k (.v false [.val (.int .i64) (n:Int)]) []=some r→a0r cx W F E N h a o k r:=by
   intro b n cap hp hk;refine fin ?_ hk;simp[Builtin.len_,ht,run_underlying hu,hp]
  split at hk
  ·rename_i e xs;rcases hv.single.1.2.2 with ⟨rfl,p,q1⟩ | ⟨b,off,cap,q1,_⟩
   ·exact fin2 (by simpa using q1) hk
   ·exact fin2 (by simpa using q1) hk
  ·obtain ⟨p,hp⟩:=hv.single.1;exact fin2 hp hk
  ·rename_i n ver;split at hk
   case h_2=>cases hk
   rename_i ver' e xs fr hn;split at hk
   case isFalse=>cases hk
   rename_i hver;subst hver;obtain ⟨g1,g2,g3⟩:=hv.single.1;rcases c0p cc.hr hn with ⟨q1,rfl⟩ | ⟨b,cap,q1,_⟩
   ·obtain ⟨p,hp⟩:c0w (.lall n ver) .nil (a.eval p):=g3 _ q1;exact fin2 hp hk
   ·have hp:a.eval p = .slice (some ⟨b,0,none⟩) xs.length cap:=g3 _ q1;exact fin2 hp hk
  ·rename_i n ver off len;obtain ⟨g1,⟨L,g2⟩,g3⟩:=hv.single.1;have:=g3 L g2;cases L with
   | box b=>exact this.elim
   | tree w bs=>exact this.elim
   | nil =>
    obtain ⟨⟨_,hq⟩,hl,_⟩:=this;subst hl;exact fin2 hq hk
   | arr b w ln cap =>
    obtain ⟨_,o,c,hp,_⟩:=this;exact fin2 hp hk
  ·rename_i n v0;split at hk
   case h_2=>cases hk
   rename_i ver' n' base top e xs hole hn;split at hk
   case isFalse=>cases hk
   rename_i hcond;obtain ⟨rfl,hb1,hb2,rfl⟩:=hcond;obtain ⟨bs,hseal,_⟩:=ls_at cc.hr hn hb1 hb2 hv;simp only[f0m] at hseal;rcases hseal with ⟨rfl,_,q,hq⟩ | ⟨b,arr,T,Os,q1,_⟩
   ·exact fin2 hq hk
   ·exact fin2 q1 hk
  ·cases hk
 ·rename_i kt et hsh;have hu:=h1u cc.tab hsh;split at hk
  case h_2=>cases hk
  rename_i n v0;split at hk
  case h_2=>cases hk
  rename_i ver' n' base top ck e xs hn;split at hk
  case isFalse=>cases hk
  rename_i hcond;obtain ⟨rfl,hb1,hb2,rfl⟩:=hcond;obtain ⟨bs,hm,_⟩:=z0i cc.hr hn hb1 hb2 hv;obtain ⟨b,es,clock,Os,e1,e2,e3,_⟩:=hm;rw[←e3] at hk;refine fin ?_ hk;simp[Builtin.len_,ht,run_underlying hu,e1,MapKept.run_getObj_map e2]
theorem i1t {o:Oper} {cl:Go.Call} {k:V→Ups→Option R} {r:R} {x:V} (cc:Ctx cx call W F E N h ρ a) (ho:o.op = .call cl) (hc:cl.callee = .builtin .len)
  (ha:cl.args.toList.map ρ=[x]) {n e:Nat} (hs:(cl.argTypes[0]?).map cx.shp=some (.arr n e)) (hk:k (.v false [.val (.int .i64) (n:Int)]) []=some r) :
  a0r cx W F E N h a o k r:=by
 obtain ⟨p,hargs,hp⟩:=args1 ha;obtain ⟨t,ht,hsh⟩:∃t,cl.argTypes[0]? = some t∧cx.shp t = .arr n e:=by
  cases ht:cl.argTypes[0]? with
  | none=>rw[ht] at hs;cases hs
  | some t=>rw[ht] at hs;exact ⟨t,rfl,by simpa using hs⟩
 have hu:=p0p cc.tab hsh;refine a0r.value cc hk (v := .int .i64 n) ?_ (e0m _ _);simp[execOp,ho,resolve,hc,hargs,invoke,builtin,Builtin.len_,ht,run_underlying hu,goInt]
theorem op_min {o:Oper} {cl:Go.Call} {k:V→Ups→Option R} {r:R} {kd kd':IntKind} {m n:Int} (cc:Ctx cx call W F E N h ρ a) (ho:o.op = .call cl) (hc:cl.callee = .builtin .min)
  (ha:cl.args.toList.map ρ=[.v false [.val (.int kd) m],.v false [.val (.int kd') n]]) (hk:k (.v false [.val (.int kd) (if n<m then n else m)]) []=some r) :
  a0r cx W F E N h a o k r:=by
 obtain ⟨p,q,hargs,hp,hq⟩:=args2 ha;have h1:=cc.ρ p;have h2:=cc.ρ q;rw[hp] at h1;rw[hq] at h2;refine a0r.value cc hk (v := .int kd (if n<m then n else m)) ?_ (e0m _ _);simp[execOp,ho,resolve,hc,hargs,invoke,builtin,Builtin.min_,Builtin.min2,g0t h1,g0t h2]
theorem op_max {o:Oper} {cl:Go.Call} {k:V→Ups→Option R} {r:R} {kd kd':IntKind} {m n:Int} (cc:Ctx cx call W F E N h ρ a) (ho:o.op = .call cl) (hc:cl.callee = .builtin .max)
  (ha:cl.args.toList.map ρ=[.v false [.val (.int kd) m],.v false [.val (.int kd') n]]) (hk:k (.v false [.val (.int kd) (if m<n then n else m)]) []=some r) :
  a0r cx W F E N h a o k r:=by
 obtain ⟨p,q,hargs,hp,hq⟩:=args2 ha;have h1:=cc.ρ p;have h2:=cc.ρ q;rw[hp] at h1;rw[hq] at h2;refine a0r.value cc hk (v := .int kd (if m<n then n else m)) ?_ (e0m _ _);simp[execOp,ho,resolve,hc,hargs,invoke,builtin,Builtin.max_,Builtin.max2,g0t h1,g0t h2]
theorem op_min3 {o:Oper} {cl:Go.Call} {k:V→Ups→Option R} {r:R} {kd kd' kd'':IntKind} {m n l:Int} (cc:Ctx cx call W F E N h ρ a) (ho:o.op = .call cl) (hc:cl.callee = .builtin .min)
  (ha:cl.args.toList.map ρ=[.v false [.val (.int kd) m],.v false [.val (.int kd') n],.v false [.val (.int kd'') l]]) (hk:k (.v false [.val (.int kd) (if l<(if n<m then n else m) then l else (if n<m then n else m))]) []=some r) :
  a0r cx W F E N h a o k r:=by
 obtain ⟨p,q,s,hargs,hp,hq,hs⟩:=args3 ha;have h1:=cc.ρ p;have h2:=cc.ρ q;have h3:=cc.ρ s;rw[hp] at h1;rw[hq] at h2;rw[hs] at h3;refine a0r.value cc hk (v := .int kd (if l<(if n<m then n else m) then l else (if n<m then n else m))) ?_ (e0m _ _);simp[execOp,ho,resolve,hc,hargs,invoke,builtin,Builtin.min_,Builtin.min2,g0t h1,g0t h2,g0t h3]
theorem op_max3 {o:Oper} {cl:Go.Call} {k:V→Ups→Option R} {r:R} {kd kd' kd'':IntKind} {m n l:Int} (cc:Ctx cx call W F E N h ρ a) (ho:o.op = .call cl) (hc:cl.callee = .builtin .max)
  (ha:cl.args.toList.map ρ=[.v false [.val (.int kd) m],.v false [.val (.int kd') n],.v false [.val (.int kd'') l]]) (hk:k (.v false [.val (.int kd) (if (if m<n then n else m)<l then l else (if m<n then n else m))]) []=some r) :
  a0r cx W F E N h a o k r:=by
 obtain ⟨p,q,s,hargs,hp,hq,hs⟩:=args3 ha;have h1:=cc.ρ p;have h2:=cc.ρ q;have h3:=cc.ρ s;rw[hp] at h1;rw[hq] at h2;rw[hs] at h3;refine a0r.value cc hk (v := .int kd (if (if m<n then n else m)<l then l else (if m<n then n else m))) ?_ (e0m _ _);simp[execOp,ho,resolve,hc,hargs,invoke,builtin,Builtin.max_,Builtin.max2,g0t h1,g0t h2,g0t h3]
theorem f1d {o:Oper} {k:V→Ups→Option R} {r:R} {s d:TypeId} {x:Operand} {k0 kd k1:IntKind} {n:Int} (cc:Ctx cx call W F E N h ρ a) (ho:o.op = .convert s d x)
  (hs:cx.shp s = .int k0) (hd:cx.shp d = .int kd) (hx:ρ x = .v false [.val (.int k1) n]) (hk:k (.v false [.val (.int kd) (kd.wrap n)]) []=some r):a0r cx W F E N h a o k r:=by
 have hv:=cc.ρ x;rw[hx] at hv;refine a0r.value cc hk (v := .int kd (kd.wrap n)) ?_ (e0m _ _);simp[execOp,ho,convert,run_underlying (s0h cc.tab hs),run_underlying (s0h cc.tab hd),g0t hv,Conv.intToInt]
theorem f1b {o:Oper} {k:V→Ups→Option R} {r:R} {s d:TypeId} {x:Operand} {b:List UInt8} (cc:Ctx cx call W F E N h ρ a) (ho:o.op = .convert s d x)
  (hs:cx.shp s = .str) (hd:cx.shp d = .str) (hx:ρ x = .v false [.val .str b]) (hk:k (.v false [.val .str b]) []=some r):a0r cx W F E N h a o k r:=by
 have hv:=cc.ρ x;rw[hx] at hv;refine a0r.value cc hk (v := .string ⟨b.toArray⟩) ?_ (d1d _);simp[execOp,ho,convert,run_underlying (k0n cc.tab hs),run_underlying (k0n cc.tab hd),n0p hv]
theorem z0g {o:Oper} {k:V→Ups→Option R} {r:R} {s d et:TypeId} {x:Operand} {b:List UInt8} (cc:Ctx cx call W F E N h ρ a) (ho:o.op = .convert s d x)
  (hs:cx.shp s = .str) (hd:cx.shp d = .slice et) (he:cx.shp et = .int .u8) (hx:ρ x = .v false [.val .str b])
  (hk:k (.v false [.val (.slice (.int .u8)) (b.map fun c=>(c.toNat:Int))]) []=some r):a0r cx W F E N h a o k r:=by
 have hv:=cc.ρ x;rw[hx] at hv;have hrun:=Go.Lib.run_convert_string_bytes (P:=cx.P) W s d et ⟨b.toArray⟩ (k0n cc.tab hs) (c0l cc.tab hd) (s0h cc.tab he);have hsz:(⟨b.toArray⟩:ByteArray).size=b.length:=size_mk b;refine ⟨_,[],hk,OpOk.grow (v := .slice (some ⟨W.heap.size,0,none⟩) b.length (grownCap W b.length 0 et)) (W':=Go.Lib.bytesWorld W et ⟨b.toArray⟩)
  (F':=fun c=>F c∨c=W.heap.size) cc.hr cc.hF (fun c hc=>cc.hr.lt c hc) ?_ ⟨⟨?_,?_,?_,?_,?_⟩,fun _ hb => .inl hb,fun c hc => ?_⟩ (RdV.mk1 ⟨rfl,rfl,.inr ⟨W.heap.size,0,grownCap W b.length 0 et,?_,.inr rfl,?_,fun i hi => ?_⟩⟩ rfl)⟩
 ·rw[hsz] at hrun;simp[execOp,ho,n0p hv,hrun]
 ·rfl
 ·rfl
 ·rfl
 ·rw[Go.Lib.bytesWorld_size];omega
 ·intro c hc;exact Go.Lib.bytesWorld_at_old W et _ c hc
 ·rcases hc with hc | hc
  ·exact .inl hc
  ·refine .inr ?_;rw[Go.Lib.bytesWorld_size];omega
 ·simp
 ·simp;exact grownCap_ge _ _ _ _
 ·simp at hi;have:=Go.Lib.bytesWorld_cell W et ⟨b.toArray⟩ i (by rw[hsz];exact hi);simp only[RdP,mem,width,Nat.mul_one,Nat.zero_add,Nat.add_zero];rw[this];simp[List.getD,hi]
theorem j1d {b off:Nat} {xs:List Int} (k:IntKind) (hx:∀i (h:i<xs.length),Rd cx.P (.int k) xs[i] W F (mem W b (off+i*1))) :
  (loadCells ⟨b,off,none⟩ xs.length).run cx.P W = .ok (xs.map (Value.int k)).toArray W:=by
 have:=run_loadCells_list (P:=cx.P) (w:=W) ⟨b,off,none⟩ (xs.map (Value.int k)) fun j v hv=>by
  rw[List.getElem?_map] at hv;cases hj:xs[j]? with
  | none=>rw[hj] at hv;cases hv
  | some n =>
   rw[hj] at hv;simp at hv;subst hv;have hlt:j<xs.length:=by
    rcases Nat.lt_or_ge j xs.length with q | q
    ·exact q
    ·rw[List.getElem?_eq_none q] at hj;cases hj
   have:=hx j hlt;rw[List.getElem?_eq_getElem hlt] at hj;injection hj with hj;rw[hj] at this;simp only[Rd,RdP,mem,Nat.mul_one,Nat.add_zero] at this;rw[addr_add];exact this
 simpa using this
theorem x0f {o:Oper} {k:V→Ups→Option R} {r:R} {s d et:TypeId} {x:Operand} {c:Cell} (cc:Ctx cx call W F E N h ρ a) (ho:o.op = .convert s d x)
  (hs:cx.shp s = .slice et) (hd:cx.shp d = .str) (he:cx.shp et = .int .u8) (hx:ρ x = .v false [c])
  (hk:arrK cx call h (.int .u8) c (fun xs=>k (.v false [.val .str (xs.map fun n=>UInt8.ofNat n.toNat)]) [])=some r):a0r cx W F E N h a o k r:=by
 have hv:=cc.ρ x;rw[hx] at hv;unfold arrK at hk;split at hk
 case h_2=>cases hk
 rename_i xs ns hl;have hrd:=(r0u cc.hc cc.hr hl hv.single.1).2.2;have fin:(Conv.bytesToString (a.eval x)).run cx.P W = .ok (.string ⟨(xs.map fun n=>UInt8.ofNat n.toNat).toArray⟩) W→∀ {p:Option Addr} {l q:Nat},a.eval x = .slice p l q→a0r cx W F E N h a o k r:=by
  intro hb p l q hp;refine a0r.value cc hk (v := .string ⟨(xs.map fun n=>UInt8.ofNat n.toNat).toArray⟩) ?_ (d1d _);have:=run_convert_bytes_string (P:=cx.P) W s d et p l q (c0l cc.tab hs) (s0h cc.tab he) (k0n cc.tab hd);rw[←hp,hb] at this;simp[execOp,ho,this]
 have fold:∀(ns:List Int) (l:List UInt8),ns.foldl (fun r n=>r.push (UInt8.ofNat n.toNat)) (⟨l.toArray⟩:ByteArray)=⟨(l++ns.map fun n=>UInt8.ofNat n.toNat).toArray⟩:=by
  intro ns;induction ns with
  | nil=>intro l;simp
  | cons n ns ih =>
   intro l;have e:(⟨l.toArray⟩:ByteArray).push (UInt8.ofNat n.toNat)=⟨(l++[UInt8.ofNat n.toNat]).toArray⟩:=by simp[ByteArray.push]
   rw[List.foldl_cons,e,ih];simp
 rcases hrd with ⟨rfl,p,q1⟩ | ⟨b,off,cap,q1,q2,q3,q4⟩
 ·simp at q1;refine fin ?_ q1;rw[q1];cases p with
  | none=>simp[Conv.bytesToString];rfl
  | some p => 
   have:=run_bytesToString (P:=cx.P) W p 0 0 [] (by simp[loadCells,loadCellsFrom]);rw[this];rfl
 ·simp at q1;refine fin ?_ q1;rw[q1];have:=run_bytesToString (P:=cx.P) W ⟨b,off,none⟩ xs.length cap xs (j1d .u8 q4);rw[this];have:=fold xs [];simp at this;exact congrArg (fun z=>Result.ok (Value.string z) W) this
end
end Go.Flat
end
section
namespace Go.Flat
open Go.RowKit (Below)
section
variable {P:Program} {W W':World} {F F':Fz} {E E':EnvM} {h:Heap} {N:Nat→Prop}
theorem k0h.length {h k:Heap} (hk:k0h h k) (n:Nat) (hn:n<h.length):n<k.length:=by
 have hx:h[n]? = some h[n]:=List.getElem?_eq_getElem hn;rcases Nat.lt_or_ge n k.length with q | q
 ·exact q
 ·rcases hk n with e | ⟨v,B,e1,e2⟩
  ·rw[List.getElem?_eq_none q,hx] at e;cases e
  ·rw[List.getElem?_eq_none q] at e2;cases e2
theorem k0h.ver {h k:Heap} (hk:k0h h k) (n:Nat):a0h k n=a0h h n:=by
 unfold a0h;rcases hk n with e | ⟨v,B,e1,e2⟩
 ·rw[e]
 ·rw[e1,e2]
theorem a0y (hr:HR P W F E N h) {n:Nat} (hN:N n) (hlt:n<h.length):a0h h n=E.top n:=by
 unfold a0h;have hx:h[n]? = some h[n]:=List.getElem?_eq_getElem hlt;rw[hx];exact hr.top n _ _ hN hx
theorem q0b {ns:List Nat} {n b:Nat} (hn:n∈ns) (ha:atName h E n b):n∈a0e (a0i h ns):=by
 induction ns with
 | nil=>cases hn
 | cons m r ih =>
  rw[j0r];obtain ⟨ver,B,L,h1,h2,h3⟩:=ha;simp only[a0e,List.map_append,List.mem_append];rcases List.mem_cons.1 hn with rfl | hn
  ·left;rw[h1];simp
  ·right;exact ih hn
theorem a0g.lt (hr:HR P W F E N h) (hF:∀b,F b→b<W.heap.size) {ns:List Nat} {b:Nat} (hb:a0g F h E ns b):b<W.heap.size:=by
 rcases hb with hb | ⟨n,_,hb⟩
 ·exact hF b hb
 ·exact hr.lt b ⟨n,hb⟩
theorem k0e (hE:EnvLe E E') (hr:HR P W F E N h) {n b:Nat}:atName h E' n b↔atName h E n b:=by
 constructor
 ·rintro ⟨ver,B,L,h1,h2,h3⟩;have:=(hr.top n ver _ (hr.blk n ver B h1).1 h1);exact ⟨ver,B,L,h1,by rw[←hE.m n ver (by omega)];exact h2,h3⟩
 ·rintro ⟨ver,B,L,h1,h2,h3⟩;have:=(hr.top n ver _ (hr.blk n ver B h1).1 h1);exact ⟨ver,B,L,h1,by rw[hE.m n ver (by omega)];exact h2,h3⟩
theorem OpPost.turn {n ver':Nat} {B:Blk} {ns:List Nat} {row:Option Nat} (hr:HR P W F E N h) (hF:∀b,F b→b<W.heap.size) (hN:N n) (hlt:n<h.length)
  (hE:EnvLe E E') (htop:E'.top n=ver') (hoth:∀m,m≠n→E'.top m=E.top m)
  (hw:W.grownBy W' row) (hrow:∀b,row=some b→atName h E n b∧¬a0g F h E ns b)
  (hF1:∀b,a0g F h E ns b→F' b) (hF2:∀b,F' b→a0g F h E ns b∨(W.heap.size≤b∧b<W'.heap.size))
  (hB:∃L,E'.m n ver'=some L∧f0e P W' F' E' L B∧∀x,L.has x→row=some x∨(W.heap.size≤x∧x<W'.heap.size)) :
  OpPost P W F E N h W' F' E' (a0i h ns++[(n,ver',some B)]):=by
 obtain ⟨hr1,hfz⟩:=HR.freeze ns hr (k0h.refl h);have hlater:Later W (a0g F h E ns) W' F':=⟨hw.os,hw.tape,hw.output,hw.size,fun b hb=>hw.block b (a0g.lt hr hF hb) (fun e=>(hrow b e.symm).2 hb),hF1⟩;obtain ⟨L,hL,hBL,hLx⟩:=hB;have hput:HR P W' F' E' N ((a0u h (a0i h ns)).set n (ver',some B)):=by
  refine hr1.put hN hE htop hoth hlater ?_ ?_
  ·rintro b ⟨m,hm,hat⟩;have hat':=(hfz.atName m b).1 hat;have hb:=hr.lt b ⟨m,hat'⟩;refine ⟨hw.block b hb (fun e=>hm (b0h hr hat' (hrow b e.symm).1)),fun hn hf => ?_⟩;rcases hF2 b hf with k | k
   ·exact hn k
   ·omega
  ·intro B' hB';injection hB' with hB';subst hB';refine ⟨L,hL,hBL,fun x hx => ?_⟩;rintro ⟨m,hm,hat⟩;have hat':=(hfz.atName m x).1 hat;rcases hLx x hx with k | k
   ·exact hm (b0h hr hat' (hrow x k).1)
   ·have:=hr.lt x ⟨m,hat'⟩;omega
 have hup:∀m,m∈a0e (a0i h ns++[(n,ver',some B)])↔m∈a0e (a0i h ns)∨m=n:=by
  intro m;simp[a0e]
 have hset:a0u h (a0i h ns++[(n,ver',some B)])=(a0u h (a0i h ns)).set n (ver',some B):=by rw[e0e];rfl
 refine ⟨by rw[hset];exact hput,(a0z ns).trans hlater,hE,fun b hb hnot => ?_,fun b hb => ?_,fun m b hm hat => ?_,fun m hm => ?_⟩
 ·refine hw.block b hb (fun e => ?_);exact hnot n ((hup n).2 (.inr rfl)) (hrow b e.symm).1
 ·rcases hF2 b hb with (k | ⟨m,hm,k⟩) | k
  ·exact .inl k
  ·exact .inr (.inl ⟨m,(hup m).2 (.inl (q0b hm k)),k⟩)
  ·exact .inr (.inr k)
 ·rw[hset] at hat;by_cases e:m=n
  ·subst e;obtain ⟨v,B',L',h1,h2,h3⟩:=hat;rw[List.getElem?_set] at h1;simp[hfz.length m hlt] at h1;obtain ⟨rfl,rfl⟩:=h1;rw[hL] at h2;injection h2 with h2;subst h2;rcases hLx b h3 with k | k
   ·exact .inl ⟨m,hm,(hrow b k).1⟩
   ·exact .inr k
  ·have hat1:atName (a0u h (a0i h ns)) E' m b:=by
    obtain ⟨v,B',L',h1,h2,h3⟩:=hat;rw[List.getElem?_set_ne (fun q=>e q.symm)] at h1;exact ⟨v,B',L',h1,h2,h3⟩
   have hat2:=(hfz.atName m b).1 ((k0e hE hr1).1 hat1);exact .inl ⟨m,hm,hat2⟩
 ·exact hoth m (fun e=>hm ((hup m).2 (.inr e)))
end
end Go.Flat
end
