/-
  Plain proofs about the functions of this seat, part 1 of 1.
-/
import Derived.IntWalk
import Derived.Test.YtefpnjjbopdplaaGreatDoorTr
import Derived.Test.YtefpnjjbopdplaaGreatDoorFlatM3
namespace Go.Plim
set_option linter.unusedVariables false
abbrev Wd:=Int×Int
abbrev Ev:=Int×(Int×(Int×Bool))
abbrev Cel:=Int×(Ev×(Ev×(Wd×(Int×(Int×Int)))))
instance decWd:DecidableEq Wd:=inferInstanceAs (DecidableEq (Int×Int))
instance decEv:DecidableEq Ev:=inferInstanceAs (DecidableEq (Int×(Int×(Int×Bool))))
instance decCel:DecidableEq Cel := @instDecidableEqProd _ _ _ (@instDecidableEqProd _ _ decEv (@instDecidableEqProd _ _ decEv (@instDecidableEqProd _ _ decWd inferInstance)))
def wv (a:Wd):Int:=a.1*18446744073709551616+a.2
structure WdOk (a:Wd):Prop where
  hi:0≤a.1∧a.1≤18446744073709551615
  lo:0≤a.2∧a.2≤18446744073709551615
def mkW (v:Int):Wd:=(v / 18446744073709551616,v % 18446744073709551616)
theorem wv_mkW (v:Int):wv (mkW v)=v:=by
  simp only[mkW,wv];omega
theorem mkW_ok {v:Int} (h:0≤v) (h':v<340282366920938463463374607431768211456):WdOk (mkW v):=by
  constructor<;>simp only[mkW]<;>omega
theorem wv_range {a:Wd} (h:WdOk a):0≤wv a∧wv a<340282366920938463463374607431768211456:=by
  obtain ⟨h1,h2⟩:=h
  simp only[wv];omega
def e0:Ev:=(0,(0,(0,false)))
structure EvOk (e:Ev):Prop where
  t0:0≤e.1
  t1:e.1<35184372088832
  v0:0≤e.2.1
  v1:e.2.1≤18446744073709551615
  c0:0≤e.2.2.1
  c1:e.2.2.1≤e.1
  st:e.2.2.2=true→e.2.1=0∧e.2.2.1=0
theorem evOk_iff (e:Ev):EvOk e↔(0≤e.1∧e.1<35184372088832∧0≤e.2.1∧e.2.1≤18446744073709551615∧0≤e.2.2.1∧e.2.2.1≤e.1∧(e.2.2.2=true→e.2.1=0∧e.2.2.1=0)) :=
  ⟨fun ⟨a,b,c,d,f,g,h⟩=>⟨a,b,c,d,f,g,h⟩,fun ⟨a,b,c,d,f,g,h⟩=>⟨a,b,c,d,f,g,h⟩⟩
instance (e:Ev):Decidable (EvOk e):=decidable_of_iff _ (evOk_iff e).symm
def btw (p c:Ev):Int×(Int×(Int×Int)) :=
  if c.2.2.2=true then (0,0,0,0)
  else if p.1<c.2.2.1 then (c.2.1,1,0,c.1-c.2.2.1)
  else if p.2.2.2=true then (0,0,1,0)
  else if c.2.1<p.2.1 then (c.2.1,1,0,c.1-p.1)
  else (c.2.1-p.2.1,0,0,c.1-p.1)
structure DlOk (d:Int×(Int×(Int×Int))) (s:Int):Prop where
  i:0≤d.1∧d.1≤18446744073709551615
  r:0≤d.2.1
  g:0≤d.2.2.1
  rg:d.2.1+d.2.2.1≤1
  s:0≤d.2.2.2∧d.2.2.2≤s
def z0:Cel:=(0,(e0,(e0,((0,0),(0,(0,0))))))
structure CellN (c:Cel):Prop where
  n1:1≤c.1
  f:EvOk c.2.1
  l:EvOk c.2.2.1
  one:c.1=1→c.2.1=c.2.2.1
  more:1<c.1→c.2.1.1<c.2.2.1.1
  n2:c.1-1≤c.2.2.1.1-c.2.1.1
  w:WdOk c.2.2.2.1
  inc:wv c.2.2.2.1≤18446744073709551615*(c.1-1)
  r:0≤c.2.2.2.2.1
  g:0≤c.2.2.2.2.2.1
  rg:c.2.2.2.2.1+c.2.2.2.2.2.1≤c.1-1
  s0:0≤c.2.2.2.2.2.2
  s1:c.2.2.2.2.2.2≤c.2.2.1.1-c.2.1.1
theorem wdOk_iff (a:Wd):WdOk a↔(0≤a.1∧a.1≤18446744073709551615)∧(0≤a.2∧a.2≤18446744073709551615) :=
  ⟨fun ⟨a,b⟩=>⟨a,b⟩,fun ⟨a,b⟩=>⟨a,b⟩⟩
instance (a:Wd):Decidable (WdOk a):=decidable_of_iff _ (wdOk_iff a).symm
theorem cellN_iff (c:Cel):CellN c↔(1≤c.1∧EvOk c.2.1∧EvOk c.2.2.1∧(c.1=1→c.2.1=c.2.2.1)∧(1<c.1→c.2.1.1<c.2.2.1.1)∧c.1-1≤c.2.2.1.1-c.2.1.1∧WdOk c.2.2.2.1 ∧
    wv c.2.2.2.1≤18446744073709551615*(c.1-1)∧0≤c.2.2.2.2.1∧0≤c.2.2.2.2.2.1∧c.2.2.2.2.1+c.2.2.2.2.2.1≤c.1-1∧0≤c.2.2.2.2.2.2∧c.2.2.2.2.2.2≤c.2.2.1.1-c.2.1.1) :=
  ⟨fun ⟨a,b,c,d,e,f,g,h,i,j,k,l,m⟩=>⟨a,b,c,d,e,f,g,h,i,j,k,l,m⟩,fun ⟨a,b,c,d,e,f,g,h,i,j,k,l,m⟩=>⟨a,b,c,d,e,f,g,h,i,j,k,l,m⟩⟩
instance (c:Cel):Decidable (CellN c):=decidable_of_iff _ (cellN_iff c).symm
def CellOk (c:Cel):Prop:=c=z0∨CellN c
instance (c:Cel):Decidable (CellOk c):=by unfold CellOk;infer_instance
theorem CellN.ok {c:Cel} (h:CellN c):CellOk c := .inr h
theorem CellOk.n {c:Cel} (h:CellOk c) (hz:c≠z0):CellN c:=h.resolve_left hz
theorem CellN.ft {c:Cel} (h:CellN c):c.2.1.1≤c.2.2.1.1:=by have:=h.n1;have:=h.n2;omega
theorem CellN.small {c:Cel} (h:CellN c):c.1≤35184372088832:=by
  have:=h.n2;have:=h.f.t0;have:=h.l.t1;omega
def mrg (a b:Cel):Cel :=
  if a=z0 then b else if b=z0 then a else
    (a.1+b.1,(a.2.1,(b.2.2.1,(mkW (wv a.2.2.2.1+(btw a.2.2.1 b.2.1).1+wv b.2.2.2.1),
      (a.2.2.2.2.1+(btw a.2.2.1 b.2.1).2.1+b.2.2.2.2.1,(a.2.2.2.2.2.1+(btw a.2.2.1 b.2.1).2.2.1+b.2.2.2.2.2.1,a.2.2.2.2.2.2+(btw a.2.2.1 b.2.1).2.2.2+b.2.2.2.2.2.2))))))
def Ahead (a b:Cel):Prop:=a=z0∨b=z0∨a.2.2.1.1<b.2.1.1
instance (a b:Cel):Decidable (Ahead a b):=by unfold Ahead;infer_instance
def evCell (e:Ev):Cel:=(1,(e,(e,((0,0),(0,(0,0))))))
def cellOf (l:List Ev):Cel:=l.foldl (fun c e=>mrg c (evCell e)) z0
structure Foll (l:List Ev):Prop where
  ok:∀e∈l,EvOk e
  inc:l.Pairwise fun a b=>a.1<b.1
theorem Foll.nil:Foll []:=⟨by simp,.nil⟩
theorem foll_append {l m:List Ev}:Foll (l++m)↔Foll l∧Foll m∧∀x∈l,∀y∈m,x.1<y.1:=by
  constructor
  · rintro ⟨h1,h2⟩
    rw[List.pairwise_append] at h2
    exact ⟨⟨fun x hx=>h1 x (by simp[hx]),h2.1⟩,⟨fun x hx=>h1 x (by simp[hx]),h2.2.1⟩,h2.2.2⟩
  · rintro ⟨h1,h2,h3⟩
    refine ⟨fun x hx => ?_,List.pairwise_append.2 ⟨h1.inc,h2.inc,h3⟩⟩
    rcases List.mem_append.1 hx with hx | hx
    · exact h1.ok x hx
    · exact h2.ok x hx
theorem Foll.sub {l m:List Ev} (h:Foll l) (s:m.Sublist l):Foll m:=⟨fun e he=>h.ok e (s.subset he),h.inc.sublist s⟩
structure Has (l:List Ev) (c:Cel):Prop where
  n:CellN c
  cnt:c.1=l.length
  first:l.head? = some c.2.1
  last:l.getLast? = some c.2.2.1
def mrgE (a b:Cel):Cel×Int:=if CellOk a∧CellOk b then (if Ahead a b then (mrg a b,0) else (z0,9)) else (z0,2)
def allE:Cel→List Cel→Cel×Int
  | c,[]=>(c,0)
  | c,x::r=>if (mrgE c x).2=0 then allE (mrgE c x).1 r else (z0,(mrgE c x).2)
end Go.Plim

namespace Go.Proofs.YtefpnjjbopdplaaGreatDoor
open Go.Flat Go.Plim
set_option linter.unusedVariables false
set_option linter.unusedSimpArgs false
theorem shr_nat (x:Int) (k:Nat) (hk:k≤64):shrI .u64 x (k:Int)=x / 2^k:=by
  unfold shrI
  rw[show min (k:Int).toNat IntKind.u64.bits=k from by show min (k:Int).toNat 64=k;omega]
  exact Int.fdiv_eq_ediv_of_nonneg _ (Int.le_of_lt (Int.pow_pos (by decide)))
theorem and_mask (x:Int) (k:Nat) (hk:k≤63) (h:0≤x) (h':x≤18446744073709551615):andI .u64 x ((2^k-1:Nat):Int)=x % ((2^k:Nat):Int):=by
  obtain ⟨a,rfl⟩:=Int.eq_ofNat_of_zero_le h
  have hp:2^k≤2^63:=Nat.pow_le_pow_right (by decide) hk
  have h63:(2:Nat)^63=9223372036854775808:=by decide
  unfold andI
  have e:(BitVec.ofInt IntKind.u64.bits (a:Int) &&& BitVec.ofInt IntKind.u64.bits ((2^k-1:Nat):Int)).toNat=a % 2^k:=by
    show (BitVec.ofInt 64 (a:Int) &&& BitVec.ofInt 64 ((2^k-1:Nat):Int)).toNat=_
    rw[BitVec.toNat_and,BitVec.ofInt_natCast,BitVec.ofInt_natCast,BitVec.toNat_ofNat,BitVec.toNat_ofNat,Nat.mod_eq_of_lt (a:=a) (by omega),Nat.mod_eq_of_lt (a:=2^k-1) (by omega),Nat.and_two_pow_sub_one_eq_mod]
  rw[e]
  have:a % 2^k<2^k:=Nat.mod_lt _ (Nat.pow_pos (by decide))
  rw[wu64 (by omega) (by omega)]
  simp
theorem or_zero (a b:Int) (ha:0≤a∧a≤18446744073709551615) (hb:0≤b∧b≤18446744073709551615):orI .u64 a b=0↔a=0∧b=0:=by
  obtain ⟨a,rfl⟩:=Int.eq_ofNat_of_zero_le ha.1
  obtain ⟨b,rfl⟩:=Int.eq_ofNat_of_zero_le hb.1
  unfold orI
  have e2:(BitVec.ofInt IntKind.u64.bits (a:Int) ||| BitVec.ofInt IntKind.u64.bits (b:Int)).toNat=a ||| b:=by
    show (BitVec.ofInt 64 (a:Int) ||| BitVec.ofInt 64 (b:Int)).toNat=_
    rw[BitVec.toNat_or,BitVec.ofInt_natCast,BitVec.ofInt_natCast,BitVec.toNat_ofNat,BitVec.toNat_ofNat,Nat.mod_eq_of_lt (by omega),Nat.mod_eq_of_lt (by omega)]
  rw[e2]
  have:a ||| b<2^64:=Nat.or_lt_two_pow (by omega) (by omega)
  rw[wu64 (by omega) (by omega)]
  have h3:a ||| b=0↔a=0∧b=0:=Nat.or_eq_zero_iff
  omega
theorem wide_of (n:Nat) (x:Int):wide_Of (n+1) x=some (0,x):=wide_Of_eq n x
theorem wide_sure_val (n:Nat) (a:Wd) (o:Int):wide_sure (n+1) a o=some (if o=0 then (a,0) else ((0,0),1)):=by
  rw[wide_sure_eq]
  by_cases h:o=0<;>simp[h]
theorem wide_less (n:Nat) {a b:Wd} (ha:WdOk a) (hb:WdOk b):wide_Less (n+1) a b=some (decide (wv a<wv b)):=by
  obtain ⟨h1,h2⟩:=ha
  obtain ⟨h3,h4⟩:=hb
  obtain ⟨ah,al⟩:=a
  obtain ⟨bh,bl⟩:=b
  simp only at h1 h2 h3 h4
  rw[wide_Less_eq]
  have ea:wv (ah,al)=ah*18446744073709551616+al:=rfl
  have eb:wv (bh,bl)=bh*18446744073709551616+bl:=rfl
  generalize wv (ah,al)=va at *
  generalize wv (bh,bl)=vb at *
  simp only[tfd]
  by_cases c1:ah<bh
  · rw[if_pos c1,decide_eq_true (by omega)]
  · rw[if_neg c1]
    by_cases c2:ah=bh
    · rw[if_pos c2];congr 1
      exact decide_eq_decide.2 (by omega)
    · rw[if_neg c2,decide_eq_false (by omega)]
theorem mul64 (n:Nat) (x y:Int) (hx:0≤x∧x≤18446744073709551615) (hy:0≤y∧y≤18446744073709551615):math_bits_Mul64 (n+1) x y=some (x*y / 18446744073709551616,x*y % 18446744073709551616):=by
  rw[math_bits_Mul64_eq]
  have sh:∀z:Int,shrI .u64 z (32:Int)=z / 4294967296:=fun z=>shr_nat z 32 (by decide)
  have an:∀z:Int,0≤z→z≤18446744073709551615→andI .u64 z (4294967295:Int)=z % 4294967296:=fun z h h'=>and_mask z 32 (by decide) h h'
  rw[an x hx.1 hx.2,an y hy.1 hy.2]
  simp only[sh]
  have b1:0≤x / 4294967296∧x / 4294967296≤4294967295:=by omega
  have b2:0≤y / 4294967296∧y / 4294967296≤4294967295:=by omega
  have b3:0≤x % 4294967296∧x % 4294967296≤4294967295:=by omega
  have b4:0≤y % 4294967296∧y % 4294967296≤4294967295:=by omega
  have ex:x=x / 4294967296*4294967296+x % 4294967296:=by omega
  have ey:y=y / 4294967296*4294967296+y % 4294967296:=by omega
  generalize hx1:x / 4294967296=x1 at *
  generalize hx0:x % 4294967296=x0 at *
  generalize hy1:y / 4294967296=y1 at *
  generalize hy0:y % 4294967296=y0 at *
  have bound:∀ {u v:Int},0≤u∧u≤4294967295→0≤v∧v≤4294967295→0≤u*v∧u*v≤18446744065119617025:=fun {u v} hu hv =>
    ⟨Int.mul_nonneg hu.1 hv.1,Int.le_trans (Int.mul_le_mul hu.2 hv.2 hv.1 (by decide)) (by decide)⟩
  have p11:=bound b1 b2
  have p10:=bound b1 b4
  have p01:=bound b3 b2
  have p00:=bound b3 b4
  have exy:x*y=x1*y1*18446744073709551616+(x1*y0+x0*y1)*4294967296+x0*y0:=by
    rw[ex,ey]
    simp only[Int.add_mul,Int.mul_add]
    have q1:x1*4294967296*(y1*4294967296)=x1*y1*18446744073709551616:=by
      rw[Int.mul_assoc,Int.mul_left_comm 4294967296 y1,←Int.mul_assoc];rfl
    have q2:x0*(y1*4294967296)=x0*y1*4294967296:=by rw[Int.mul_assoc]
    have q3:x1*4294967296*y0=x1*y0*4294967296:=by rw[Int.mul_assoc,Int.mul_comm 4294967296 y0,←Int.mul_assoc]
    rw[q1,q2,q3];omega
  rw[exy]
  generalize x1*y1=a11 at *
  generalize x1*y0=a10 at *
  generalize x0*y1=a01 at *
  generalize x0*y0=a00 at *
  rw[wu64 (x:=a00) (by omega) (by omega),wu64 (x:=a11) (by omega) (by omega),wu64 (x:=a10) (by omega) (by omega),wu64 (x:=a01) (by omega) (by omega)]
  rw[wu64 (x:=a10+a00 / 4294967296) (by omega) (by omega),an _ (by omega) (by omega)]
  rw[wu64 (x:=a11+(a10+a00 / 4294967296) / 4294967296) (by omega) (by omega),wu64 (x:=(a10+a00 / 4294967296) % 4294967296+a01) (by omega) (by omega),wu64 (by omega) (by omega)]
  have wm:∀z:Int,IntKind.wrap .u64 z=z % 18446744073709551616:=fun z=>IntKind.wrap_u64 z
  rw[wm]
  congr 2
  omega
def timesW (a:Wd) (k:Int):Wd×Int:=if wv a*k<340282366920938463463374607431768211456 then (mkW (wv a*k),0) else ((0,0),1)
theorem wide_times (n:Nat) {a:Wd} (ha:WdOk a) (k:Int) (hk:0≤k∧k≤18446744073709551615):wide_Times (n+2) a k=some (timesW a k):=by
  obtain ⟨h1,h2⟩:=ha
  obtain ⟨ah,al⟩:=a
  simp only at h1 h2
  rw[wide_Times_eq,mul64 n al k h2 hk,mul64 n ah k h1 hk]
  simp only[obs]
  have bd:∀ {u:Int},0≤u∧u≤18446744073709551615→0≤u*k∧u*k≤340282366920938463426481119284349108225:=fun {u} hu =>
    ⟨Int.mul_nonneg hu.1 hk.1,Int.le_trans (Int.mul_le_mul hu.2 hk.2 hk.1 (by decide)) (by decide)⟩
  have b1:=bd h1
  have b2:=bd h2
  unfold timesW
  have e:wv (ah,al)*k=ah*k*18446744073709551616+al*k:=by
    simp only[wv]
    rw[Int.add_mul,Int.mul_assoc,Int.mul_comm 18446744073709551616 k,←Int.mul_assoc]
  rw[e]
  generalize ah*k=p at *
  generalize al*k=q at *
  simp only[tif_and,tfd,tft,if_pos (show (0:Int)≤p % 18446744073709551616 by omega),if_pos (show (0:Int)≤q / 18446744073709551616 by omega),wide_sure_val,obs]
  have ho:=or_zero (p / 18446744073709551616) ((p % 18446744073709551616+q / 18446744073709551616+0) / 18446744073709551616) (by omega) (by omega)
  by_cases hc:p*18446744073709551616+q<340282366920938463463374607431768211456
  · rw[if_pos hc,if_pos (ho.2 (by omega))]
    simp only[mkW]
    congr 2
    exact Prod.ext (by simp only;omega) (by simp only;omega)
  · rw[if_neg hc,if_neg (fun h=>by have:=ho.1 h;omega)]
theorem at_mid {α:Type} {l pre rest:List α} {x:α} {i:Int} (h:l=pre++x::rest) (hi:i=pre.length):at? l i=some x:=by
  subst h hi;simp[at?]
theorem idx {α:Type} {l pre rest:List α} {x:α} {i len:Int} (h:l=pre++x::rest) (hi:i=pre.length) (hn:len=l.length):i<len:=by
  have:=congrArg List.length h
  simp at this
  omega
theorem idxe {α:Type} {l pre:List α} {i len:Int} (h:l=pre++[]) (hi:i=pre.length) (hn:len=l.length):¬(i<len):=by
  have:=congrArg List.length h
  simp at this
  omega
theorem idxw {α:Type} {l pre rest:List α} {x:α} {i:Int} (h:l=pre++x::rest) (hi:i=pre.length) (hL:l.length≤1000000000000):IntKind.wrap .i64 (i+1)=i+1:=by
  have:=congrArg List.length h
  simp at this
  rw[w64 (by omega) (by omega)]
theorem idxs {α:Type} {pre:List α} {x:α} {i:Int} (hi:i=pre.length):i+1=((pre++[x]).length:Int):=by simp;omega
theorem idxl {α:Type} {l pre rest:List α} {x:α} (h:l=pre++x::rest):l=(pre++[x])++rest:=by rw[h];simp
def I64 (x:Int):Prop := -9223372036854775808≤x∧x≤9223372036854775807
structure EvW (e:Ev):Prop where
  t:I64 e.1
  v:0≤e.2.1∧e.2.1≤18446744073709551615
  c:I64 e.2.2.1
structure CelW (c:Cel):Prop where
  n:I64 c.1
  f:EvW c.2.1
  l:EvW c.2.2.1
  w:WdOk c.2.2.2.1
  r:I64 c.2.2.2.2.1
  g:I64 c.2.2.2.2.2.1
  s:I64 c.2.2.2.2.2.2
theorem EvW.of {e:Ev} (h:EvOk e):EvW e:=by
  obtain ⟨a,b,c,d,f,g,_⟩:=h
  exact ⟨by unfold I64;omega,⟨c,d⟩,by unfold I64;omega⟩
theorem CelW.ofN {c:Cel} (h:CellN c):CelW c:=by
  have:=h.small;have:=h.n1;have:=h.f.t0;have:=h.f.t1;have:=h.l.t0;have:=h.l.t1;have:=h.r;have:=h.g;have:=h.rg;have:=h.s0;have:=h.s1
  exact ⟨by unfold I64;omega,.of h.f,.of h.l,h.w,by unfold I64;omega,by unfold I64;omega,by unfold I64;omega⟩
theorem celW_z0:CelW z0:=⟨by simp[I64,z0],⟨by simp[I64,z0,e0],by simp[z0,e0],by simp[I64,z0,e0]⟩,⟨by simp[I64,z0,e0],by simp[z0,e0],by simp[I64,z0,e0]⟩,⟨by simp[z0],by simp[z0]⟩,by simp[I64,z0],by simp[I64,z0],by simp[I64,z0]⟩
theorem CelW.of {c:Cel} (h:CellOk c):CelW c:=by
  rcases h with rfl | h
  · exact celW_z0
  · exact .ofN h
end Go.Proofs.YtefpnjjbopdplaaGreatDoor

namespace Go.Plim
set_option linter.unusedVariables false
variable {α:Type}
def Srt (key:α→Int) (d:List α) (a b:Nat):Prop:=∀i j x y,a≤i→i<j→j<b→d[i]? = some x→d[j]? = some y→key x≤key y
structure Mv (d d':List α) (a b:Nat):Prop where
  perm:d'.Perm d
  out:∀i,(i<a∨b≤i)→d'[i]? = d[i]?
  ins:∀i x,a≤i→i<b→d'[i]? = some x→∃j,a≤j∧j<b∧d[j]? = some x
theorem Mv.len {d d':List α} {a b:Nat} (h:Mv d d' a b):d'.length=d.length:=h.perm.length_eq
theorem Mv.refl (d:List α) (a b:Nat):Mv d d a b:=⟨.refl _,fun _ _=>rfl,fun i x h1 h2 h=>⟨i,h1,h2,h⟩⟩
theorem Mv.trans {d d' d'':List α} {a b:Nat} (h:Mv d d' a b) (g:Mv d' d'' a b):Mv d d'' a b :=
  ⟨g.perm.trans h.perm,fun i hi=>(g.out i hi).trans (h.out i hi),fun i x h1 h2 hx=>by
    obtain ⟨j,j1,j2,hj⟩:=g.ins i x h1 h2 hx
    exact h.ins j x j1 j2 hj⟩
theorem Mv.mono {d d':List α} {a b a' b':Nat} (h:Mv d d' a b) (ha:a'≤a) (hb:b≤b'):Mv d d' a' b' :=
  ⟨h.perm,fun i hi=>h.out i (by omega),fun i x h1 h2 hx=>by
    by_cases k:a≤i∧i<b
    · obtain ⟨j,j1,j2,hj⟩:=h.ins i x k.1 k.2 hx
      exact ⟨j,by omega,by omega,hj⟩
    · rw[h.out i (by omega)] at hx
      exact ⟨i,h1,h2,hx⟩⟩
theorem Srt.mono {key:α→Int} {d:List α} {a b a' b':Nat} (h:Srt key d a b) (ha:a≤a') (hb:b'≤b):Srt key d a' b' :=
  fun i j x y h1 h2 h3=>h i j x y (by omega) h2 (by omega)
theorem Srt.keep {key:α→Int} {d d':List α} {a b p q:Nat} (h:Srt key d p q) (m:Mv d d' a b) (hd:q≤a∨b≤p):Srt key d' p q :=
  fun i j x y h1 h2 h3 hx hy=>h i j x y h1 h2 h3 (by rw[←m.out i (by omega)];exact hx) (by rw[←m.out j (by omega)];exact hy)
theorem Srt.one (key:α→Int) (d:List α) {a b:Nat} (h:b≤a+1):Srt key d a b:=fun i j _ _ h1 h2 h3=>by omega
structure Turned (d d':List α) (a m b:Nat):Prop where
  mv:Mv d d' a b
  lo:∀i,a≤i→i<a+(b-m)→d'[i]? = d[i+(m-a)]?
  hi:∀i,a+(b-m)≤i→i<b→d'[i]? = d[i-(b-m)]?
end Go.Plim

namespace Go.Proofs.YtefpnjjbopdplaaGreatDoor
open Go.Flat Go.Plim
set_option linter.unusedVariables false
set_option linter.unusedSimpArgs false
def Cmp (cmp:(TSlot×(TSlot×Unit))→Option Int) (key:TSlot→Int):Prop:=∀x y,∃c,cmp (x,(y,()))=some c∧(c<0↔key x<key y)
section
variable {cmp:(TSlot×(TSlot×Unit))→Option Int} {key:TSlot→Int} (hc:Cmp cmp key)
include hc
omit hc in
omit hc in
omit hc in
omit hc in
end
abbrev Lab:=List UInt8×List UInt8
def sgn (c:Int):Prop:=(97≤c∧c≤122)∨(65≤c∧c≤90)∨(48≤c∧c≤57)∨c=95
def digitP (c:Int):Prop:=48≤c∧c≤57
def NameOk:List UInt8→Prop
  | []=>False
  | b::r=>(b::r).length≤64∧¬digitP (b.toNat:Int)∧∀x∈b::r,sgn (x.toNat:Int)
def chkL:Option (List UInt8)→List Lab→Prop
  | _,[]=>True
  | p,x::r=>NameOk x.1∧x.2.length≤128∧(∀q,p=some q→Op.bytesLess q x.1=true)∧chkL (some x.1) r
def sumL (l:List Lab):Int:=(l.map fun x=>((x.1.length:Int)+x.2.length)).sum
theorem NameOk.len {s:List UInt8} (h:NameOk s):s.length≤64:=by
  match s with
  | []=>simp
  | b::r=>exact h.1
structure LabOk (l:List Lab):Prop where
  n0:1≤l.length
  n1:l.length≤16
  c:chkL none l
  t:sumL l≤256
noncomputable instance (l:List Lab):Decidable (LabOk l):=Classical.propDecidable _
abbrev Rw:=Int×(Int×List Ev)
structure RawOk (r:Rw) (room:Int):Prop where
  m0:1≤room
  m1:room≤4096
  len:(r.2.2.length:Int)≤room
  l0:0≤r.1
  l1:r.1≤70368744177664
  f:Foll r.2.2
  z:r.1=0→r.2.1=0
  p:r.1≠0→(r.2.2.length:Int)=room∧0≤r.2.1∧∀x,r.2.2.head? = some x→r.2.1<x.1
def RawW (r:Rw):Prop:=∀e∈r.2.2,EvW e
def r0w:Rw:=(0,(0,[]))
end Go.Proofs.YtefpnjjbopdplaaGreatDoor
namespace Go.Proofs.YtefpnjjbopdplaaGreatDoor
open Go.Flat Go.Plim
end Go.Proofs.YtefpnjjbopdplaaGreatDoor
namespace Go.Proofs.YtefpnjjbopdplaaGreatDoor
open Go.Flat Go.Plim
set_option linter.unusedVariables false
set_option linter.unusedSimpArgs false
def Place (key:TSlot→Int) (d:List TSlot) (a b k i:Nat) (x:TSlot):Prop :=
  (∀p z,a≤p→p<i→p≠k→d[p]? = some z→key z≤key x)∧(∀p z,i≤p→p<b→p≠k→d[p]? = some z→key x≤key z)
section
variable {cmp:(TSlot×(TSlot×Unit))→Option Int} {key:TSlot→Int} (hc:Cmp cmp key)
include hc
end
section
variable {cmp:(TSlot×(TSlot×Unit))→Option Int} {key:TSlot→Int} (hc:Cmp cmp key)
include hc
end
end Go.Proofs.YtefpnjjbopdplaaGreatDoor

namespace Go.Plim
set_option linter.unusedVariables false
abbrev Slo:=Int×Cel
instance decSlo:DecidableEq Slo := @instDecidableEqProd _ _ _ decCel
def s0:Slo:=(0,z0)
structure FitsP (c:Cel) (w i:Int):Prop where
  n:CellN c
  w0:1≤w
  w1:w≤1099511627776
  f:c.2.1.1 / w=i
  l:c.2.2.1.1 / w=i
theorem FitsP.i0 {c:Cel} {w i:Int} (h:FitsP c w i):0≤i∧i<35184372088832:=by
  obtain ⟨n,w0,w1,f,l⟩:=h
  have h1:=n.f.t0
  have h2:=n.f.t1
  have:0≤c.2.1.1 / w:=Int.ediv_nonneg h1 (by omega)
  have:c.2.1.1 / w≤c.2.1.1:=Int.ediv_le_self _ h1
  omega
structure TierOk (l:List Slo) (w:Int):Prop where
  l0:1≤l.length
  l1:l.length≤4096
  w0:1≤w
  w1:w≤1099511627776
  s:∀(j:Nat) s,l[j]? = some s→s=s0∨(s.1 % (l.length:Int)=j∧FitsP s.2 w s.1)
def some13 (l:List Slo):List Slo:=l.filter fun s=>decide (s≠s0)
theorem TierOk.apart {l:List Slo} {w:Int} (h:TierOk l w):(some13 l).Pairwise fun a b=>a.1≠b.1:=by
  have key:∀(m:List Slo) (k:Nat),(∀(j:Nat) s,m[j]? = some s→s=s0∨s.1 % (l.length:Int)=((k+j:Nat):Int))→(some13 m).Pairwise fun a b=>a.1≠b.1:=by
    intro m
    induction m with
    | nil=>intro k _;exact .nil
    | cons x m ih =>
      intro k hm
      have ih':=ih (k+1) (fun j s hs=>by
        have:=hm (j+1) s hs
        rwa [show k+(j+1)=k+1+j by omega] at this)
      unfold some13 at *
      by_cases hx:x=s0
      · rw[List.filter_cons_of_neg (by simp[hx])];exact ih'
      · rw[List.filter_cons_of_pos (by simp[hx])]
        refine List.pairwise_cons.2 ⟨fun y hy => ?_,ih'⟩
        have hy':=List.mem_filter.1 hy
        obtain ⟨j,hj⟩:=List.getElem?_of_mem hy'.1
        have h1:=(hm 0 x rfl).resolve_left hx
        have h2:=(hm (j+1) y hj).resolve_left (by simpa using hy'.2)
        intro e
        rw[e,h2] at h1
        omega
  exact key l 0 (fun j s hs=>by
    rcases h.s j s hs with e | e
    · exact .inl e
    · exact .inr (by rw[e.1,Nat.zero_add]))
def tall (l:List Slo):List Slo:=(some13 l).mergeSort fun a b=>decide (a.1≤b.1)
def within (l:List Slo) (i k:Int):List Cel:=((tall l).filter fun s=>decide (i≤s.1∧s.1<k)).map (·.2)
def tfold (l:List Slo) (i k:Int):Cel×Int:=if i<0∨k<i then (z0,1) else allE z0 (within l i k)
end Go.Plim

namespace Go.Proofs.YtefpnjjbopdplaaGreatDoor
open Go.Flat Go.Plim
set_option linter.unusedVariables false
set_option linter.unusedSimpArgs false
structure SloW (s:Slo):Prop where
  i:I64 s.1
  c:CelW s.2
def OfP (t w:Int):Prop:=0≤t∧t<35184372088832∧1≤w∧w≤1099511627776
instance (t w:Int):Decidable (OfP t w):=by unfold OfP;infer_instance
section
variable {del:TSlot×Unit→Option Bool} {p:Slo→Bool} (hd:∀x,del (x,())=some (p x))
include hd
end
theorem slow_s0:SloW s0:=⟨by simp[I64,s0],celW_z0⟩
theorem tierOk_w {l:List Slo} {w:Int} (h:TierOk l w):∀s∈l,SloW s:=by
  intro s hs
  obtain ⟨j,hj⟩:=List.getElem?_of_mem hs
  rcases h.s j s hj with rfl | ⟨_,hf⟩
  · exact slow_s0
  · have:=hf.i0
    exact ⟨by unfold I64;omega,.ofN hf.n⟩
end Go.Proofs.YtefpnjjbopdplaaGreatDoor

namespace Go.Plim
set_option linter.unusedVariables false
def rng (w:Int) (l:List Ev) (i k:Int):List Ev:=l.filter fun e=>decide (i≤e.1 / w∧e.1 / w<k)
def win (w:Int) (l:List Ev) (i:Int):List Ev:=l.filter fun e=>decide (e.1 / w=i)
structure TierInv (t:List Slo) (w:Int) (l:List Ev):Prop where
  ok:TierOk t w
  cells:∀s∈tall t,s.2=cellOf (win w l s.1)
  kept:∀i,(∃e∈l,e.1 / w=i)→(∀e∈l,e.1 / w<i+(t.length:Int))→(i,cellOf (win w l i))∈tall t
end Go.Plim

namespace Go.Proofs.YtefpnjjbopdplaaGreatDoor
open Go.Flat
abbrev Conf:=Int×((Int×(Int×Int))×((Int×(Int×Int))×(Int×Int)))
def prt (n e:Int):Int:=(n+e-1) / e
def plc (c:Conf):Int:=1+prt c.1 16+prt c.2.2.1.1 4+prt c.2.2.1.2.1 4+prt c.2.2.1.2.2 4
structure Rng (c:Conf):Prop where
  raw:1≤c.1∧c.1≤4096
  cap:1≤c.2.2.2.1∧c.2.2.2.1≤65536
  log:1≤c.2.2.2.2∧c.2.2.2.2≤8192
  w0:1≤c.2.1.1∧c.2.1.1≤1099511627776
  w1:1≤c.2.1.2.1∧c.2.1.2.1≤1099511627776
  w2:1≤c.2.1.2.2∧c.2.1.2.2≤1099511627776
  n0:1≤c.2.2.1.1∧c.2.2.1.1≤4096
  n1:1≤c.2.2.1.2.1∧c.2.2.1.2.1≤4096
  n2:1≤c.2.2.1.2.2∧c.2.2.1.2.2≤4096
structure OkC (c:Conf):Prop where
  rng:Rng c
  m1:c.2.1.2.1 % c.2.1.1=0
  d1:c.2.1.2.1 / c.2.1.1≤c.2.2.1.1
  m2:c.2.1.2.2 % c.2.1.2.1=0
  d2:c.2.1.2.2 / c.2.1.2.1≤c.2.2.1.2.1
  pl:plc c<c.2.2.2.2
end Go.Proofs.YtefpnjjbopdplaaGreatDoor
namespace Go.Proofs.YtefpnjjbopdplaaGreatDoor
open Go.Flat Go.Plim
set_option linter.unusedVariables false
abbrev Trs:=List Slo×(List Slo×List Slo)
noncomputable instance (c:Conf):Decidable (OkC c):=Classical.propDecidable _
structure FoldOk (c:Conf) (s:Trs):Prop where
  cok:OkC c
  n0:(s.1.length:Int)=c.2.2.1.1
  n1:(s.2.1.length:Int)=c.2.2.1.2.1
  n2:(s.2.2.length:Int)=c.2.2.1.2.2
  t0:TierOk s.1 c.2.1.1
  t1:TierOk s.2.1 c.2.1.2.1
  t2:TierOk s.2.2 c.2.1.2.2
def mk1 (c:Conf) (s:Trs) (i:Int):Cel×Int:=tfold s.1 (i*(c.2.1.2.1 / c.2.1.1)) ((i+1)*(c.2.1.2.1 / c.2.1.1))
theorem mul_div_le {a w m:Int} (hw:1≤w) (h:a≤m / w):a*w≤m :=
  Int.le_trans (Int.mul_le_mul_of_nonneg_right h (by omega)) (Int.ediv_mul_le m (by omega))
def Begins (w i:Int):Prop:=0≤i∧i≤35184372088831 / w
theorem Begins.mul {w i:Int} (hw:1≤w) (h:Begins w i):0≤i*w∧i*w≤35184372088831:=⟨Int.mul_nonneg h.1 (by omega),mul_div_le hw h.2⟩
end Go.Proofs.YtefpnjjbopdplaaGreatDoor
namespace Go.Proofs.YtefpnjjbopdplaaGreatDoor
open Go.Flat Go.Plim
set_option linter.unusedVariables false
set_option linter.unusedSimpArgs false
structure TrsW (s:Trs):Prop where
  a:∀x∈s.1,SloW x
  b:∀x∈s.2.1,SloW x
  c:∀x∈s.2.2,SloW x
theorem FoldOk.w {c:Conf} {s:Trs} (h:FoldOk c s):TrsW s:=⟨tierOk_w h.t0,tierOk_w h.t1,tierOk_w h.t2⟩
noncomputable def emp (c:Conf):Trs:=if OkC c then (List.replicate c.2.2.1.1.toNat s0,(List.replicate c.2.2.1.2.1.toNat s0,List.replicate c.2.2.1.2.2.toNat s0)) else ([],([],[]))
abbrev Ser:=List Lab×(Int×(Rw×(Trs×Slo)))
structure SerW (s:Ser):Prop where
  last:I64 s.2.1
  raw:RawW s.2.2.1
  trs:TrsW s.2.2.2.1
  opn:SloW s.2.2.2.2
def NoBehind (l:List Slo) (i:Int):Prop:=∀s∈l,0<s.2.1→s.1<i
structure Fresh (s:Ser):Prop where
  raw:s.2.2.1.2.2=[]
  opn:s.2.2.2.2=s0
  b0:NoBehind s.2.2.2.1.1 0
  b1:NoBehind s.2.2.2.1.2.1 0
  b2:NoBehind s.2.2.2.1.2.2 0
structure EndsP (c:Conf) (s:Ser):Prop where
  last:∃e,s.2.2.1.2.2.getLast? = some e∧e.1=s.2.1
  ol:s.2.2.2.2.2.2.2.1.1=s.2.1
  fit:FitsP s.2.2.2.2.2 c.2.1.1 s.2.2.2.2.1
  b0:NoBehind s.2.2.2.1.1 (s.2.1 / c.2.1.1)
  b1:NoBehind s.2.2.2.1.2.1 (s.2.1 / c.2.1.2.1)
  b2:NoBehind s.2.2.2.1.2.2 (s.2.1 / c.2.1.2.2)
structure SerOk (c:Conf) (s:Ser):Prop where
  fold:FoldOk c s.2.2.2.1
  lab:LabOk s.1
  raw:RawOk s.2.2.1 c.1
  st:(s.2.1 = -1∧Fresh s)∨(s.2.1 ≠ -1∧EndsP c s)
noncomputable instance (c s):Decidable (SerOk c s):=Classical.propDecidable _
theorem nn {α:Type} {a b:α} (h:a=b):¬(a≠b):=fun k=>k h
def ser0:Ser:=([],(0,(r0w,(([],([],[])),s0))))
end Go.Proofs.YtefpnjjbopdplaaGreatDoor

namespace Go.Plim
set_option linter.unusedVariables false
def below (w:Int) (l:List Ev) (t:Int):List Ev:=l.filter fun e=>decide (e.1 / w<t / w)
structure EndsAt (l:List Ev) (t:Int):Prop where
  foll:Foll l
  le:∀e∈l,e.1≤t
  last:∃e∈l,e.1=t
end Go.Plim
namespace Go.Proofs.YtefpnjjbopdplaaGreatDoor
open Go.Flat Go.Plim
structure FInv (c:Conf) (s:Trs) (l:List Ev) (t:Int):Prop where
  ok:FoldOk c s
  i0:TierInv s.1 c.2.1.1 (below c.2.1.1 l t)
  i1:TierInv s.2.1 c.2.1.2.1 (below c.2.1.2.1 l t)
  i2:TierInv s.2.2 c.2.1.2.2 (below c.2.1.2.2 l t)
end Go.Proofs.YtefpnjjbopdplaaGreatDoor
namespace Go.Proofs.YtefpnjjbopdplaaGreatDoor
open Go.Flat Go.Plim
set_option linter.unusedVariables false
set_option linter.unusedSimpArgs false
noncomputable def now1 (c:Conf) (s:Ser):Cel×Int:=mrgE (tfold s.2.2.2.1.1 (s.2.1 / c.2.1.2.1*(c.2.1.2.1 / c.2.1.1)) (s.2.1 / c.2.1.1)).1 s.2.2.2.2.2
noncomputable def now2 (c:Conf) (s:Ser):Cel×Int :=
  if (now1 c s).2≠0 then (z0,(now1 c s).2) else mrgE (tfold s.2.2.2.1.2.1 (s.2.1 / c.2.1.2.2*(c.2.1.2.2 / c.2.1.2.1)) (s.2.1 / c.2.1.2.1)).1 (now1 c s).1
structure At (c:Conf) (s:Ser):Prop where
  l0:0≤s.2.1
  l1:s.2.1<35184372088832
noncomputable def rangeV (ok:Prop) [Decidable ok] (i j last w:Int) (t:List Slo) (now:Cel×Int):Cel×Int :=
  if ok then (if i<0 then (z0,1) else if j<i then (z0,1) else if last = -1 then (z0,0) else if last / w<i then tfold t i j else if j≤last / w then tfold t i j else if now.2≠0 then (z0,now.2) else mrgE (tfold t i j).1 now.1) else (z0,2)
structure SerL (s:Ser):Prop where
  l:s.1.length≤1000000
  r:s.2.2.1.2.2.length≤1000000
  a:s.2.2.2.1.1.length≤1000000
  b:s.2.2.2.1.2.1.length≤1000000
  d:s.2.2.2.1.2.2.length≤1000000
structure SerM (s:Ser):Prop where
  l:s.1.length≤9223372036854775807
  r:s.2.2.1.2.2.length≤9223372036854775807
  a:s.2.2.2.1.1.length≤9223372036854775807
  b:s.2.2.2.1.2.1.length≤9223372036854775807
  d:s.2.2.2.1.2.2.length≤9223372036854775807
def oldV (now w m:Int):Int×Int:=if OfP now w∧1≤m∧m≤4096 then (if 0<now / w+1-m then now / w+1-m else 0,0) else (0,1)
noncomputable def goneV (t now w m:Int):Bool:=decide (OfP t w∧(oldV now w m).2=0∧t / w<(oldV now w m).1)
noncomputable def deadV (c:Conf) (last now:Int):Bool :=
  decide (OkC c)&&(goneV last now c.2.1.1 c.2.2.1.1&&(goneV last now c.2.1.2.1 c.2.2.1.2.1&&goneV last now c.2.1.2.2 c.2.2.1.2.2))
abbrev Sta:=Conf×(Int×(Int×List Ser))
structure StaW (s:Sta):Prop where
  len:s.2.2.2.length≤9223372036854775807
  ser:∀x∈s.2.2.2,SerW x∧SerM x
def Whole (s:Sta):Prop:=OkC s.1∧(s.2.2.2.length:Int)=s.1.2.2.2.1
def LvX (s:Sta) (x:Ser):Prop:=x≠ser0∧(s.2.2.1 = -1∨deadV s.1 x.2.1 s.2.2.1=false)
noncomputable instance (s x):Decidable (LvX s x):=Classical.propDecidable _
def TimeP (t:Int):Prop:=0≤t∧t<35184372088832
def Clock (s:Sta):Prop:=TimeP s.2.1∧(s.2.2.1 = -1∨TimeP s.2.2.1)∧s.2.2.1≤s.2.1
def mk (s:Sta):Int:=s.2.1 / s.1.2.1.1*s.1.2.1.1
def Twin (s:Sta) (i:Nat) (x:Ser):Prop:=LvX s x∧∃k,k<i∧∃y,s.2.2.2[k]? = some y∧LvX s y∧y.1=x.1
def RightX (s:Sta) (i:Nat) (x:Ser):Prop:=x=ser0∨(SerOk s.1 x∧0≤x.2.1∧x.2.1<mk s+s.1.2.1.1∧¬Twin s i x)
structure StaOk (s:Sta):Prop where
  whole:Whole s
  clock:Clock s
  right:∀(i:Nat) x,s.2.2.2[i]? = some x→RightX s i x
noncomputable instance (s):Decidable (StaOk s):=Classical.propDecidable _
theorem Whole.len {s:Sta} (h:Whole s):s.2.2.2.length≤65536:=by
  have:=h.1.rng.cap;have:=h.2;omega
theorem at_el {α:Type} {l:List α} {i:Nat} {x:α} (h:l[i]? = some x):at? l (i:Int)=some x:=by
  unfold at?
  rw[decide_eq_true (show (0:Int)≤(i:Int) by omega),Int.toNat_natCast]
  exact h
theorem StaW.at {s:Sta} (h:StaW s) {i:Nat} {x:Ser} (hx:s.2.2.2[i]? = some x):SerW x∧SerM x:=h.ser x (List.mem_of_getElem? hx)
end Go.Proofs.YtefpnjjbopdplaaGreatDoor
namespace Go.Proofs.YtefpnjjbopdplaaGreatDoor
open Go.Flat Go.Plim
set_option linter.unusedVariables false
def OpenInv (c:Conf) (s:Trs) (o:Slo) (l:List Ev):Prop :=
  (l=[]∧o=s0∧∀t,FInv c s [] t)∨∃t,EndsAt l t∧FInv c s l t∧o=(t / c.2.1.1,cellOf (win c.2.1.1 l (t / c.2.1.1)))
theorem OpenInv.fold {c:Conf} {s:Trs} {o:Slo} {l:List Ev} (h:OpenInv c s o l):FoldOk c s:=by
  rcases h with ⟨_,_,h⟩ | ⟨t,_,h,_⟩
  · exact (h 0).ok
  · exact h.ok
end Go.Proofs.YtefpnjjbopdplaaGreatDoor
namespace Go.Proofs.YtefpnjjbopdplaaGreatDoor
open Go.Flat Go.Plim
set_option linter.unusedVariables false
set_option linter.unusedSimpArgs false
def rawOf (room:Int) (l:List Ev):Rw :=
  (if (l.length:Int)≤room then 0 else (l.length:Int)-room,(if (l.length:Int)≤room then 0 else ((l[l.length-room.toNat-1]?).getD e0).1,l.drop (l.length-room.toNat)))
structure SerInv (c:Conf) (s:Ser) (l:List Ev):Prop where
  lab:LabOk s.1
  len:l.length≤1000000
  raw:s.2.2.1=rawOf c.1 l
  opn:OpenInv c s.2.2.2.1 s.2.2.2.2 l
  last:(l=[]∧s.2.1 = -1)∨EndsAt l s.2.1
theorem SerInv.foll {c:Conf} {s:Ser} {l:List Ev} (h:SerInv c s l):Foll l:=by
  rcases h.last with ⟨rfl,_⟩ | h
  · exact Foll.nil
  · exact h.foll
theorem ends_getLast {l:List Ev} {t:Int} (h:EndsAt l t):∃e,l.getLast? = some e∧e.1=t:=by
  obtain ⟨x,hx,hxt⟩:=h.last
  rcases List.eq_nil_or_concat l with rfl | ⟨p,y,rfl⟩
  · cases hx
  rw[List.concat_eq_append] at *
  have h1:=h.le y (by simp)
  refine ⟨y,by simp,?_⟩
  rcases List.mem_append.1 hx with q | q
  · have:=(foll_append.1 h.foll).2.2 x q y (by simp);omega
  · simp at q;rw[←q];exact hxt
theorem ends_uniq {l:List Ev} {t u:Int} (h:EndsAt l t) (k:EndsAt l u):t=u:=by
  obtain ⟨e,h1,h2⟩:=ends_getLast h
  obtain ⟨e',k1,k2⟩:=ends_getLast k
  rw[h1] at k1;simp at k1;rw[←h2,←k2,k1]
theorem SerInv.at_ {c:Conf} {s:Ser} {l:List Ev} (h:SerInv c s l) (hl:l≠[]):EndsAt l s.2.1∧FInv c s.2.2.2.1 l s.2.1∧s.2.2.2.2=(s.2.1 / c.2.1.1,cellOf (win c.2.1.1 l (s.2.1 / c.2.1.1))):=by
  have he:=h.last.resolve_left fun k=>hl k.1
  rcases h.opn with k | ⟨t,k1,k2,k3⟩
  · exact absurd k.1 hl
  · have:=ends_uniq he k1
    subst this
    exact ⟨he,k2,k3⟩
noncomputable def findV (s:Sta) (l:List Lab):Option Nat:=s.2.2.2.findIdx? fun x=>decide (x.1=l∧LvX s x)
noncomputable def roomV (s:Sta):Option Nat:=s.2.2.2.findIdx? fun x=>decide (¬LvX s x)
theorem findV_some {s:Sta} {l:List Lab} {i:Nat}:findV s l=some i↔∃x,s.2.2.2[i]? = some x∧x.1=l∧LvX s x∧∀j,j<i→∀y,s.2.2.2[j]? = some y→¬(y.1=l∧LvX s y):=by
  unfold findV
  rw[List.findIdx?_eq_some_iff_getElem]
  constructor
  · rintro ⟨h,h1,h2⟩
    have h1:=of_decide_eq_true h1
    refine ⟨_,List.getElem?_eq_getElem h,h1.1,h1.2,fun j hj y hy => ?_⟩
    obtain ⟨hjl,e⟩:=List.getElem?_eq_some_iff.1 hy
    have:=h2 j hj
    rw[e] at this
    simpa using this
  · rintro ⟨x,hx,h1,h2,h3⟩
    obtain ⟨hl,e⟩:=List.getElem?_eq_some_iff.1 hx
    refine ⟨hl,by rw[e];exact decide_eq_true ⟨h1,h2⟩,fun j hj => ?_⟩
    have:=h3 j hj _ (List.getElem?_eq_getElem (by omega))
    simpa using this
end Go.Proofs.YtefpnjjbopdplaaGreatDoor
namespace Go.Proofs.YtefpnjjbopdplaaGreatDoor
open Go.Flat
def rd (st:List UInt8×Bool) (k:Nat):Int×(List UInt8×Bool):=if st.2=true∨st.1.length<k then (0,([],true)) else (valI (bytesI (st.1.take k)),(st.1.drop k,false))
def q0 (s:List UInt8):=rd (s,false) 4
def q1 (s:List UInt8):=rd (q0 s).2 8
def q2 (s:List UInt8):=rd (q1 s).2 8
def q3 (s:List UInt8):=rd (q2 s).2 8
def q4 (s:List UInt8):=rd (q3 s).2 4
def q5 (s:List UInt8):=rd (q4 s).2 4
def q6 (s:List UInt8):=rd (q5 s).2 4
def q7 (s:List UInt8):=rd (q6 s).2 4
def q8 (s:List UInt8):=rd (q7 s).2 4
def q9 (s:List UInt8):=rd (q8 s).2 8
structure Full (s:List UInt8):Prop where
  z:(q9 s).1=0
  good:(q9 s).2.2=false
  left:(q9 s).2.1=[]
def idxC (c:Conf):Int:=prt c.2.2.2.2 120
def hom (c:Conf):Int:=1+idxC c+c.2.2.2.2
end Go.Proofs.YtefpnjjbopdplaaGreatDoor
namespace Go.Proofs.YtefpnjjbopdplaaGreatDoor
open Go.Flat Go.Plim
set_option linter.unusedVariables false
set_option linter.unusedSimpArgs false
structure Goes (s:Sta) (l:List Lab) (e:Ev):Prop where
  st:StaOk s
  lab:LabOk l
  ev:EvOk e
  lo:mk s≤e.1
  hi:e.1<mk s+s.1.2.1.1
inductive PlaceAt (s:Sta) (l:List Lab) (e:Ev):Nat→Ser→Bool→Prop
  | found {i:Nat} {x:Ser} (hf:findV s l=some i) (hx:s.2.2.2[i]? = some x) (hl:x.1=l) (hlv:LvX s x) (ht:x.2.1<e.1):PlaceAt s l e i x false
  | room {i:Nat} (hf:findV s l=none) (hs:e.2.2.2=false) (hr:roomV s=some i):PlaceAt s l e i (l,(-1,(r0w,(emp s.1,s0)))) true
def tierW (c:Conf) (k:Int):Int:=if k=0 then c.2.1.1 else if k=1 then c.2.1.2.1 else c.2.1.2.2
def tierN (c:Conf) (k:Int):Int:=if k=0 then c.2.2.1.1 else if k=1 then c.2.2.1.2.1 else c.2.2.1.2.2
structure Ends3 (c:Conf) (s:Ser):Prop where
  t0:s.2.1 = -1∨NoBehind s.2.2.2.1.1 (s.2.1 / c.2.1.1)∧CellN s.2.2.2.2.2∧s.2.2.2.2.2.2.1.1 / c.2.1.1=s.2.1 / c.2.1.1
  t1:s.2.1 = -1∨∃m,now1 c s=(m,0)∧NoBehind s.2.2.2.1.2.1 (s.2.1 / c.2.1.2.1)∧CellN m∧m.2.1.1 / c.2.1.2.1=s.2.1 / c.2.1.2.1
  t2:s.2.1 = -1∨∃m,now2 c s=(m,0)∧NoBehind s.2.2.2.1.2.2 (s.2.1 / c.2.1.2.2)∧CellN m∧m.2.1.1 / c.2.1.2.2=s.2.1 / c.2.1.2.2
noncomputable def rangeK (c:Conf) (s:Ser) (k i j:Int):Cel×Int :=
  if k=0 then rangeV (SerOk c s) i j s.2.1 c.2.1.1 s.2.2.2.1.1 (s.2.2.2.2.2,0)
  else if k=1 then rangeV (SerOk c s) i j s.2.1 c.2.1.2.1 s.2.2.2.1.2.1 (now1 c s)
  else rangeV (SerOk c s) i j s.2.1 c.2.1.2.2 s.2.2.2.1.2.2 (now2 c s)
theorem live_ok {s:Sta} (h:StaOk s) {x:Ser} (hx:x∈s.2.2.2) (hl:LvX s x):SerOk s.1 x∧0≤x.2.1:=by
  obtain ⟨i,hi,e⟩:=List.getElem_of_mem hx
  rcases h.right i x (by rw[List.getElem?_eq_getElem hi,e]) with k | k
  · exact absurd k hl.1
  · exact ⟨k.1,k.2.1⟩
end Go.Proofs.YtefpnjjbopdplaaGreatDoor

namespace Go.Plim
set_option linter.unusedVariables false
def tz:Nat→Nat→Nat
  | 0,_=>0
  | k+1,x=>if x % 2=1 then 0 else tz k (x / 2)+1
def bl:Nat→Nat→Nat
  | 0,_=>0
  | k+1,x=>if x=0 then 0 else bl k (x / 2)+1
end Go.Plim

namespace Go.Plim
set_option linter.unusedVariables false
def ofN (x:Nat):Wd:=(((x / 18446744073709551616:Nat):Int),((x % 18446744073709551616:Nat):Int))
end Go.Plim

namespace Go.Plim
set_option linter.unusedVariables false
end Go.Plim

namespace Go.Proofs.YtefpnjjbopdplaaGreatDoor
open Go.Flat Go.Plim
set_option linter.unusedVariables false
set_option linter.unusedSimpArgs false
end Go.Proofs.YtefpnjjbopdplaaGreatDoor
namespace Go.Proofs.YtefpnjjbopdplaaGreatDoor
open Go.Flat Go.Plim
set_option linter.unusedVariables false
end Go.Proofs.YtefpnjjbopdplaaGreatDoor
namespace Go.Proofs.YtefpnjjbopdplaaGreatDoor
open Go.Flat Go.Plim
set_option linter.unusedVariables false
set_option linter.unusedSimpArgs false
def redV (x y:Nat):(Wd×Wd)×Int:=if y=0 then (((0,0),(0,0)),1) else ((ofN (x / Nat.gcd x y),ofN (y / Nat.gcd x y)),0)
def rateV (a:Wd) (ms:Int):(Wd×Wd)×Int :=
  if ms=0 then (((0,0),(0,0)),12) else if wv a*1000<340282366920938463463374607431768211456 then redV (wv a*1000).toNat ms.toNat else (((0,0),(0,0)),1)
section
variable {del:Ev×Unit→Option Bool} {p:Ev→Bool} {L:List Ev} (hd:∀x∈L,del (x,())=some (p x))
include hd
end
def WidP (w:Int):Prop:=1≤w∧w≤1099511627776
instance (w:Int):Decidable (WidP w):=by unfold WidP;infer_instance
def RngP (a b:Int):Prop:=0≤a∧b≤35184372088832∧a<b
instance (a b:Int):Decidable (RngP a b):=by unfold RngP;infer_instance
def spanV (a b w:Int):Int×(Int×Int):=if WidP w∧RngP a b then (if a % w=0∧b % w=0 then (a / w,(b / w,0)) else (0,(0,10))) else (0,(0,1))
noncomputable def oneV (s:Sta) (k a b:Int):Int :=
  if (spanV a b (tierW s.1 k)).2.2=0 then (if (spanV a b (tierW s.1 k)).1<(oldV s.2.1 (tierW s.1 k) (tierN s.1 k)).1 then 11 else 0) else (spanV a b (tierW s.1 k)).2.2
noncomputable def whichV (s:Sta) (a b:Int):Nat→Int→Int→Int×Int
  | 0,_,why=>(0,why)
  | d+1,t,why=>if oneV s (t-1) a b=0 then (t,0) else if oneV s (t-1) a b=1 then (0,1) else whichV s a b d (t+1) (if oneV s (t-1) a b=11 then 11 else why)
noncomputable def tierV (s:Sta) (t a b:Int):Int×Int :=
  if StaOk s then (if t<0∨3<t then (0,1) else if t=0 then whichV s a b 3 1 10 else if oneV s (t-1) a b=0 then (t,0) else (0,oneV s (t-1) a b)) else (0,2)
def rateC (c:Cel):(Wd×Wd)×Int:=if c.2.2.2.2.2.2<1 then (((0,0),(0,0)),12) else rateV c.2.2.2.1 c.2.2.2.2.2.2
noncomputable def cellQ (s:Sta) (l:List Lab) (k a b:Int):Cel :=
  match findV s l with
  | some i=>(rangeK s.1 ((s.2.2.2[i]?).getD ser0) k (a / tierW s.1 k) (b / tierW s.1 k)).1
  | none=>z0
theorem found {s:Sta} (hs:StaOk s) {l:List Lab} {i:Nat} (h:findV s l=some i):∃x,s.2.2.2[i]? = some x∧x.1=l∧LvX s x∧SerOk s.1 x:=by
  obtain ⟨x,hx,h1,h2,_⟩:=findV_some.1 h
  exact ⟨x,hx,h1,h2,(live_ok hs (List.mem_of_getElem? hx) h2).1⟩
abbrev zr:Int×(Cel×((Wd×Wd)×Int)):=(0,(z0,(((0,0),(0,0)),0)))
noncomputable def doQ (s:Sta) (l:List Lab) (t a b:Int):(Int×(Cel×((Wd×Wd)×Int)))×Int :=
  if StaOk s then (if LabOk l then (if (tierV s t a b).2=0 then (((tierV s t a b).1,(cellQ s l ((tierV s t a b).1-1) a b,rateC (cellQ s l ((tierV s t a b).1-1) a b))),0) else (zr,(tierV s t a b).2)) else (zr,8)) else (zr,2)
structure Seg (c:Cel) (w lo hi:Int):Prop where
  ok:CellOk c
  w0:1≤w
  at':c=z0∨lo≤c.2.1.1 / w∧c.2.2.1.1 / w<hi
theorem Seg.mono {c:Cel} {w a b a' b':Int} (h:Seg c w a b) (h1:a'≤a) (h2:b≤b'):Seg c w a' b' :=
  ⟨h.ok,h.w0,h.at'.imp id fun k=>⟨by omega,by omega⟩⟩
theorem set_pre {α:Type} {pre:List α} {m:Nat} {z v:α} {i:Int} (hi:i=pre.length):(pre++List.replicate (m+1) z).set i.toNat v=(pre++[v])++List.replicate m z:=by
  subst hi
  rw[List.replicate_succ]
  simp
theorem get_pre {α:Type} {pre:List α} {m:Nat} {z:α} {i:Int} (hi:i=pre.length):(pre++List.replicate (m+1) z)[i.toNat]? = some z:=by
  subst hi;simp
theorem at_pre {α:Type} {pre:List α} {m:Nat} {z:α} {i:Int} (hi:i=pre.length):at? (pre++List.replicate (m+1) z) i=some z:=by
  subst hi;simp[at?]
theorem len_test (L:Nat) (k:Nat) (hL:L*k≤140737488355328):((decide ((0:Int)≤(L:Int)))&&((decide ((L:Int)≤(L:Int)))&&(decide (((L:Int)*(k:Int))≤(140737488355328:Int)))))=true:=by
  have h1:(0:Int)≤(L:Int):=by omega
  have h2:((L:Int)*(k:Int))≤140737488355328:=by rw[←Int.natCast_mul];omega
  rw[decide_eq_true h1,decide_eq_true (Int.le_refl _),decide_eq_true h2];rfl
def PeakAt (l:List Wd) (i:Nat):Prop:=∃x,l[i]? = some x∧(∀y∈l,wv y≤wv x)∧∀j y,j<i→l[j]? = some y→wv y<wv x
theorem peak_uniq {l:List Wd} {i j:Nat} (h:PeakAt l i) (k:PeakAt l j):i=j:=by
  obtain ⟨x,hx,h1,h2⟩:=h
  obtain ⟨y,hy,k1,k2⟩:=k
  rcases Nat.lt_trichotomy i j with q | q | q
  · have:=k2 i x q hx;have:=h1 y (List.mem_of_getElem? hy);omega
  · exact q
  · have:=h2 j y q hy;have:=k1 x (List.mem_of_getElem? hx);omega
theorem peak_one (x:Wd):PeakAt [x] 0:=⟨x,rfl,fun y hy=>by simp at hy;subst hy;omega,fun j y hj=>by omega⟩
theorem peak_snoc {pre:List Wd} {i:Nat} {x y:Wd} (h:PeakAt pre i) (hy:pre[i]? = some y) :
    (wv y<wv x→PeakAt (pre++[x]) pre.length)∧(¬wv y<wv x→PeakAt (pre++[x]) i):=by
  obtain ⟨z,hz,h1,h2⟩:=h
  have:=Option.some.inj (hz.symm.trans hy)
  subst this
  have hi:i<pre.length:=(List.getElem?_eq_some_iff.1 hz).1
  constructor
  · intro hlt
    refine ⟨x,by simp,fun w hw => ?_,fun j w hj hw => ?_⟩
    · rcases List.mem_append.1 hw with hw | hw
      · have:=h1 w hw;omega
      · simp at hw;subst hw;omega
    · rw[List.getElem?_append_left hj] at hw
      have:=h1 w (List.mem_of_getElem? hw);omega
  · intro hge
    refine ⟨z,by rw[List.getElem?_append_left hi];exact hz,fun w hw => ?_,fun j w hj hw => ?_⟩
    · rcases List.mem_append.1 hw with hw | hw
      · exact h1 w hw
      · simp at hw;subst hw;omega
    · rw[List.getElem?_append_left (by omega)] at hw
      exact h2 j w hj hw
theorem heat_peak_l (n:Nat) (l:List Wd) (hL:l.length≤1000000) (hok:∀x∈l,WdOk x):∀(rest pre:List Wd) (f:Nat) (m:Nat) (i len:Int),l=pre++rest→i=pre.length→len=l.length→rest.length<f→(pre=[]∧m=0∨PeakAt pre m) →
    ∃m':Nat,heat_Peak_l3 (n+1) f (l,(m:Int),l,len,i,())=some (.inl (l,(m':Int),()))∧(l=[]∧m'=0∨PeakAt l m'):=by
  intro rest
  induction rest with
  | nil =>
    intro pre f m i len hl hi hn hf hp
    obtain ⟨f,rfl⟩:∃g,f=g+1:=⟨f-1,by simp at hf;omega⟩
    rw[heat_Peak_l3_eq,decide_eq_false (idxe hl hi hn),tff]
    rw[List.append_nil] at hl
    subst hl
    exact ⟨m,rfl,hp⟩
  | cons x rest ih =>
    intro pre f m i len hl hi hn hf hp
    obtain ⟨f,rfl⟩:∃g,f=g+1:=⟨f-1,by simp at hf;omega⟩
    have hx:WdOk x:=hok x (by rw[hl];simp)
    rw[heat_Peak_l3_eq,decide_eq_true (idx hl hi hn),tft,at_mid hl hi,obs,idxw hl hi (by omega)]
    have next:=fun m' hp'=>ih (pre++[x]) f m' (i+1) len (idxl hl) (idxs hi) hn (by simp at hf;omega) hp'
    rcases hp with ⟨rfl,rfl⟩ | hp
    · have h0:at? l ((0:Nat):Int)=some x:=by rw[hl];rfl
      rw[h0,obs,wide_less n hx hx,obs,decide_eq_false (by omega),tff]
      exact next 0 (.inr (peak_one x))
    · have hp0:=hp
      obtain ⟨y,hy,_,_⟩:=hp0
      have hml:m<pre.length:=(List.getElem?_eq_some_iff.1 hy).1
      have hy':l[m]? = some y:=by rw[hl,List.getElem?_append_left hml];exact hy
      have hyo:WdOk y:=hok y (List.mem_of_getElem? hy')
      have h0:at? l (m:Int)=some y:=by unfold at?;rw[decide_eq_true (by omega)];exact hy'
      obtain ⟨p1,p2⟩:=peak_snoc (x:=x) hp hy
      rw[h0,obs,wide_less n hyo hx,obs,tfd]
      by_cases c:wv y<wv x
      · rw[if_pos c,hi]
        have:=next pre.length (.inr (p1 c))
        rw[hi] at this
        exact this
      · rw[if_neg c];exact next m (.inr (p2 c))
theorem heat_peak_ex (n:Nat) (l:List Wd) (hL:l.length≤1000000) (hok:∀x∈l,WdOk x):l=[]∧heat_Peak (n+2) l=some (0,false)∨∃m:Nat,PeakAt l m∧heat_Peak (n+2) l=some ((m:Int),true):=by
  rw[heat_Peak_eq]
  obtain ⟨m,e,h⟩:=heat_peak_l n l hL hok l [] loopFuel 0 0 _ rfl rfl rfl (by unfold loopFuel;omega) (.inl ⟨rfl,rfl⟩)
  have e':heat_Peak_l3 (n+1) loopFuel (l,(0:Int),l,(l.length:Int),(0:Int),())=some (.inl (l,(m:Int),())):=e
  rw[e',obs,selim_inl]
  rcases h with ⟨rfl,rfl⟩ | h
  · exact .inl ⟨rfl,rfl⟩
  · right
    refine ⟨m,h,?_⟩
    obtain ⟨y,hy,_⟩:=h
    have:=(List.getElem?_eq_some_iff.1 hy).1
    simp only
    rw[decide_eq_true (by omega)]
theorem heat_peak_nil (n:Nat):heat_Peak (n+2) []=some (0,false):=by
  rcases heat_peak_ex n [] (by simp) (by simp) with ⟨_,h⟩ | ⟨m,⟨y,hy,_⟩,_⟩
  · exact h
  · simp at hy
theorem peak_ex (l:List Wd) (hL:l.length≤1000000) (hok:∀x∈l,WdOk x) (hn:l≠[]):∃m,PeakAt l m:=by
  rcases heat_peak_ex 0 l hL hok with ⟨h,_⟩ | ⟨m,h,_⟩
  · exact (hn h).elim
  · exact ⟨m,h⟩
theorem heat_peak (n:Nat) {l:List Wd} {m:Nat} (hL:l.length≤1000000) (hok:∀x∈l,WdOk x) (h:PeakAt l m):heat_Peak (n+2) l=some ((m:Int),true):=by
  rcases heat_peak_ex n l hL hok with ⟨rfl,_⟩ | ⟨k,hk,e⟩
  · obtain ⟨y,hy,_⟩:=h;simp at hy
  · rw[e,peak_uniq hk h]
def lvl (t a:Int):Int:=if t=0 then 0 else a*9 / t
theorem lvl_range {t a:Int} (h0:0≤a) (h1:a≤t):0≤lvl t a∧lvl t a≤9:=by
  unfold lvl
  by_cases h:t=0
  · rw[if_pos h];omega
  · rw[if_neg h]
    have ht:0<t:=by omega
    refine ⟨Int.ediv_nonneg (by omega) (by omega),?_⟩
    have:a*9 / t<10:=Int.ediv_lt_of_lt_mul ht (by omega)
    omega
def levT (top:Wd) (l:List Wd):List Int×Int:=if wv top*9<340282366920938463463374607431768211456 then (l.map fun x=>lvl (wv top) (wv x),0) else ([],1)
def tkf (t:Int) (k j:Nat):Wd:=if j<k then mkW (t*(j:Int)) else (0,0)
def tk (t:Int) (k:Nat):Wd×Wd×Wd×Wd×Wd×Wd×Wd×Wd×Wd×Wd :=
  (tkf t k 0,tkf t k 1,tkf t k 2,tkf t k 3,tkf t k 4,tkf t k 5,tkf t k 6,tkf t k 7,tkf t k 8,tkf t k 9)
def stk:Nat→(Wd×Wd×Wd×Wd×Wd×Wd×Wd×Wd×Wd×Wd)→Wd→(Wd×Wd×Wd×Wd×Wd×Wd×Wd×Wd×Wd×Wd)
  | 0,t,v=>(v,t.2)
  | 1,t,v=>(t.1,(v,t.2.2))
  | 2,t,v=>(t.1,(t.2.1,(v,t.2.2.2)))
  | 3,t,v=>(t.1,(t.2.1,(t.2.2.1,(v,t.2.2.2.2))))
  | 4,t,v=>(t.1,(t.2.1,(t.2.2.1,(t.2.2.2.1,(v,t.2.2.2.2.2)))))
  | 5,t,v=>(t.1,(t.2.1,(t.2.2.1,(t.2.2.2.1,(t.2.2.2.2.1,(v,t.2.2.2.2.2.2))))))
  | 6,t,v=>(t.1,(t.2.1,(t.2.2.1,(t.2.2.2.1,(t.2.2.2.2.1,(t.2.2.2.2.2.1,(v,t.2.2.2.2.2.2.2)))))))
  | 7,t,v=>(t.1,(t.2.1,(t.2.2.1,(t.2.2.2.1,(t.2.2.2.2.1,(t.2.2.2.2.2.1,(t.2.2.2.2.2.2.1,(v,t.2.2.2.2.2.2.2.2))))))))
  | 8,t,v=>(t.1,(t.2.1,(t.2.2.1,(t.2.2.2.1,(t.2.2.2.2.1,(t.2.2.2.2.2.1,(t.2.2.2.2.2.2.1,(t.2.2.2.2.2.2.2.1,(v,t.2.2.2.2.2.2.2.2.2)))))))))
  | _,t,v=>(t.1,(t.2.1,(t.2.2.1,(t.2.2.2.1,(t.2.2.2.2.1,(t.2.2.2.2.2.1,(t.2.2.2.2.2.2.1,(t.2.2.2.2.2.2.2.1,(t.2.2.2.2.2.2.2.2.1,v)))))))))
theorem stk_tk (t:Int) {k:Nat} (hk:k<10):stk k (tk t k) (mkW (t*(k:Int)))=tk t (k+1):=by
  rcases (by omega:k=0∨k=1∨k=2∨k=3∨k=4∨k=5∨k=6∨k=7∨k=8∨k=9) with e | e | e | e | e | e | e | e | e | e<;>subst e<;>simp[stk,tk,tkf]
theorem lev_step (n f:Nat) {l:List Wd} {m:Nat} {top:Wd} (hm:at? l (m:Int)=some top) (hok:WdOk top) (k:Nat) (hk:k<10):heat_Levels_l6 (n+2) (f+1) (l,(m:Int),tk (wv top) k,(k:Int),()) =
    if wv top*(k:Int)<340282366920938463463374607431768211456 then heat_Levels_l6 (n+2) f (l,(m:Int),tk (wv top) (k+1),((k+1:Nat):Int),()) else some (.inr ([],1)):=by
  rw[heat_Levels_l6_eq,decide_eq_true (by omega),tft,hm,obs,wu64 (by omega) (by omega),wide_times n hok (k:Int) (by omega),obs]
  unfold timesW
  by_cases h:wv top*(k:Int)<340282366920938463463374607431768211456
  · rw[if_pos h,if_pos h]
    refine Eq.trans (b:=heat_Levels_l6 (n+2) f (l,(m:Int),stk k (tk (wv top) k) (mkW (wv top*(k:Int))),IntKind.wrap .i64 ((k:Int)+1),())) ?_ (by rw[stk_tk _ hk,w64 (by omega) (by omega)];rfl)
    simp only[decide_true,Bool.not_true,tff]
    rcases (by omega:k=0∨k=1∨k=2∨k=3∨k=4∨k=5∨k=6∨k=7∨k=8∨k=9) with e | e | e | e | e | e | e | e | e | e<;>subst e
    · rw[decide_eq_true (show (((0:Nat):Int)=(0:Int)) from rfl),tft];rfl
    · rw[decide_eq_false (show ¬(((1:Nat):Int)=(0:Int)) by decide),tff,decide_eq_true (show (((1:Nat):Int)=(1:Int)) from rfl),tft];rfl
    · rw[decide_eq_false (show ¬(((2:Nat):Int)=(0:Int)) by decide),tff,decide_eq_false (show ¬(((2:Nat):Int)=(1:Int)) by decide),tff,decide_eq_true (show (((2:Nat):Int)=(2:Int)) from rfl),tft];rfl
    · rw[decide_eq_false (show ¬(((3:Nat):Int)=(0:Int)) by decide),tff,decide_eq_false (show ¬(((3:Nat):Int)=(1:Int)) by decide),tff,decide_eq_false (show ¬(((3:Nat):Int)=(2:Int)) by decide),tff,decide_eq_true (show (((3:Nat):Int)=(3:Int)) from rfl),tft];rfl
    · rw[decide_eq_false (show ¬(((4:Nat):Int)=(0:Int)) by decide),tff,decide_eq_false (show ¬(((4:Nat):Int)=(1:Int)) by decide),tff,decide_eq_false (show ¬(((4:Nat):Int)=(2:Int)) by decide),tff,decide_eq_false (show ¬(((4:Nat):Int)=(3:Int)) by decide),tff,decide_eq_true (show (((4:Nat):Int)=(4:Int)) from rfl),tft];rfl
    · rw[decide_eq_false (show ¬(((5:Nat):Int)=(0:Int)) by decide),tff,decide_eq_false (show ¬(((5:Nat):Int)=(1:Int)) by decide),tff,decide_eq_false (show ¬(((5:Nat):Int)=(2:Int)) by decide),tff,decide_eq_false (show ¬(((5:Nat):Int)=(3:Int)) by decide),tff,decide_eq_false (show ¬(((5:Nat):Int)=(4:Int)) by decide),tff,decide_eq_true (show (((5:Nat):Int)=(5:Int)) from rfl),tft];rfl
    · rw[decide_eq_false (show ¬(((6:Nat):Int)=(0:Int)) by decide),tff,decide_eq_false (show ¬(((6:Nat):Int)=(1:Int)) by decide),tff,decide_eq_false (show ¬(((6:Nat):Int)=(2:Int)) by decide),tff,decide_eq_false (show ¬(((6:Nat):Int)=(3:Int)) by decide),tff,decide_eq_false (show ¬(((6:Nat):Int)=(4:Int)) by decide),tff,decide_eq_false (show ¬(((6:Nat):Int)=(5:Int)) by decide),tff,decide_eq_true (show (((6:Nat):Int)=(6:Int)) from rfl),tft];rfl
    · rw[decide_eq_false (show ¬(((7:Nat):Int)=(0:Int)) by decide),tff,decide_eq_false (show ¬(((7:Nat):Int)=(1:Int)) by decide),tff,decide_eq_false (show ¬(((7:Nat):Int)=(2:Int)) by decide),tff,decide_eq_false (show ¬(((7:Nat):Int)=(3:Int)) by decide),tff,decide_eq_false (show ¬(((7:Nat):Int)=(4:Int)) by decide),tff,decide_eq_false (show ¬(((7:Nat):Int)=(5:Int)) by decide),tff,decide_eq_false (show ¬(((7:Nat):Int)=(6:Int)) by decide),tff,decide_eq_true (show (((7:Nat):Int)=(7:Int)) from rfl),tft];rfl
    · rw[decide_eq_false (show ¬(((8:Nat):Int)=(0:Int)) by decide),tff,decide_eq_false (show ¬(((8:Nat):Int)=(1:Int)) by decide),tff,decide_eq_false (show ¬(((8:Nat):Int)=(2:Int)) by decide),tff,decide_eq_false (show ¬(((8:Nat):Int)=(3:Int)) by decide),tff,decide_eq_false (show ¬(((8:Nat):Int)=(4:Int)) by decide),tff,decide_eq_false (show ¬(((8:Nat):Int)=(5:Int)) by decide),tff,decide_eq_false (show ¬(((8:Nat):Int)=(6:Int)) by decide),tff,decide_eq_false (show ¬(((8:Nat):Int)=(7:Int)) by decide),tff,decide_eq_true (show (((8:Nat):Int)=(8:Int)) from rfl),tft];rfl
    · rw[decide_eq_false (show ¬(((9:Nat):Int)=(0:Int)) by decide),tff,decide_eq_false (show ¬(((9:Nat):Int)=(1:Int)) by decide),tff,decide_eq_false (show ¬(((9:Nat):Int)=(2:Int)) by decide),tff,decide_eq_false (show ¬(((9:Nat):Int)=(3:Int)) by decide),tff,decide_eq_false (show ¬(((9:Nat):Int)=(4:Int)) by decide),tff,decide_eq_false (show ¬(((9:Nat):Int)=(5:Int)) by decide),tff,decide_eq_false (show ¬(((9:Nat):Int)=(6:Int)) by decide),tff,decide_eq_false (show ¬(((9:Nat):Int)=(7:Int)) by decide),tff,decide_eq_false (show ¬(((9:Nat):Int)=(8:Int)) by decide),tff,decide_eq_true (show (((9:Nat):Int)=(9:Int)) from rfl),tft];rfl
  · rw[if_neg h,if_neg h]
    rcases (by omega:k=0∨k=1∨k=2∨k=3∨k=4∨k=5∨k=6∨k=7∨k=8∨k=9) with e | e | e | e | e | e | e | e | e | e<;>subst e<;>rfl
theorem lev_l6 (n:Nat) {l:List Wd} {m:Nat} {top:Wd} (hm:at? l (m:Int)=some top) (hok:WdOk top):∀(d k f:Nat),k+d=9→d+1<f →
    heat_Levels_l6 (n+2) f (l,(m:Int),tk (wv top) k,(k:Int),())=some (if wv top*9<340282366920938463463374607431768211456 then .inl (l,(m:Int),tk (wv top) 10,()) else .inr ([],1)):=by
  have hr:=wv_range hok
  intro d
  induction d with
  | zero =>
    intro k f hk hf
    obtain ⟨f,rfl⟩:∃g,f=g+1:=⟨f-1,by omega⟩
    obtain rfl:k=9:=by omega
    rw[lev_step n f hm hok 9 (by omega)]
    by_cases h:wv top*9<340282366920938463463374607431768211456
    · obtain ⟨f,rfl⟩:∃g,f=g+1:=⟨f-1,by omega⟩
      rw[if_pos (show wv top*((9:Nat):Int)<_ from h),if_pos h,heat_Levels_l6_eq,decide_eq_false (by omega),tff]
    · rw[if_neg (show ¬wv top*((9:Nat):Int)<_ from h),if_neg h]
  | succ d ih =>
    intro k f hk hf
    obtain ⟨f,rfl⟩:∃g,f=g+1:=⟨f-1,by omega⟩
    rw[lev_step n f hm hok k (by omega)]
    by_cases h:wv top*(k:Int)<340282366920938463463374607431768211456
    · rw[if_pos h,ih (k+1) f (by omega) (by omega)]
    · rw[if_neg h,if_neg]
      have:wv top*(k:Int)≤wv top*9:=Int.mul_le_mul_of_nonneg_left (by omega) hr.1
      omega
theorem tkf10 (t:Int) {j:Nat} (h:j<10):tkf t 10 j=mkW (t*(j:Int)):=if_pos h
theorem level_step (n f:Nat) {t a:Int} (ht:0≤t) (h9:t*9<340282366920938463463374607431768211456) (ha:0≤a∧a<340282366920938463463374607431768211456) (k:Nat) (hk:k<9) :
    heat_level_l3 (n+1) (f+1) (tk t 10,mkW a,(k:Int),())=if a<t*((k+1:Nat):Int) then some (.inl ((k:Int),())) else heat_level_l3 (n+1) f (tk t 10,mkW a,((k+1:Nat):Int),()):=by
  have hl:∀j:Nat,j<10→wide_Less (n+1) (mkW a) (tkf t 10 j)=some (decide (a<t*(j:Int))):=by
    intro j hj
    have h1:t*(j:Int)≤t*9:=Int.mul_le_mul_of_nonneg_left (by omega) ht
    have h2:0≤t*(j:Int):=Int.mul_nonneg ht (by omega)
    rw[tkf10 t hj,wide_less n (mkW_ok ha.1 ha.2) (mkW_ok h2 (by omega)),wv_mkW,wv_mkW]
  have hj:=hl (k+1) (by omega)
  rw[heat_level_l3_eq,decide_eq_true (by omega),tft]
  have key:∀(X Y:Option ((Int×Unit) ⊕ Int)),(obind (wide_Less (n+1) (mkW a) (tkf t 10 (k+1))) fun r=>tif (!r) X Y)=if a<t*((k+1:Nat):Int) then Y else X:=by
    intro X Y
    rw[hj,obs,tfn,tfd]
  rw[←key,show IntKind.wrap .i64 ((k:Int)+1)=((k+1:Nat):Int) from w64 (by omega) (by omega)]
  rcases (by omega:k=0∨k=1∨k=2∨k=3∨k=4∨k=5∨k=6∨k=7∨k=8) with e | e | e | e | e | e | e | e | e<;>subst e
  · rw[decide_eq_false (show ¬(((0+1:Nat):Int)=(0:Int)) by decide),tff,decide_eq_true (show (((0+1:Nat):Int)=(1:Int)) from rfl),tft];rfl
  · rw[decide_eq_false (show ¬(((1+1:Nat):Int)=(0:Int)) by decide),tff,decide_eq_false (show ¬(((1+1:Nat):Int)=(1:Int)) by decide),tff,decide_eq_true (show (((1+1:Nat):Int)=(2:Int)) from rfl),tft];rfl
  · rw[decide_eq_false (show ¬(((2+1:Nat):Int)=(0:Int)) by decide),tff,decide_eq_false (show ¬(((2+1:Nat):Int)=(1:Int)) by decide),tff,decide_eq_false (show ¬(((2+1:Nat):Int)=(2:Int)) by decide),tff,decide_eq_true (show (((2+1:Nat):Int)=(3:Int)) from rfl),tft];rfl
  · rw[decide_eq_false (show ¬(((3+1:Nat):Int)=(0:Int)) by decide),tff,decide_eq_false (show ¬(((3+1:Nat):Int)=(1:Int)) by decide),tff,decide_eq_false (show ¬(((3+1:Nat):Int)=(2:Int)) by decide),tff,decide_eq_false (show ¬(((3+1:Nat):Int)=(3:Int)) by decide),tff,decide_eq_true (show (((3+1:Nat):Int)=(4:Int)) from rfl),tft];rfl
  · rw[decide_eq_false (show ¬(((4+1:Nat):Int)=(0:Int)) by decide),tff,decide_eq_false (show ¬(((4+1:Nat):Int)=(1:Int)) by decide),tff,decide_eq_false (show ¬(((4+1:Nat):Int)=(2:Int)) by decide),tff,decide_eq_false (show ¬(((4+1:Nat):Int)=(3:Int)) by decide),tff,decide_eq_false (show ¬(((4+1:Nat):Int)=(4:Int)) by decide),tff,decide_eq_true (show (((4+1:Nat):Int)=(5:Int)) from rfl),tft];rfl
  · rw[decide_eq_false (show ¬(((5+1:Nat):Int)=(0:Int)) by decide),tff,decide_eq_false (show ¬(((5+1:Nat):Int)=(1:Int)) by decide),tff,decide_eq_false (show ¬(((5+1:Nat):Int)=(2:Int)) by decide),tff,decide_eq_false (show ¬(((5+1:Nat):Int)=(3:Int)) by decide),tff,decide_eq_false (show ¬(((5+1:Nat):Int)=(4:Int)) by decide),tff,decide_eq_false (show ¬(((5+1:Nat):Int)=(5:Int)) by decide),tff,decide_eq_true (show (((5+1:Nat):Int)=(6:Int)) from rfl),tft];rfl
  · rw[decide_eq_false (show ¬(((6+1:Nat):Int)=(0:Int)) by decide),tff,decide_eq_false (show ¬(((6+1:Nat):Int)=(1:Int)) by decide),tff,decide_eq_false (show ¬(((6+1:Nat):Int)=(2:Int)) by decide),tff,decide_eq_false (show ¬(((6+1:Nat):Int)=(3:Int)) by decide),tff,decide_eq_false (show ¬(((6+1:Nat):Int)=(4:Int)) by decide),tff,decide_eq_false (show ¬(((6+1:Nat):Int)=(5:Int)) by decide),tff,decide_eq_false (show ¬(((6+1:Nat):Int)=(6:Int)) by decide),tff,decide_eq_true (show (((6+1:Nat):Int)=(7:Int)) from rfl),tft];rfl
  · rw[decide_eq_false (show ¬(((7+1:Nat):Int)=(0:Int)) by decide),tff,decide_eq_false (show ¬(((7+1:Nat):Int)=(1:Int)) by decide),tff,decide_eq_false (show ¬(((7+1:Nat):Int)=(2:Int)) by decide),tff,decide_eq_false (show ¬(((7+1:Nat):Int)=(3:Int)) by decide),tff,decide_eq_false (show ¬(((7+1:Nat):Int)=(4:Int)) by decide),tff,decide_eq_false (show ¬(((7+1:Nat):Int)=(5:Int)) by decide),tff,decide_eq_false (show ¬(((7+1:Nat):Int)=(6:Int)) by decide),tff,decide_eq_false (show ¬(((7+1:Nat):Int)=(7:Int)) by decide),tff,decide_eq_true (show (((7+1:Nat):Int)=(8:Int)) from rfl),tft];rfl
  · rw[decide_eq_false (show ¬(((8+1:Nat):Int)=(0:Int)) by decide),tff,decide_eq_false (show ¬(((8+1:Nat):Int)=(1:Int)) by decide),tff,decide_eq_false (show ¬(((8+1:Nat):Int)=(2:Int)) by decide),tff,decide_eq_false (show ¬(((8+1:Nat):Int)=(3:Int)) by decide),tff,decide_eq_false (show ¬(((8+1:Nat):Int)=(4:Int)) by decide),tff,decide_eq_false (show ¬(((8+1:Nat):Int)=(5:Int)) by decide),tff,decide_eq_false (show ¬(((8+1:Nat):Int)=(6:Int)) by decide),tff,decide_eq_false (show ¬(((8+1:Nat):Int)=(7:Int)) by decide),tff,decide_eq_false (show ¬(((8+1:Nat):Int)=(8:Int)) by decide),tff,decide_eq_true (show (((8+1:Nat):Int)=(9:Int)) from rfl),tft];rfl
theorem level_l3 (n:Nat) {t a q:Int} (ht:0<t) (h9:t*9<340282366920938463463374607431768211456) (ha:0≤a∧a<340282366920938463463374607431768211456) (hq:q=a / t) (hq9:q≤9):∀(d k f:Nat),(k:Int)+d=q→d<f →
    heat_level_l3 (n+1) f (tk t 10,mkW a,(k:Int),())=some (.inl (q,())):=by
  have hle:∀j:Int,j≤q↔t*j≤a:=fun j=>by rw[hq,Int.le_ediv_iff_mul_le ht,Int.mul_comm]
  intro d
  induction d with
  | zero =>
    intro k f hk hf
    obtain ⟨f,rfl⟩:∃g,f=g+1:=⟨f-1,by omega⟩
    by_cases h:k<9
    · rw[level_step n f (by omega) h9 ha k h,if_pos]
      · congr 3<;>omega
      · have:=hle ((k+1:Nat):Int);omega
    · rw[heat_level_l3_eq,decide_eq_false (by omega),tff]
      congr 3<;>omega
  | succ d ih =>
    intro k f hk hf
    obtain ⟨f,rfl⟩:∃g,f=g+1:=⟨f-1,by omega⟩
    rw[level_step n f (by omega) h9 ha k (by omega),if_neg]
    · exact ih (k+1) f (by omega) (by omega)
    · have:=(hle ((k+1:Nat):Int)).1 (by omega);omega
theorem heat_level_val (n:Nat) {t:Int} {x:Wd} (hx:WdOk x) (ht:0<t) (h9:t*9<340282366920938463463374607431768211456) (hle:wv x≤t):heat_level (n+3) x (tk t 10)=some (lvl t (wv x)):=by
  have hr:=wv_range hx
  have hl:=lvl_range hr.1 hle
  rw[heat_level_eq,wide_times n hx 9 (by omega),obs]
  unfold timesW
  rw[if_pos (by omega)]
  have e:lvl t (wv x)=wv x*9 / t:=by unfold lvl;rw[if_neg (by omega)]
  have:=level_l3 (n+1) ht h9 (a:=wv x*9) (by omega) e hl.2 (lvl t (wv x)).toNat 0 loopFuel (by omega) (by unfold loopFuel;omega)
  have e2:heat_level_l3 (n+2) loopFuel (tk t 10,mkW (wv x*9),(0:Int),())=some (.inl (lvl t (wv x),())):=this
  simp only
  rw[e2,obs,selim_inl]
theorem lev_l17 (n:Nat) {t:Int} (ht:0<t) (h9:t*9<340282366920938463463374607431768211456) (l:List Wd) (hL:l.length≤1000000) (hok:∀x∈l,WdOk x∧wv x≤t):∀(rest pre:List Wd) (out:List Int) (f:Nat) (i len:Int),l=pre++rest→i=pre.length→len=l.length→rest.length<f→out.length=pre.length →
    heat_Levels_l17 (n+3) f (tk t 10,out++List.replicate rest.length (0:Int),l,len,i,())=some (.inl (out++rest.map fun x=>lvl t (wv x),())):=by
  intro rest
  induction rest with
  | nil =>
    intro pre out f i len hl hi hn hf ho
    obtain ⟨f,rfl⟩:∃g,f=g+1:=⟨f-1,by simp at hf;omega⟩
    rw[heat_Levels_l17_eq,decide_eq_false (idxe hl hi hn),tff];simp
  | cons x rest ih =>
    intro pre out f i len hl hi hn hf ho
    obtain ⟨f,rfl⟩:∃g,f=g+1:=⟨f-1,by simp at hf;omega⟩
    have hio:i=out.length:=by omega
    have hx:=hok x (by rw[hl];simp)
    rw[heat_Levels_l17_eq,decide_eq_true (idx hl hi hn),tft,at_mid hl hi,obs,heat_level_val n hx.1 ht h9 hx.2,obs,List.length_cons,at_pre hio,obs,get_pre hio,obs,set_pre hio,idxw hl hi (by omega),ih (pre++[x]) (out++[_]) f (i+1) len (idxl hl) (idxs hi) hn (by simp at hf;omega) (by simp;omega),List.append_assoc]
    rfl
theorem zero_tests {top:Wd} (h:WdOk top):((decide (top.1=(0:Int)))&&(decide (top.2=(0:Int))))=decide (wv top=0):=by
  obtain ⟨h1,h2⟩:=h
  rw[←Bool.decide_and]
  apply decide_eq_decide.2
  unfold wv
  constructor
  · rintro ⟨a,b⟩;rw[a,b];rfl
  · intro e;constructor<;>omega
theorem heat_levels (n:Nat) {l:List Wd} {m:Nat} {top:Wd} (hL:l.length≤1000000) (hok:∀x∈l,WdOk x) (h:PeakAt l m) (hm:l[m]? = some top):heat_Levels (n+5) l=some (levT top l):=by
  have hat:at? l (m:Int)=some top:=by unfold at?;rw[decide_eq_true (by omega)];exact hm
  have hto:WdOk top:=hok top (List.mem_of_getElem? hm)
  have hr:=wv_range hto
  obtain ⟨z,hz,hmax,_⟩:=h
  have:=Option.some.inj (hz.symm.trans hm)
  subst this
  rw[heat_Levels_eq,heat_peak (n+2) hL hok ⟨z,hz,hmax,by assumption⟩,obs,Bool.not_true,tff]
  have e:heat_Levels_l6 (n+4) loopFuel (l,(m:Int),tk (wv z) 0,(0:Int),())=_:=lev_l6 (n+2) hat hto 9 0 loopFuel (by omega) (by unfold loopFuel;omega)
  change obind (heat_Levels_l6 (n+4) loopFuel (l,(m:Int),tk (wv z) 0,(0:Int),())) _=_
  rw[e,obs]
  unfold levT
  by_cases h9:wv z*9<340282366920938463463374607431768211456
  case neg=>rw[if_neg h9,if_neg h9,selim_inr]
  rw[if_pos h9,if_pos h9,selim_inl]
  have t:=len_test l.length 8 (by omega)
  rw[show ((8:Nat):Int)=8 from rfl] at t
  simp only
  rw[t,tft,hat,obs,wide_of,obs]
  simp only
  rw[zero_tests hto,tfd,Int.toNat_natCast]
  by_cases h0:wv z=0
  · rw[if_pos h0]
    have e3:(l.map fun x=>lvl (wv z) (wv x))=List.replicate l.length 0:=by
      refine List.eq_replicate_iff.2 ⟨by simp,fun b hb => ?_⟩
      obtain ⟨x,_,rfl⟩:=List.mem_map.1 hb
      unfold lvl;rw[if_pos h0]
    rw[e3]
  · rw[if_neg h0]
    have:=lev_l17 (n+1) (t:=wv z) (by omega) h9 l hL (fun x hx=>⟨hok x hx,hmax x hx⟩) l [] [] loopFuel 0 _ rfl rfl rfl (by unfold loopFuel;omega) rfl
    rw[List.nil_append,List.nil_append] at this
    rw[this,obs,selim_inl]
theorem heat_levels_nil (n:Nat):heat_Levels (n+5) []=some ([],0):=by
  rw[heat_Levels_eq,heat_peak_nil (n+2)];rfl
end Go.Proofs.YtefpnjjbopdplaaGreatDoor
namespace Go.Proofs.YtefpnjjbopdplaaGreatDoor
open Go.Flat
theorem ob {α β:Type} {o:Option α} {x:α} {f:α→Option β} {r:Option β} (h:o=some x) (k:f x=r):obind o f=r:=by rw[h];exact k
theorem tt {α:Type} {b:Bool} {x y r:α} (h:b=true) (k:x=r):tif b x y=r:=by rw[h];exact k
theorem tf {α:Type} {b:Bool} {x y r:α} (h:b=false) (k:y=r):tif b x y=r:=by rw[h];exact k
theorem atFuel {α σ:Type} {g:Nat→σ→Option α} {c:Nat} {s:σ} {r:Option α} (k:g (loopFuel-c+c) s=r) (h:c≤loopFuel):g loopFuel s=r:=by rw[Nat.sub_add_cancel h] at k;exact k
end Go.Proofs.YtefpnjjbopdplaaGreatDoor
namespace Go.Proofs.YtefpnjjbopdplaaGreatDoor
open Go.Flat
set_option linter.unusedVariables false
theorem lvl38_lives_eq (n:Nat)  : l38_lives (n+1)  =
  obind (l10_Fit n ) fun r0 =>
  obind (stt_New n r0) fun r1 =>
  tif ((!(decide (r1.2=(0:Int))))) (
  some false) (
  obind (write_All n r1.1 ((((97:UInt8)::[]),[])::[]) (((2:Int),((1:Int),((0:Int),false)))::(((4:Int),((5:Int),((0:Int),false)))::[]))) fun r2 =>
  tif ((!(decide (r2.2.1=(2:Int))))) (
  some false) (
  tif ((!(decide (r2.2.2=(0:Int))))) (
  some false) (
  obind (write_All n (r2.1.1,((12:Int),r2.1.2.2)) ((((97:UInt8)::[]),[])::[]) (((13:Int),((7:Int),((0:Int),false)))::[])) fun r3 =>
  tif ((!(decide (r3.2.1=(1:Int))))) (
  some false) (
  tif ((!(decide (r3.2.2=(0:Int))))) (
  some false) (
  obind (heat_Cells n r3.1 (((((97:UInt8)::[]),[])::[]),((1:Int),((0:Int),(30:Int))))) fun r4 =>
  tif ((!(decide (r4.2=(0:Int))))) (
  some false) (
  tif ((!(decide ((((List.length r4.1):Nat):Int)=(3:Int))))) (
  some false) (
  obind (heat_Steps n r4.1) fun r5 =>
  obind (heat_Peak n r5.1) fun r6 =>
  obind (wide_Of n (2:Int)) fun r7 =>
  obind (wide_Of n (9:Int)) fun r8 =>
  obind (wide_Of n (0:Int)) fun r9 =>
  obind (wide_Of n (1:Int)) fun r10 =>
  obind (heat_Levels n (r7::(r8::(r9::(r10::[]))))) fun r11 =>
  obind (heat_Line n r3.1 (((((97:UInt8)::[]),[])::[]),((1:Int),((0:Int),(30:Int))))) fun r12 =>
  obind (heat_Levels n (((9223372036854775808:Int),(0:Int))::[])) fun r13 =>
  obind (heat_Peak n []) fun r14 =>
  obind (at? r4.1 (0:Int)) fun r15 =>
  tif ((decide (r15.1=(2:Int)))) (
  obind (at? r4.1 (1:Int)) fun r16 =>
  tif ((decide (r16.1=(1:Int)))) (
  obind (at? r4.1 (2:Int)) fun r17 =>
  tif (((decide (r17.1=(0:Int)))&&((decide (r17.2.1.1=(0:Int)))&&((decide (r17.2.1.2.1=(0:Int)))&&((decide (r17.2.1.2.2.1=(0:Int)))&&((r17.2.1.2.2.2==false)&&((decide (r17.2.2.1.1=(0:Int)))&&((decide (r17.2.2.1.2.1=(0:Int)))&&((decide (r17.2.2.1.2.2.1=(0:Int)))&&((r17.2.2.1.2.2.2==false)&&((decide (r17.2.2.2.1.1=(0:Int)))&&((decide (r17.2.2.2.1.2=(0:Int)))&&((decide (r17.2.2.2.2.1=(0:Int)))&&((decide (r17.2.2.2.2.2.1=(0:Int)))&&(decide (r17.2.2.2.2.2.2=(0:Int))))))))))))))))) (
  obind (wide_Of n (4:Int)) fun r18 =>
  obind (wide_Of n (2:Int)) fun r19 =>
  obind (r38_SameWides n r5.1 (r18::(r19::(((0:Int),(0:Int))::[])))) fun r20 =>
  tif (r20) (
  tif ((decide (r5.2=(0:Int)))) (
  tif ((decide (r6.1=(0:Int)))) (
  tif (r6.2) (
  obind (r06_Same n r11.1 ((2:Int)::((9:Int)::((0:Int)::((1:Int)::[]))))) fun r21 =>
  tif (r21) (
  tif ((decide (r11.2=(0:Int)))) (
  tif ((r12.1==((57:UInt8)::((52:UInt8)::((48:UInt8)::[]))))) (
  tif ((decide (r12.2=(0:Int)))) (
  tif ((decide (r13.2=(1:Int)))) (
  some (!r14.2)) (
  some false)) (
  some false)) (
  some false)) (
  some false)) (
  some false)) (
  some false)) (
  some false)) (
  some false)) (
  some false)) (
  some false)) (
  some false)) (
  some false)))))))):=by kernel_rfl
abbrev lvl38_lives_S0:TState:=((20,((10,(20,60)),((4,(5,6)),(3,9)))),(12,((-1),[([([97],[])],(13,((0,(0,[(2,(1,(0,false))),(4,(5,(0,false))),(13,(7,(0,false)))])),(([(0,(2,((2,(1,(0,false))),((4,(5,(0,false))),((0,4),(0,(0,2))))))),(0,(0,((0,(0,(0,false))),((0,(0,(0,false))),((0,0),(0,(0,0))))))),(0,(0,((0,(0,(0,false))),((0,(0,(0,false))),((0,0),(0,(0,0))))))),(0,(0,((0,(0,(0,false))),((0,(0,(0,false))),((0,0),(0,(0,0)))))))],([(0,(0,((0,(0,(0,false))),((0,(0,(0,false))),((0,0),(0,(0,0))))))),(0,(0,((0,(0,(0,false))),((0,(0,(0,false))),((0,0),(0,(0,0))))))),(0,(0,((0,(0,(0,false))),((0,(0,(0,false))),((0,0),(0,(0,0))))))),(0,(0,((0,(0,(0,false))),((0,(0,(0,false))),((0,0),(0,(0,0))))))),(0,(0,((0,(0,(0,false))),((0,(0,(0,false))),((0,0),(0,(0,0)))))))],[(0,(0,((0,(0,(0,false))),((0,(0,(0,false))),((0,0),(0,(0,0))))))),(0,(0,((0,(0,(0,false))),((0,(0,(0,false))),((0,0),(0,(0,0))))))),(0,(0,((0,(0,(0,false))),((0,(0,(0,false))),((0,0),(0,(0,0))))))),(0,(0,((0,(0,(0,false))),((0,(0,(0,false))),((0,0),(0,(0,0))))))),(0,(0,((0,(0,(0,false))),((0,(0,(0,false))),((0,0),(0,(0,0))))))),(0,(0,((0,(0,(0,false))),((0,(0,(0,false))),((0,0),(0,(0,0)))))))])),(1,(1,((13,(7,(0,false))),((13,(7,(0,false))),((0,0),(0,(0,0))))))))))),([],(0,((0,(0,[])),(([],([],[])),(0,(0,((0,(0,(0,false))),((0,(0,(0,false))),((0,0),(0,(0,0))))))))))),([],(0,((0,(0,[])),(([],([],[])),(0,(0,((0,(0,(0,false))),((0,(0,(0,false))),((0,0),(0,(0,0)))))))))))])))
theorem lvl38_lives_0 (n:Nat):l10_Fit (n+39)=some (20,((10,(20,60)),((4,(5,6)),(3,9)))):=by kernel_rfl
theorem lvl38_lives_1 (n:Nat):stt_New (n+39) (20,((10,(20,60)),((4,(5,6)),(3,9))))=some (((20,((10,(20,60)),((4,(5,6)),(3,9)))),(0,((-1),[([],(0,((0,(0,[])),(([],([],[])),(0,(0,((0,(0,(0,false))),((0,(0,(0,false))),((0,0),(0,(0,0))))))))))),([],(0,((0,(0,[])),(([],([],[])),(0,(0,((0,(0,(0,false))),((0,(0,(0,false))),((0,0),(0,(0,0))))))))))),([],(0,((0,(0,[])),(([],([],[])),(0,(0,((0,(0,(0,false))),((0,(0,(0,false))),((0,0),(0,(0,0)))))))))))]))),0):=by kernel_rfl
theorem lvl38_lives_2 (n:Nat):write_All (n+39) ((20,((10,(20,60)),((4,(5,6)),(3,9)))),(0,((-1),[([],(0,((0,(0,[])),(([],([],[])),(0,(0,((0,(0,(0,false))),((0,(0,(0,false))),((0,0),(0,(0,0))))))))))),([],(0,((0,(0,[])),(([],([],[])),(0,(0,((0,(0,(0,false))),((0,(0,(0,false))),((0,0),(0,(0,0))))))))))),([],(0,((0,(0,[])),(([],([],[])),(0,(0,((0,(0,(0,false))),((0,(0,(0,false))),((0,0),(0,(0,0)))))))))))]))) [([97],[])] [(2,(1,(0,false))),(4,(5,(0,false)))]=some (((20,((10,(20,60)),((4,(5,6)),(3,9)))),(0,((-1),[([([97],[])],(4,((0,(0,[(2,(1,(0,false))),(4,(5,(0,false)))])),(([(0,(0,((0,(0,(0,false))),((0,(0,(0,false))),((0,0),(0,(0,0))))))),(0,(0,((0,(0,(0,false))),((0,(0,(0,false))),((0,0),(0,(0,0))))))),(0,(0,((0,(0,(0,false))),((0,(0,(0,false))),((0,0),(0,(0,0))))))),(0,(0,((0,(0,(0,false))),((0,(0,(0,false))),((0,0),(0,(0,0)))))))],([(0,(0,((0,(0,(0,false))),((0,(0,(0,false))),((0,0),(0,(0,0))))))),(0,(0,((0,(0,(0,false))),((0,(0,(0,false))),((0,0),(0,(0,0))))))),(0,(0,((0,(0,(0,false))),((0,(0,(0,false))),((0,0),(0,(0,0))))))),(0,(0,((0,(0,(0,false))),((0,(0,(0,false))),((0,0),(0,(0,0))))))),(0,(0,((0,(0,(0,false))),((0,(0,(0,false))),((0,0),(0,(0,0)))))))],[(0,(0,((0,(0,(0,false))),((0,(0,(0,false))),((0,0),(0,(0,0))))))),(0,(0,((0,(0,(0,false))),((0,(0,(0,false))),((0,0),(0,(0,0))))))),(0,(0,((0,(0,(0,false))),((0,(0,(0,false))),((0,0),(0,(0,0))))))),(0,(0,((0,(0,(0,false))),((0,(0,(0,false))),((0,0),(0,(0,0))))))),(0,(0,((0,(0,(0,false))),((0,(0,(0,false))),((0,0),(0,(0,0))))))),(0,(0,((0,(0,(0,false))),((0,(0,(0,false))),((0,0),(0,(0,0)))))))])),(0,(2,((2,(1,(0,false))),((4,(5,(0,false))),((0,4),(0,(0,2))))))))))),([],(0,((0,(0,[])),(([],([],[])),(0,(0,((0,(0,(0,false))),((0,(0,(0,false))),((0,0),(0,(0,0))))))))))),([],(0,((0,(0,[])),(([],([],[])),(0,(0,((0,(0,(0,false))),((0,(0,(0,false))),((0,0),(0,(0,0)))))))))))]))),(2,0)):=by kernel_rfl
theorem lvl38_lives_3 (n:Nat):write_All (n+39) ((20,((10,(20,60)),((4,(5,6)),(3,9)))),(12,((-1),[([([97],[])],(4,((0,(0,[(2,(1,(0,false))),(4,(5,(0,false)))])),(([(0,(0,((0,(0,(0,false))),((0,(0,(0,false))),((0,0),(0,(0,0))))))),(0,(0,((0,(0,(0,false))),((0,(0,(0,false))),((0,0),(0,(0,0))))))),(0,(0,((0,(0,(0,false))),((0,(0,(0,false))),((0,0),(0,(0,0))))))),(0,(0,((0,(0,(0,false))),((0,(0,(0,false))),((0,0),(0,(0,0)))))))],([(0,(0,((0,(0,(0,false))),((0,(0,(0,false))),((0,0),(0,(0,0))))))),(0,(0,((0,(0,(0,false))),((0,(0,(0,false))),((0,0),(0,(0,0))))))),(0,(0,((0,(0,(0,false))),((0,(0,(0,false))),((0,0),(0,(0,0))))))),(0,(0,((0,(0,(0,false))),((0,(0,(0,false))),((0,0),(0,(0,0))))))),(0,(0,((0,(0,(0,false))),((0,(0,(0,false))),((0,0),(0,(0,0)))))))],[(0,(0,((0,(0,(0,false))),((0,(0,(0,false))),((0,0),(0,(0,0))))))),(0,(0,((0,(0,(0,false))),((0,(0,(0,false))),((0,0),(0,(0,0))))))),(0,(0,((0,(0,(0,false))),((0,(0,(0,false))),((0,0),(0,(0,0))))))),(0,(0,((0,(0,(0,false))),((0,(0,(0,false))),((0,0),(0,(0,0))))))),(0,(0,((0,(0,(0,false))),((0,(0,(0,false))),((0,0),(0,(0,0))))))),(0,(0,((0,(0,(0,false))),((0,(0,(0,false))),((0,0),(0,(0,0)))))))])),(0,(2,((2,(1,(0,false))),((4,(5,(0,false))),((0,4),(0,(0,2))))))))))),([],(0,((0,(0,[])),(([],([],[])),(0,(0,((0,(0,(0,false))),((0,(0,(0,false))),((0,0),(0,(0,0))))))))))),([],(0,((0,(0,[])),(([],([],[])),(0,(0,((0,(0,(0,false))),((0,(0,(0,false))),((0,0),(0,(0,0)))))))))))]))) [([97],[])] [(13,(7,(0,false)))]=some (lvl38_lives_S0,(1,0)):=by kernel_rfl
theorem lvl38_lives_4 (n:Nat):query_Do (n+38) lvl38_lives_S0 ([([97],[])],(1,(0,30)))=some ((1,((3,((2,(1,(0,false))),((13,(7,(0,false))),((0,6),(0,(0,11)))))),(((0,6000),(0,11)),0))),0):=by kernel_rfl
theorem lvl38_lives_5 (n:Nat):wi_Span (n+38) (0) (30) (10)=some (0,(3,0)):=by kernel_rfl
theorem lvl38_lives_6 (n:Nat):stt_Find (n+38) lvl38_lives_S0 [([97],[])]=some (0,0):=by kernel_rfl
theorem lvl38_lives_7 (n:Nat):series_Cell (n+38) (20,((10,(20,60)),((4,(5,6)),(3,9)))) ([([97],[])],(13,((0,(0,[(2,(1,(0,false))),(4,(5,(0,false))),(13,(7,(0,false)))])),(([(0,(2,((2,(1,(0,false))),((4,(5,(0,false))),((0,4),(0,(0,2))))))),(0,(0,((0,(0,(0,false))),((0,(0,(0,false))),((0,0),(0,(0,0))))))),(0,(0,((0,(0,(0,false))),((0,(0,(0,false))),((0,0),(0,(0,0))))))),(0,(0,((0,(0,(0,false))),((0,(0,(0,false))),((0,0),(0,(0,0)))))))],([(0,(0,((0,(0,(0,false))),((0,(0,(0,false))),((0,0),(0,(0,0))))))),(0,(0,((0,(0,(0,false))),((0,(0,(0,false))),((0,0),(0,(0,0))))))),(0,(0,((0,(0,(0,false))),((0,(0,(0,false))),((0,0),(0,(0,0))))))),(0,(0,((0,(0,(0,false))),((0,(0,(0,false))),((0,0),(0,(0,0))))))),(0,(0,((0,(0,(0,false))),((0,(0,(0,false))),((0,0),(0,(0,0)))))))],[(0,(0,((0,(0,(0,false))),((0,(0,(0,false))),((0,0),(0,(0,0))))))),(0,(0,((0,(0,(0,false))),((0,(0,(0,false))),((0,0),(0,(0,0))))))),(0,(0,((0,(0,(0,false))),((0,(0,(0,false))),((0,0),(0,(0,0))))))),(0,(0,((0,(0,(0,false))),((0,(0,(0,false))),((0,0),(0,(0,0))))))),(0,(0,((0,(0,(0,false))),((0,(0,(0,false))),((0,0),(0,(0,0))))))),(0,(0,((0,(0,(0,false))),((0,(0,(0,false))),((0,0),(0,(0,0)))))))])),(1,(1,((13,(7,(0,false))),((13,(7,(0,false))),((0,0),(0,(0,0))))))))))) (0) (0)=some ((2,((2,(1,(0,false))),((4,(5,(0,false))),((0,4),(0,(0,2)))))),0):=by kernel_rfl
theorem lvl38_lives_8 (n:Nat):series_Cell (n+38) (20,((10,(20,60)),((4,(5,6)),(3,9)))) ([([97],[])],(13,((0,(0,[(2,(1,(0,false))),(4,(5,(0,false))),(13,(7,(0,false)))])),(([(0,(2,((2,(1,(0,false))),((4,(5,(0,false))),((0,4),(0,(0,2))))))),(0,(0,((0,(0,(0,false))),((0,(0,(0,false))),((0,0),(0,(0,0))))))),(0,(0,((0,(0,(0,false))),((0,(0,(0,false))),((0,0),(0,(0,0))))))),(0,(0,((0,(0,(0,false))),((0,(0,(0,false))),((0,0),(0,(0,0)))))))],([(0,(0,((0,(0,(0,false))),((0,(0,(0,false))),((0,0),(0,(0,0))))))),(0,(0,((0,(0,(0,false))),((0,(0,(0,false))),((0,0),(0,(0,0))))))),(0,(0,((0,(0,(0,false))),((0,(0,(0,false))),((0,0),(0,(0,0))))))),(0,(0,((0,(0,(0,false))),((0,(0,(0,false))),((0,0),(0,(0,0))))))),(0,(0,((0,(0,(0,false))),((0,(0,(0,false))),((0,0),(0,(0,0)))))))],[(0,(0,((0,(0,(0,false))),((0,(0,(0,false))),((0,0),(0,(0,0))))))),(0,(0,((0,(0,(0,false))),((0,(0,(0,false))),((0,0),(0,(0,0))))))),(0,(0,((0,(0,(0,false))),((0,(0,(0,false))),((0,0),(0,(0,0))))))),(0,(0,((0,(0,(0,false))),((0,(0,(0,false))),((0,0),(0,(0,0))))))),(0,(0,((0,(0,(0,false))),((0,(0,(0,false))),((0,0),(0,(0,0))))))),(0,(0,((0,(0,(0,false))),((0,(0,(0,false))),((0,0),(0,(0,0)))))))])),(1,(1,((13,(7,(0,false))),((13,(7,(0,false))),((0,0),(0,(0,0))))))))))) (0) (1)=some ((1,((13,(7,(0,false))),((13,(7,(0,false))),((0,0),(0,(0,0)))))),0):=by kernel_rfl
theorem lvl38_lives_9 (n:Nat):series_Cell (n+38) (20,((10,(20,60)),((4,(5,6)),(3,9)))) ([([97],[])],(13,((0,(0,[(2,(1,(0,false))),(4,(5,(0,false))),(13,(7,(0,false)))])),(([(0,(2,((2,(1,(0,false))),((4,(5,(0,false))),((0,4),(0,(0,2))))))),(0,(0,((0,(0,(0,false))),((0,(0,(0,false))),((0,0),(0,(0,0))))))),(0,(0,((0,(0,(0,false))),((0,(0,(0,false))),((0,0),(0,(0,0))))))),(0,(0,((0,(0,(0,false))),((0,(0,(0,false))),((0,0),(0,(0,0)))))))],([(0,(0,((0,(0,(0,false))),((0,(0,(0,false))),((0,0),(0,(0,0))))))),(0,(0,((0,(0,(0,false))),((0,(0,(0,false))),((0,0),(0,(0,0))))))),(0,(0,((0,(0,(0,false))),((0,(0,(0,false))),((0,0),(0,(0,0))))))),(0,(0,((0,(0,(0,false))),((0,(0,(0,false))),((0,0),(0,(0,0))))))),(0,(0,((0,(0,(0,false))),((0,(0,(0,false))),((0,0),(0,(0,0)))))))],[(0,(0,((0,(0,(0,false))),((0,(0,(0,false))),((0,0),(0,(0,0))))))),(0,(0,((0,(0,(0,false))),((0,(0,(0,false))),((0,0),(0,(0,0))))))),(0,(0,((0,(0,(0,false))),((0,(0,(0,false))),((0,0),(0,(0,0))))))),(0,(0,((0,(0,(0,false))),((0,(0,(0,false))),((0,0),(0,(0,0))))))),(0,(0,((0,(0,(0,false))),((0,(0,(0,false))),((0,0),(0,(0,0))))))),(0,(0,((0,(0,(0,false))),((0,(0,(0,false))),((0,0),(0,(0,0)))))))])),(1,(1,((13,(7,(0,false))),((13,(7,(0,false))),((0,0),(0,(0,0))))))))))) (0) (2)=some ((0,((0,(0,(0,false))),((0,(0,(0,false))),((0,0),(0,(0,0)))))),0):=by kernel_rfl
theorem lvl38_lives_10 (n f:Nat):heat_Cells_l14 (n+38) (f+1) (lvl38_lives_S0,((1,((3,((2,(1,(0,false))),((13,(7,(0,false))),((0,6),(0,(0,11)))))),(((0,6000),(0,11)),0))),(0,([(2,((2,(1,(0,false))),((4,(5,(0,false))),((0,4),(0,(0,2)))))),(1,((13,(7,(0,false))),((13,(7,(0,false))),((0,0),(0,(0,0)))))),(0,((0,(0,(0,false))),((0,(0,(0,false))),((0,0),(0,(0,0))))))],(0,(3,(3,())))))))=some (.inl ([(2,((2,(1,(0,false))),((4,(5,(0,false))),((0,4),(0,(0,2)))))),(1,((13,(7,(0,false))),((13,(7,(0,false))),((0,0),(0,(0,0)))))),(0,((0,(0,(0,false))),((0,(0,(0,false))),((0,0),(0,(0,0))))))],())):=by
  rw[heat_Cells_l14_eq]
  refine tf (by kernel_rfl) ?_
  kernel_rfl
theorem lvl38_lives_11 (n f:Nat):heat_Cells_l14 (n+38) (f+2) (lvl38_lives_S0,((1,((3,((2,(1,(0,false))),((13,(7,(0,false))),((0,6),(0,(0,11)))))),(((0,6000),(0,11)),0))),(0,([(2,((2,(1,(0,false))),((4,(5,(0,false))),((0,4),(0,(0,2)))))),(1,((13,(7,(0,false))),((13,(7,(0,false))),((0,0),(0,(0,0)))))),(0,((0,(0,(0,false))),((0,(0,(0,false))),((0,0),(0,(0,0))))))],(0,(3,(2,())))))))=some (.inl ([(2,((2,(1,(0,false))),((4,(5,(0,false))),((0,4),(0,(0,2)))))),(1,((13,(7,(0,false))),((13,(7,(0,false))),((0,0),(0,(0,0)))))),(0,((0,(0,(0,false))),((0,(0,(0,false))),((0,0),(0,(0,0))))))],())):=by
  rw[heat_Cells_l14_eq]
  refine tt (by kernel_rfl) ?_
  refine ob (x:=([([97],[])],(13,((0,(0,[(2,(1,(0,false))),(4,(5,(0,false))),(13,(7,(0,false)))])),(([(0,(2,((2,(1,(0,false))),((4,(5,(0,false))),((0,4),(0,(0,2))))))),(0,(0,((0,(0,(0,false))),((0,(0,(0,false))),((0,0),(0,(0,0))))))),(0,(0,((0,(0,(0,false))),((0,(0,(0,false))),((0,0),(0,(0,0))))))),(0,(0,((0,(0,(0,false))),((0,(0,(0,false))),((0,0),(0,(0,0)))))))],([(0,(0,((0,(0,(0,false))),((0,(0,(0,false))),((0,0),(0,(0,0))))))),(0,(0,((0,(0,(0,false))),((0,(0,(0,false))),((0,0),(0,(0,0))))))),(0,(0,((0,(0,(0,false))),((0,(0,(0,false))),((0,0),(0,(0,0))))))),(0,(0,((0,(0,(0,false))),((0,(0,(0,false))),((0,0),(0,(0,0))))))),(0,(0,((0,(0,(0,false))),((0,(0,(0,false))),((0,0),(0,(0,0)))))))],[(0,(0,((0,(0,(0,false))),((0,(0,(0,false))),((0,0),(0,(0,0))))))),(0,(0,((0,(0,(0,false))),((0,(0,(0,false))),((0,0),(0,(0,0))))))),(0,(0,((0,(0,(0,false))),((0,(0,(0,false))),((0,0),(0,(0,0))))))),(0,(0,((0,(0,(0,false))),((0,(0,(0,false))),((0,0),(0,(0,0))))))),(0,(0,((0,(0,(0,false))),((0,(0,(0,false))),((0,0),(0,(0,0))))))),(0,(0,((0,(0,(0,false))),((0,(0,(0,false))),((0,0),(0,(0,0)))))))])),(1,(1,((13,(7,(0,false))),((13,(7,(0,false))),((0,0),(0,(0,0)))))))))))) (by kernel_rfl) ?_
  refine ob (lvl38_lives_9 n) ?_
  refine ob (x:=(0,((0,(0,(0,false))),((0,(0,(0,false))),((0,0),(0,(0,0))))))) (by kernel_rfl) ?_
  refine ob (x:=(0,((0,(0,(0,false))),((0,(0,(0,false))),((0,0),(0,(0,0))))))) (by kernel_rfl) ?_
  refine tf (by kernel_rfl) ?_
  exact lvl38_lives_10 n f
theorem lvl38_lives_12 (n f:Nat):heat_Cells_l14 (n+38) (f+3) (lvl38_lives_S0,((1,((3,((2,(1,(0,false))),((13,(7,(0,false))),((0,6),(0,(0,11)))))),(((0,6000),(0,11)),0))),(0,([(2,((2,(1,(0,false))),((4,(5,(0,false))),((0,4),(0,(0,2)))))),(0,((0,(0,(0,false))),((0,(0,(0,false))),((0,0),(0,(0,0)))))),(0,((0,(0,(0,false))),((0,(0,(0,false))),((0,0),(0,(0,0))))))],(0,(3,(1,())))))))=some (.inl ([(2,((2,(1,(0,false))),((4,(5,(0,false))),((0,4),(0,(0,2)))))),(1,((13,(7,(0,false))),((13,(7,(0,false))),((0,0),(0,(0,0)))))),(0,((0,(0,(0,false))),((0,(0,(0,false))),((0,0),(0,(0,0))))))],())):=by
  rw[heat_Cells_l14_eq]
  refine tt (by kernel_rfl) ?_
  refine ob (x:=([([97],[])],(13,((0,(0,[(2,(1,(0,false))),(4,(5,(0,false))),(13,(7,(0,false)))])),(([(0,(2,((2,(1,(0,false))),((4,(5,(0,false))),((0,4),(0,(0,2))))))),(0,(0,((0,(0,(0,false))),((0,(0,(0,false))),((0,0),(0,(0,0))))))),(0,(0,((0,(0,(0,false))),((0,(0,(0,false))),((0,0),(0,(0,0))))))),(0,(0,((0,(0,(0,false))),((0,(0,(0,false))),((0,0),(0,(0,0)))))))],([(0,(0,((0,(0,(0,false))),((0,(0,(0,false))),((0,0),(0,(0,0))))))),(0,(0,((0,(0,(0,false))),((0,(0,(0,false))),((0,0),(0,(0,0))))))),(0,(0,((0,(0,(0,false))),((0,(0,(0,false))),((0,0),(0,(0,0))))))),(0,(0,((0,(0,(0,false))),((0,(0,(0,false))),((0,0),(0,(0,0))))))),(0,(0,((0,(0,(0,false))),((0,(0,(0,false))),((0,0),(0,(0,0)))))))],[(0,(0,((0,(0,(0,false))),((0,(0,(0,false))),((0,0),(0,(0,0))))))),(0,(0,((0,(0,(0,false))),((0,(0,(0,false))),((0,0),(0,(0,0))))))),(0,(0,((0,(0,(0,false))),((0,(0,(0,false))),((0,0),(0,(0,0))))))),(0,(0,((0,(0,(0,false))),((0,(0,(0,false))),((0,0),(0,(0,0))))))),(0,(0,((0,(0,(0,false))),((0,(0,(0,false))),((0,0),(0,(0,0))))))),(0,(0,((0,(0,(0,false))),((0,(0,(0,false))),((0,0),(0,(0,0)))))))])),(1,(1,((13,(7,(0,false))),((13,(7,(0,false))),((0,0),(0,(0,0)))))))))))) (by kernel_rfl) ?_
  refine ob (lvl38_lives_8 n) ?_
  refine ob (x:=(0,((0,(0,(0,false))),((0,(0,(0,false))),((0,0),(0,(0,0))))))) (by kernel_rfl) ?_
  refine ob (x:=(0,((0,(0,(0,false))),((0,(0,(0,false))),((0,0),(0,(0,0))))))) (by kernel_rfl) ?_
  refine tf (by kernel_rfl) ?_
  exact lvl38_lives_11 n f
theorem lvl38_lives_13 (n f:Nat):heat_Cells_l14 (n+38) (f+4) (lvl38_lives_S0,((1,((3,((2,(1,(0,false))),((13,(7,(0,false))),((0,6),(0,(0,11)))))),(((0,6000),(0,11)),0))),(0,([(0,((0,(0,(0,false))),((0,(0,(0,false))),((0,0),(0,(0,0)))))),(0,((0,(0,(0,false))),((0,(0,(0,false))),((0,0),(0,(0,0)))))),(0,((0,(0,(0,false))),((0,(0,(0,false))),((0,0),(0,(0,0))))))],(0,(3,(0,())))))))=some (.inl ([(2,((2,(1,(0,false))),((4,(5,(0,false))),((0,4),(0,(0,2)))))),(1,((13,(7,(0,false))),((13,(7,(0,false))),((0,0),(0,(0,0)))))),(0,((0,(0,(0,false))),((0,(0,(0,false))),((0,0),(0,(0,0))))))],())):=by
  rw[heat_Cells_l14_eq]
  refine tt (by kernel_rfl) ?_
  refine ob (x:=([([97],[])],(13,((0,(0,[(2,(1,(0,false))),(4,(5,(0,false))),(13,(7,(0,false)))])),(([(0,(2,((2,(1,(0,false))),((4,(5,(0,false))),((0,4),(0,(0,2))))))),(0,(0,((0,(0,(0,false))),((0,(0,(0,false))),((0,0),(0,(0,0))))))),(0,(0,((0,(0,(0,false))),((0,(0,(0,false))),((0,0),(0,(0,0))))))),(0,(0,((0,(0,(0,false))),((0,(0,(0,false))),((0,0),(0,(0,0)))))))],([(0,(0,((0,(0,(0,false))),((0,(0,(0,false))),((0,0),(0,(0,0))))))),(0,(0,((0,(0,(0,false))),((0,(0,(0,false))),((0,0),(0,(0,0))))))),(0,(0,((0,(0,(0,false))),((0,(0,(0,false))),((0,0),(0,(0,0))))))),(0,(0,((0,(0,(0,false))),((0,(0,(0,false))),((0,0),(0,(0,0))))))),(0,(0,((0,(0,(0,false))),((0,(0,(0,false))),((0,0),(0,(0,0)))))))],[(0,(0,((0,(0,(0,false))),((0,(0,(0,false))),((0,0),(0,(0,0))))))),(0,(0,((0,(0,(0,false))),((0,(0,(0,false))),((0,0),(0,(0,0))))))),(0,(0,((0,(0,(0,false))),((0,(0,(0,false))),((0,0),(0,(0,0))))))),(0,(0,((0,(0,(0,false))),((0,(0,(0,false))),((0,0),(0,(0,0))))))),(0,(0,((0,(0,(0,false))),((0,(0,(0,false))),((0,0),(0,(0,0))))))),(0,(0,((0,(0,(0,false))),((0,(0,(0,false))),((0,0),(0,(0,0)))))))])),(1,(1,((13,(7,(0,false))),((13,(7,(0,false))),((0,0),(0,(0,0)))))))))))) (by kernel_rfl) ?_
  refine ob (lvl38_lives_7 n) ?_
  refine ob (x:=(0,((0,(0,(0,false))),((0,(0,(0,false))),((0,0),(0,(0,0))))))) (by kernel_rfl) ?_
  refine ob (x:=(0,((0,(0,(0,false))),((0,(0,(0,false))),((0,0),(0,(0,0))))))) (by kernel_rfl) ?_
  refine tf (by kernel_rfl) ?_
  exact lvl38_lives_12 n f
theorem lvl38_lives_14 (n:Nat):heat_Cells (n+39) lvl38_lives_S0 ([([97],[])],(1,(0,30)))=some ([(2,((2,(1,(0,false))),((4,(5,(0,false))),((0,4),(0,(0,2)))))),(1,((13,(7,(0,false))),((13,(7,(0,false))),((0,0),(0,(0,0)))))),(0,((0,(0,(0,false))),((0,(0,(0,false))),((0,0),(0,(0,0))))))],0):=by
  rw[heat_Cells_eq]
  refine ob (lvl38_lives_4 n) ?_
  refine tf (by kernel_rfl) ?_
  refine tt (by kernel_rfl) ?_
  refine ob (lvl38_lives_5 n) ?_
  refine tf (by kernel_rfl) ?_
  refine tf (by kernel_rfl) ?_
  refine tt (by kernel_rfl) ?_
  refine ob (lvl38_lives_6 n) ?_
  refine tf (by kernel_rfl) ?_
  refine ob (atFuel (h:=by unfold loopFuel;omega) (lvl38_lives_13 n (loopFuel-4))) ?_
  refine Eq.trans (selim_inl ..) ?_
  kernel_rfl
theorem lvl38_lives_15 (n:Nat):heat_Steps (n+39) [(2,((2,(1,(0,false))),((4,(5,(0,false))),((0,4),(0,(0,2)))))),(1,((13,(7,(0,false))),((13,(7,(0,false))),((0,0),(0,(0,0)))))),(0,((0,(0,(0,false))),((0,(0,(0,false))),((0,0),(0,(0,0))))))]=some ([(0,4),(0,2),(0,0)],0):=by kernel_rfl
theorem lvl38_lives_16 (n:Nat):heat_Peak (n+39) [(0,4),(0,2),(0,0)]=some (0,true):=by kernel_rfl
theorem lvl38_lives_17 (n:Nat):wide_Of (n+39) (2)=some (0,2):=by kernel_rfl
theorem lvl38_lives_18 (n:Nat):wide_Of (n+39) (9)=some (0,9):=by kernel_rfl
theorem lvl38_lives_19 (n:Nat):wide_Of (n+39) (0)=some (0,0):=by kernel_rfl
theorem lvl38_lives_20 (n:Nat):wide_Of (n+39) (1)=some (0,1):=by kernel_rfl
theorem lvl38_lives_21 (n:Nat):heat_Levels (n+39) [(0,2),(0,9),(0,0),(0,1)]=some ([2,9,0,1],0):=by kernel_rfl
theorem lvl38_lives_22 (n:Nat):query_Do (n+37) lvl38_lives_S0 ([([97],[])],(1,(0,30)))=some ((1,((3,((2,(1,(0,false))),((13,(7,(0,false))),((0,6),(0,(0,11)))))),(((0,6000),(0,11)),0))),0):=by kernel_rfl
theorem lvl38_lives_23 (n:Nat):wi_Span (n+37) (0) (30) (10)=some (0,(3,0)):=by kernel_rfl
theorem lvl38_lives_24 (n:Nat):stt_Find (n+37) lvl38_lives_S0 [([97],[])]=some (0,0):=by kernel_rfl
theorem lvl38_lives_25 (n:Nat):series_Cell (n+37) (20,((10,(20,60)),((4,(5,6)),(3,9)))) ([([97],[])],(13,((0,(0,[(2,(1,(0,false))),(4,(5,(0,false))),(13,(7,(0,false)))])),(([(0,(2,((2,(1,(0,false))),((4,(5,(0,false))),((0,4),(0,(0,2))))))),(0,(0,((0,(0,(0,false))),((0,(0,(0,false))),((0,0),(0,(0,0))))))),(0,(0,((0,(0,(0,false))),((0,(0,(0,false))),((0,0),(0,(0,0))))))),(0,(0,((0,(0,(0,false))),((0,(0,(0,false))),((0,0),(0,(0,0)))))))],([(0,(0,((0,(0,(0,false))),((0,(0,(0,false))),((0,0),(0,(0,0))))))),(0,(0,((0,(0,(0,false))),((0,(0,(0,false))),((0,0),(0,(0,0))))))),(0,(0,((0,(0,(0,false))),((0,(0,(0,false))),((0,0),(0,(0,0))))))),(0,(0,((0,(0,(0,false))),((0,(0,(0,false))),((0,0),(0,(0,0))))))),(0,(0,((0,(0,(0,false))),((0,(0,(0,false))),((0,0),(0,(0,0)))))))],[(0,(0,((0,(0,(0,false))),((0,(0,(0,false))),((0,0),(0,(0,0))))))),(0,(0,((0,(0,(0,false))),((0,(0,(0,false))),((0,0),(0,(0,0))))))),(0,(0,((0,(0,(0,false))),((0,(0,(0,false))),((0,0),(0,(0,0))))))),(0,(0,((0,(0,(0,false))),((0,(0,(0,false))),((0,0),(0,(0,0))))))),(0,(0,((0,(0,(0,false))),((0,(0,(0,false))),((0,0),(0,(0,0))))))),(0,(0,((0,(0,(0,false))),((0,(0,(0,false))),((0,0),(0,(0,0)))))))])),(1,(1,((13,(7,(0,false))),((13,(7,(0,false))),((0,0),(0,(0,0))))))))))) (0) (0)=some ((2,((2,(1,(0,false))),((4,(5,(0,false))),((0,4),(0,(0,2)))))),0):=by kernel_rfl
theorem lvl38_lives_26 (n:Nat):series_Cell (n+37) (20,((10,(20,60)),((4,(5,6)),(3,9)))) ([([97],[])],(13,((0,(0,[(2,(1,(0,false))),(4,(5,(0,false))),(13,(7,(0,false)))])),(([(0,(2,((2,(1,(0,false))),((4,(5,(0,false))),((0,4),(0,(0,2))))))),(0,(0,((0,(0,(0,false))),((0,(0,(0,false))),((0,0),(0,(0,0))))))),(0,(0,((0,(0,(0,false))),((0,(0,(0,false))),((0,0),(0,(0,0))))))),(0,(0,((0,(0,(0,false))),((0,(0,(0,false))),((0,0),(0,(0,0)))))))],([(0,(0,((0,(0,(0,false))),((0,(0,(0,false))),((0,0),(0,(0,0))))))),(0,(0,((0,(0,(0,false))),((0,(0,(0,false))),((0,0),(0,(0,0))))))),(0,(0,((0,(0,(0,false))),((0,(0,(0,false))),((0,0),(0,(0,0))))))),(0,(0,((0,(0,(0,false))),((0,(0,(0,false))),((0,0),(0,(0,0))))))),(0,(0,((0,(0,(0,false))),((0,(0,(0,false))),((0,0),(0,(0,0)))))))],[(0,(0,((0,(0,(0,false))),((0,(0,(0,false))),((0,0),(0,(0,0))))))),(0,(0,((0,(0,(0,false))),((0,(0,(0,false))),((0,0),(0,(0,0))))))),(0,(0,((0,(0,(0,false))),((0,(0,(0,false))),((0,0),(0,(0,0))))))),(0,(0,((0,(0,(0,false))),((0,(0,(0,false))),((0,0),(0,(0,0))))))),(0,(0,((0,(0,(0,false))),((0,(0,(0,false))),((0,0),(0,(0,0))))))),(0,(0,((0,(0,(0,false))),((0,(0,(0,false))),((0,0),(0,(0,0)))))))])),(1,(1,((13,(7,(0,false))),((13,(7,(0,false))),((0,0),(0,(0,0))))))))))) (0) (1)=some ((1,((13,(7,(0,false))),((13,(7,(0,false))),((0,0),(0,(0,0)))))),0):=by kernel_rfl
theorem lvl38_lives_27 (n:Nat):series_Cell (n+37) (20,((10,(20,60)),((4,(5,6)),(3,9)))) ([([97],[])],(13,((0,(0,[(2,(1,(0,false))),(4,(5,(0,false))),(13,(7,(0,false)))])),(([(0,(2,((2,(1,(0,false))),((4,(5,(0,false))),((0,4),(0,(0,2))))))),(0,(0,((0,(0,(0,false))),((0,(0,(0,false))),((0,0),(0,(0,0))))))),(0,(0,((0,(0,(0,false))),((0,(0,(0,false))),((0,0),(0,(0,0))))))),(0,(0,((0,(0,(0,false))),((0,(0,(0,false))),((0,0),(0,(0,0)))))))],([(0,(0,((0,(0,(0,false))),((0,(0,(0,false))),((0,0),(0,(0,0))))))),(0,(0,((0,(0,(0,false))),((0,(0,(0,false))),((0,0),(0,(0,0))))))),(0,(0,((0,(0,(0,false))),((0,(0,(0,false))),((0,0),(0,(0,0))))))),(0,(0,((0,(0,(0,false))),((0,(0,(0,false))),((0,0),(0,(0,0))))))),(0,(0,((0,(0,(0,false))),((0,(0,(0,false))),((0,0),(0,(0,0)))))))],[(0,(0,((0,(0,(0,false))),((0,(0,(0,false))),((0,0),(0,(0,0))))))),(0,(0,((0,(0,(0,false))),((0,(0,(0,false))),((0,0),(0,(0,0))))))),(0,(0,((0,(0,(0,false))),((0,(0,(0,false))),((0,0),(0,(0,0))))))),(0,(0,((0,(0,(0,false))),((0,(0,(0,false))),((0,0),(0,(0,0))))))),(0,(0,((0,(0,(0,false))),((0,(0,(0,false))),((0,0),(0,(0,0))))))),(0,(0,((0,(0,(0,false))),((0,(0,(0,false))),((0,0),(0,(0,0)))))))])),(1,(1,((13,(7,(0,false))),((13,(7,(0,false))),((0,0),(0,(0,0))))))))))) (0) (2)=some ((0,((0,(0,(0,false))),((0,(0,(0,false))),((0,0),(0,(0,0)))))),0):=by kernel_rfl
theorem lvl38_lives_28 (n f:Nat):heat_Cells_l14 (n+37) (f+1) (lvl38_lives_S0,((1,((3,((2,(1,(0,false))),((13,(7,(0,false))),((0,6),(0,(0,11)))))),(((0,6000),(0,11)),0))),(0,([(2,((2,(1,(0,false))),((4,(5,(0,false))),((0,4),(0,(0,2)))))),(1,((13,(7,(0,false))),((13,(7,(0,false))),((0,0),(0,(0,0)))))),(0,((0,(0,(0,false))),((0,(0,(0,false))),((0,0),(0,(0,0))))))],(0,(3,(3,())))))))=some (.inl ([(2,((2,(1,(0,false))),((4,(5,(0,false))),((0,4),(0,(0,2)))))),(1,((13,(7,(0,false))),((13,(7,(0,false))),((0,0),(0,(0,0)))))),(0,((0,(0,(0,false))),((0,(0,(0,false))),((0,0),(0,(0,0))))))],())):=by
  rw[heat_Cells_l14_eq]
  refine tf (by kernel_rfl) ?_
  kernel_rfl
theorem lvl38_lives_29 (n f:Nat):heat_Cells_l14 (n+37) (f+2) (lvl38_lives_S0,((1,((3,((2,(1,(0,false))),((13,(7,(0,false))),((0,6),(0,(0,11)))))),(((0,6000),(0,11)),0))),(0,([(2,((2,(1,(0,false))),((4,(5,(0,false))),((0,4),(0,(0,2)))))),(1,((13,(7,(0,false))),((13,(7,(0,false))),((0,0),(0,(0,0)))))),(0,((0,(0,(0,false))),((0,(0,(0,false))),((0,0),(0,(0,0))))))],(0,(3,(2,())))))))=some (.inl ([(2,((2,(1,(0,false))),((4,(5,(0,false))),((0,4),(0,(0,2)))))),(1,((13,(7,(0,false))),((13,(7,(0,false))),((0,0),(0,(0,0)))))),(0,((0,(0,(0,false))),((0,(0,(0,false))),((0,0),(0,(0,0))))))],())):=by
  rw[heat_Cells_l14_eq]
  refine tt (by kernel_rfl) ?_
  refine ob (x:=([([97],[])],(13,((0,(0,[(2,(1,(0,false))),(4,(5,(0,false))),(13,(7,(0,false)))])),(([(0,(2,((2,(1,(0,false))),((4,(5,(0,false))),((0,4),(0,(0,2))))))),(0,(0,((0,(0,(0,false))),((0,(0,(0,false))),((0,0),(0,(0,0))))))),(0,(0,((0,(0,(0,false))),((0,(0,(0,false))),((0,0),(0,(0,0))))))),(0,(0,((0,(0,(0,false))),((0,(0,(0,false))),((0,0),(0,(0,0)))))))],([(0,(0,((0,(0,(0,false))),((0,(0,(0,false))),((0,0),(0,(0,0))))))),(0,(0,((0,(0,(0,false))),((0,(0,(0,false))),((0,0),(0,(0,0))))))),(0,(0,((0,(0,(0,false))),((0,(0,(0,false))),((0,0),(0,(0,0))))))),(0,(0,((0,(0,(0,false))),((0,(0,(0,false))),((0,0),(0,(0,0))))))),(0,(0,((0,(0,(0,false))),((0,(0,(0,false))),((0,0),(0,(0,0)))))))],[(0,(0,((0,(0,(0,false))),((0,(0,(0,false))),((0,0),(0,(0,0))))))),(0,(0,((0,(0,(0,false))),((0,(0,(0,false))),((0,0),(0,(0,0))))))),(0,(0,((0,(0,(0,false))),((0,(0,(0,false))),((0,0),(0,(0,0))))))),(0,(0,((0,(0,(0,false))),((0,(0,(0,false))),((0,0),(0,(0,0))))))),(0,(0,((0,(0,(0,false))),((0,(0,(0,false))),((0,0),(0,(0,0))))))),(0,(0,((0,(0,(0,false))),((0,(0,(0,false))),((0,0),(0,(0,0)))))))])),(1,(1,((13,(7,(0,false))),((13,(7,(0,false))),((0,0),(0,(0,0)))))))))))) (by kernel_rfl) ?_
  refine ob (lvl38_lives_27 n) ?_
  refine ob (x:=(0,((0,(0,(0,false))),((0,(0,(0,false))),((0,0),(0,(0,0))))))) (by kernel_rfl) ?_
  refine ob (x:=(0,((0,(0,(0,false))),((0,(0,(0,false))),((0,0),(0,(0,0))))))) (by kernel_rfl) ?_
  refine tf (by kernel_rfl) ?_
  exact lvl38_lives_28 n f
theorem lvl38_lives_30 (n f:Nat):heat_Cells_l14 (n+37) (f+3) (lvl38_lives_S0,((1,((3,((2,(1,(0,false))),((13,(7,(0,false))),((0,6),(0,(0,11)))))),(((0,6000),(0,11)),0))),(0,([(2,((2,(1,(0,false))),((4,(5,(0,false))),((0,4),(0,(0,2)))))),(0,((0,(0,(0,false))),((0,(0,(0,false))),((0,0),(0,(0,0)))))),(0,((0,(0,(0,false))),((0,(0,(0,false))),((0,0),(0,(0,0))))))],(0,(3,(1,())))))))=some (.inl ([(2,((2,(1,(0,false))),((4,(5,(0,false))),((0,4),(0,(0,2)))))),(1,((13,(7,(0,false))),((13,(7,(0,false))),((0,0),(0,(0,0)))))),(0,((0,(0,(0,false))),((0,(0,(0,false))),((0,0),(0,(0,0))))))],())):=by
  rw[heat_Cells_l14_eq]
  refine tt (by kernel_rfl) ?_
  refine ob (x:=([([97],[])],(13,((0,(0,[(2,(1,(0,false))),(4,(5,(0,false))),(13,(7,(0,false)))])),(([(0,(2,((2,(1,(0,false))),((4,(5,(0,false))),((0,4),(0,(0,2))))))),(0,(0,((0,(0,(0,false))),((0,(0,(0,false))),((0,0),(0,(0,0))))))),(0,(0,((0,(0,(0,false))),((0,(0,(0,false))),((0,0),(0,(0,0))))))),(0,(0,((0,(0,(0,false))),((0,(0,(0,false))),((0,0),(0,(0,0)))))))],([(0,(0,((0,(0,(0,false))),((0,(0,(0,false))),((0,0),(0,(0,0))))))),(0,(0,((0,(0,(0,false))),((0,(0,(0,false))),((0,0),(0,(0,0))))))),(0,(0,((0,(0,(0,false))),((0,(0,(0,false))),((0,0),(0,(0,0))))))),(0,(0,((0,(0,(0,false))),((0,(0,(0,false))),((0,0),(0,(0,0))))))),(0,(0,((0,(0,(0,false))),((0,(0,(0,false))),((0,0),(0,(0,0)))))))],[(0,(0,((0,(0,(0,false))),((0,(0,(0,false))),((0,0),(0,(0,0))))))),(0,(0,((0,(0,(0,false))),((0,(0,(0,false))),((0,0),(0,(0,0))))))),(0,(0,((0,(0,(0,false))),((0,(0,(0,false))),((0,0),(0,(0,0))))))),(0,(0,((0,(0,(0,false))),((0,(0,(0,false))),((0,0),(0,(0,0))))))),(0,(0,((0,(0,(0,false))),((0,(0,(0,false))),((0,0),(0,(0,0))))))),(0,(0,((0,(0,(0,false))),((0,(0,(0,false))),((0,0),(0,(0,0)))))))])),(1,(1,((13,(7,(0,false))),((13,(7,(0,false))),((0,0),(0,(0,0)))))))))))) (by kernel_rfl) ?_
  refine ob (lvl38_lives_26 n) ?_
  refine ob (x:=(0,((0,(0,(0,false))),((0,(0,(0,false))),((0,0),(0,(0,0))))))) (by kernel_rfl) ?_
  refine ob (x:=(0,((0,(0,(0,false))),((0,(0,(0,false))),((0,0),(0,(0,0))))))) (by kernel_rfl) ?_
  refine tf (by kernel_rfl) ?_
  exact lvl38_lives_29 n f
theorem lvl38_lives_31 (n f:Nat):heat_Cells_l14 (n+37) (f+4) (lvl38_lives_S0,((1,((3,((2,(1,(0,false))),((13,(7,(0,false))),((0,6),(0,(0,11)))))),(((0,6000),(0,11)),0))),(0,([(0,((0,(0,(0,false))),((0,(0,(0,false))),((0,0),(0,(0,0)))))),(0,((0,(0,(0,false))),((0,(0,(0,false))),((0,0),(0,(0,0)))))),(0,((0,(0,(0,false))),((0,(0,(0,false))),((0,0),(0,(0,0))))))],(0,(3,(0,())))))))=some (.inl ([(2,((2,(1,(0,false))),((4,(5,(0,false))),((0,4),(0,(0,2)))))),(1,((13,(7,(0,false))),((13,(7,(0,false))),((0,0),(0,(0,0)))))),(0,((0,(0,(0,false))),((0,(0,(0,false))),((0,0),(0,(0,0))))))],())):=by
  rw[heat_Cells_l14_eq]
  refine tt (by kernel_rfl) ?_
  refine ob (x:=([([97],[])],(13,((0,(0,[(2,(1,(0,false))),(4,(5,(0,false))),(13,(7,(0,false)))])),(([(0,(2,((2,(1,(0,false))),((4,(5,(0,false))),((0,4),(0,(0,2))))))),(0,(0,((0,(0,(0,false))),((0,(0,(0,false))),((0,0),(0,(0,0))))))),(0,(0,((0,(0,(0,false))),((0,(0,(0,false))),((0,0),(0,(0,0))))))),(0,(0,((0,(0,(0,false))),((0,(0,(0,false))),((0,0),(0,(0,0)))))))],([(0,(0,((0,(0,(0,false))),((0,(0,(0,false))),((0,0),(0,(0,0))))))),(0,(0,((0,(0,(0,false))),((0,(0,(0,false))),((0,0),(0,(0,0))))))),(0,(0,((0,(0,(0,false))),((0,(0,(0,false))),((0,0),(0,(0,0))))))),(0,(0,((0,(0,(0,false))),((0,(0,(0,false))),((0,0),(0,(0,0))))))),(0,(0,((0,(0,(0,false))),((0,(0,(0,false))),((0,0),(0,(0,0)))))))],[(0,(0,((0,(0,(0,false))),((0,(0,(0,false))),((0,0),(0,(0,0))))))),(0,(0,((0,(0,(0,false))),((0,(0,(0,false))),((0,0),(0,(0,0))))))),(0,(0,((0,(0,(0,false))),((0,(0,(0,false))),((0,0),(0,(0,0))))))),(0,(0,((0,(0,(0,false))),((0,(0,(0,false))),((0,0),(0,(0,0))))))),(0,(0,((0,(0,(0,false))),((0,(0,(0,false))),((0,0),(0,(0,0))))))),(0,(0,((0,(0,(0,false))),((0,(0,(0,false))),((0,0),(0,(0,0)))))))])),(1,(1,((13,(7,(0,false))),((13,(7,(0,false))),((0,0),(0,(0,0)))))))))))) (by kernel_rfl) ?_
  refine ob (lvl38_lives_25 n) ?_
  refine ob (x:=(0,((0,(0,(0,false))),((0,(0,(0,false))),((0,0),(0,(0,0))))))) (by kernel_rfl) ?_
  refine ob (x:=(0,((0,(0,(0,false))),((0,(0,(0,false))),((0,0),(0,(0,0))))))) (by kernel_rfl) ?_
  refine tf (by kernel_rfl) ?_
  exact lvl38_lives_30 n f
theorem lvl38_lives_32 (n:Nat):heat_Cells (n+38) lvl38_lives_S0 ([([97],[])],(1,(0,30)))=some ([(2,((2,(1,(0,false))),((4,(5,(0,false))),((0,4),(0,(0,2)))))),(1,((13,(7,(0,false))),((13,(7,(0,false))),((0,0),(0,(0,0)))))),(0,((0,(0,(0,false))),((0,(0,(0,false))),((0,0),(0,(0,0))))))],0):=by
  rw[heat_Cells_eq]
  refine ob (lvl38_lives_22 n) ?_
  refine tf (by kernel_rfl) ?_
  refine tt (by kernel_rfl) ?_
  refine ob (lvl38_lives_23 n) ?_
  refine tf (by kernel_rfl) ?_
  refine tf (by kernel_rfl) ?_
  refine tt (by kernel_rfl) ?_
  refine ob (lvl38_lives_24 n) ?_
  refine tf (by kernel_rfl) ?_
  refine ob (atFuel (h:=by unfold loopFuel;omega) (lvl38_lives_31 n (loopFuel-4))) ?_
  refine Eq.trans (selim_inl ..) ?_
  kernel_rfl
theorem lvl38_lives_33 (n:Nat):heat_Steps (n+38) [(2,((2,(1,(0,false))),((4,(5,(0,false))),((0,4),(0,(0,2)))))),(1,((13,(7,(0,false))),((13,(7,(0,false))),((0,0),(0,(0,0)))))),(0,((0,(0,(0,false))),((0,(0,(0,false))),((0,0),(0,(0,0))))))]=some ([(0,4),(0,2),(0,0)],0):=by kernel_rfl
theorem lvl38_lives_34 (n:Nat):heat_Levels (n+38) [(0,4),(0,2),(0,0)]=some ([9,4,0],0):=by kernel_rfl
theorem lvl38_lives_35 (n f:Nat):heat_Line_l10 (n+38) (f+1) (0,([57,52,48],([9,4,0],(3,(3,())))))=some (.inl (0,([57,52,48],()))):=by
  rw[heat_Line_l10_eq]
  refine tf (by kernel_rfl) ?_
  kernel_rfl
theorem lvl38_lives_36 (n f:Nat):heat_Line_l10 (n+38) (f+2) (0,([57,52,0],([9,4,0],(3,(2,())))))=some (.inl (0,([57,52,48],()))):=by
  rw[heat_Line_l10_eq]
  refine tt (by kernel_rfl) ?_
  refine ob (x:=0) (by kernel_rfl) ?_
  refine ob (x:=0) (by kernel_rfl) ?_
  refine ob (x:=0) (by kernel_rfl) ?_
  exact lvl38_lives_35 n f
theorem lvl38_lives_37 (n f:Nat):heat_Line_l10 (n+38) (f+3) (0,([57,0,0],([9,4,0],(3,(1,())))))=some (.inl (0,([57,52,48],()))):=by
  rw[heat_Line_l10_eq]
  refine tt (by kernel_rfl) ?_
  refine ob (x:=4) (by kernel_rfl) ?_
  refine ob (x:=0) (by kernel_rfl) ?_
  refine ob (x:=0) (by kernel_rfl) ?_
  exact lvl38_lives_36 n f
theorem lvl38_lives_38 (n f:Nat):heat_Line_l10 (n+38) (f+4) (0,([0,0,0],([9,4,0],(3,(0,())))))=some (.inl (0,([57,52,48],()))):=by
  rw[heat_Line_l10_eq]
  refine tt (by kernel_rfl) ?_
  refine ob (x:=9) (by kernel_rfl) ?_
  refine ob (x:=0) (by kernel_rfl) ?_
  refine ob (x:=0) (by kernel_rfl) ?_
  exact lvl38_lives_37 n f
theorem lvl38_lives_39 (n:Nat):heat_Line (n+39) lvl38_lives_S0 ([([97],[])],(1,(0,30)))=some ([57,52,48],0):=by
  rw[heat_Line_eq]
  refine ob (lvl38_lives_32 n) ?_
  refine tf (by kernel_rfl) ?_
  refine ob (lvl38_lives_33 n) ?_
  refine tf (by kernel_rfl) ?_
  refine ob (lvl38_lives_34 n) ?_
  refine tt (by kernel_rfl) ?_
  refine ob (atFuel (h:=by unfold loopFuel;omega) (lvl38_lives_38 n (loopFuel-4))) ?_
  refine Eq.trans (selim_inl ..) ?_
  kernel_rfl
theorem lvl38_lives_40 (n:Nat):heat_Levels (n+39) [(9223372036854775808,0)]=some ([],1):=by kernel_rfl
theorem lvl38_lives_41 (n:Nat):heat_Peak (n+39) []=some (0,false):=by kernel_rfl
theorem lvl38_lives_42 (n:Nat):wide_Of (n+39) (4)=some (0,4):=by kernel_rfl
theorem lvl38_lives_43 (n:Nat):r38_SameWides (n+39) [(0,4),(0,2),(0,0)] [(0,4),(0,2),(0,0)]=some true:=by kernel_rfl
theorem lvl38_lives_44 (n:Nat):r06_Same (n+39) [2,9,0,1] [2,9,0,1]=some true:=by kernel_rfl
theorem l38_lives_true (n:Nat):l38_lives (n+40)=some true:=by
  rw[lvl38_lives_eq]
  refine ob (lvl38_lives_0 n) ?_
  refine ob (lvl38_lives_1 n) ?_
  refine tf (by kernel_rfl) ?_
  refine ob (lvl38_lives_2 n) ?_
  refine tf (by kernel_rfl) ?_
  refine tf (by kernel_rfl) ?_
  refine ob (lvl38_lives_3 n) ?_
  refine tf (by kernel_rfl) ?_
  refine tf (by kernel_rfl) ?_
  refine ob (lvl38_lives_14 n) ?_
  refine tf (by kernel_rfl) ?_
  refine tf (by kernel_rfl) ?_
  refine ob (lvl38_lives_15 n) ?_
  refine ob (lvl38_lives_16 n) ?_
  refine ob (lvl38_lives_17 n) ?_
  refine ob (lvl38_lives_18 n) ?_
  refine ob (lvl38_lives_19 n) ?_
  refine ob (lvl38_lives_20 n) ?_
  refine ob (lvl38_lives_21 n) ?_
  refine ob (lvl38_lives_39 n) ?_
  refine ob (lvl38_lives_40 n) ?_
  refine ob (lvl38_lives_41 n) ?_
  refine ob (x:=(2,((2,(1,(0,false))),((4,(5,(0,false))),((0,4),(0,(0,2))))))) (by kernel_rfl) ?_
  refine tt (by kernel_rfl) ?_
  refine ob (x:=(1,((13,(7,(0,false))),((13,(7,(0,false))),((0,0),(0,(0,0))))))) (by kernel_rfl) ?_
  refine tt (by kernel_rfl) ?_
  refine ob (x:=(0,((0,(0,(0,false))),((0,(0,(0,false))),((0,0),(0,(0,0))))))) (by kernel_rfl) ?_
  refine tt (by kernel_rfl) ?_
  refine ob (lvl38_lives_42 n) ?_
  refine ob (lvl38_lives_17 n) ?_
  refine ob (lvl38_lives_43 n) ?_
  refine tt (by kernel_rfl) ?_
  refine tt (by kernel_rfl) ?_
  refine tt (by kernel_rfl) ?_
  refine tt (by kernel_rfl) ?_
  refine ob (lvl38_lives_44 n) ?_
  refine tt (by kernel_rfl) ?_
  refine tt (by kernel_rfl) ?_
  refine tt (by kernel_rfl) ?_
  refine tt (by kernel_rfl) ?_
  refine tt (by kernel_rfl) ?_
  kernel_rfl
end Go.Proofs.YtefpnjjbopdplaaGreatDoor
namespace Go.Proofs.YtefpnjjbopdplaaGreatDoor
open Go.Flat Go.Plim
set_option linter.unusedVariables false
set_option linter.unusedSimpArgs false
theorem wds_wf {l:List Wd} (h:Wf (.slice tyWide) l):∀x∈l,WdOk x:=fun x hx=>⟨(h.2 x hx).1,(h.2 x hx).2⟩
theorem lvl_mono {t a b:Int} (ht:0≤t) (h:a≤b):lvl t a≤lvl t b:=by
  unfold lvl
  by_cases e:t=0
  · rw[if_pos e,if_pos e];omega
  · rw[if_neg e,if_neg e]
    exact Int.ediv_le_ediv (by omega) (by omega)
theorem lvl_top {t:Int} (ht:0≤t):(decide (lvl t t=9)) = !(decide (t=0)):=by
  unfold lvl
  by_cases e:t=0
  · rw[if_pos e,decide_eq_true e];rfl
  · rw[if_neg e,decide_eq_false e,Int.mul_comm,Int.mul_ediv_cancel _ e];rfl
section
variable {m:List Wd} {i:Nat} {top:Wd} (hL:m.length≤60) (hw:∀x∈m,WdOk x) (hmax:∀y∈m,wv y≤wv top) (hfst:∀j y,j<i→m[j]? = some y→wv y<wv top) (ht:m[i]? = some top)
theorem lv_at {j:Nat} {x:Wd} (h:m[j]? = some x):at? (m.map fun x=>lvl (wv top) (wv x)) (j:Int)=some (lvl (wv top) (wv x)):=by
  refine at_el ?_
  rw[List.getElem?_map,h];rfl
include hL hw ht in
theorem levels_l22 (n:Nat) (j:Nat) {x:Wd} (hx:m[j]? = some x) (at_ s73 s74:Int):∀(d k f:Nat),k+d=m.length→d<f →
    l38_HeatLevels_l22 (n+1) f (m,m.map (fun x=>lvl (wv top) (wv x)),at_,(j:Int),s73,s74,(m.length:Int),(k:Int),())=some (.inl (m,m.map (fun x=>lvl (wv top) (wv x)),at_,s73,s74,())):=by
  have h0:=(wv_range (hw top (List.mem_of_getElem? ht))).1
  intro d
  induction d with
  | zero =>
    intro k f hk hf
    obtain ⟨f,rfl⟩:∃g,f=g+1:=⟨f-1,by omega⟩
    rw[l38_HeatLevels_l22_eq,decide_eq_false (by omega),tff]
  | succ d ih =>
    intro k f hk hf
    obtain ⟨f,rfl⟩:∃g,f=g+1:=⟨f-1,by omega⟩
    obtain ⟨y,hy⟩:∃y,m[k]? = some y:=⟨m[k],List.getElem?_eq_getElem (by omega)⟩
    have next:=ih (k+1) f (by omega) (by omega)
    rw[show ((k+1:Nat):Int)=(k:Int)+1 by omega] at next
    rw[l38_HeatLevels_l22_eq,decide_eq_true (show (k:Int)<(m.length:Int) by omega),tft,at_el hx,obs,at_el hy,obs,wide_less n (hw x (List.mem_of_getElem? hx)) (hw y (List.mem_of_getElem? hy)),obs,lv_at hx,obs,lv_at hy,obs,w64 (x:=(k:Int)+1) (by omega) (by omega),tfd,tfd]
    by_cases c:wv x<wv y
    · rw[if_pos c,if_neg (by have:=lvl_mono (a:=wv x) (b:=wv y) h0 (by omega);omega)];exact next
    · rw[if_neg c];exact next
include hL hw hmax hfst ht in
theorem levels_l17 (n:Nat):∀(d j f:Nat),j+d=m.length→d<f →
    l38_HeatLevels_l17 (n+1) f (m,m.map (fun x=>lvl (wv top) (wv x)),(i:Int),(m.length:Int),(j:Int),())=some (.inl ()):=by
  have hto:=hw top (List.mem_of_getElem? ht)
  have h0:=(wv_range hto).1
  intro d
  induction d with
  | zero =>
    intro j f hk hf
    obtain ⟨f,rfl⟩:∃g,f=g+1:=⟨f-1,by omega⟩
    rw[l38_HeatLevels_l17_eq,decide_eq_false (by omega),tff]
  | succ d ih =>
    intro j f hk hf
    obtain ⟨f,rfl⟩:∃g,f=g+1:=⟨f-1,by omega⟩
    obtain ⟨x,hx⟩:∃x,m[j]? = some x:=⟨m[j],List.getElem?_eq_getElem (by omega)⟩
    have hxo:=hw x (List.mem_of_getElem? hx)
    have hxt:=hmax x (List.mem_of_getElem? hx)
    obtain ⟨r1,r2⟩:=lvl_range (wv_range hxo).1 hxt
    have next:=ih (j+1) f (by omega) (by omega)
    rw[show ((j+1:Nat):Int)=(j:Int)+1 by omega] at next
    have h22:=levels_l22 (top:=top) hL hw ht n j hx (i:Int) (m.length:Int) (j:Int) m.length 0 loopFuel (by omega) (by unfold loopFuel;omega)
    have h22':l38_HeatLevels_l22 (n+1) loopFuel (m,m.map (fun x=>lvl (wv top) (wv x)),(i:Int),(j:Int),(m.length:Int),(j:Int),(m.length:Int),(0:Int),())=_:=h22
    have e9:(x.1=top.1∧x.2=top.2)→(!((decide (lvl (wv top) (wv x)=(9:Int)))==(!((decide (top.1=(0:Int)))&&(decide (top.2=(0:Int)))))))=false:=by
      rintro ⟨e1,e2⟩
      have e:x=top:=Prod.ext e1 e2
      rw[e,zero_tests hto,lvl_top h0,beq_self_eq_true];rfl
    rw[l38_HeatLevels_l17_eq,decide_eq_true (show (j:Int)<(m.length:Int) by omega),tft,lv_at hx,obs,decide_eq_false (by omega),tff,obs,decide_eq_false (by omega),tff,at_el ht,obs,at_el hx,obs,wide_less n hto hxo,obs,decide_eq_false (by omega),tff]
    simp only[obs,h22',selim_inl,w64 (x:=(j:Int)+1) (by omega) (by omega),next,wide_less n hxo hto]
    rw[←Bool.decide_and]
    simp only[tfd,tfn]
    by_cases c1:(j:Int)<(i:Int)
    · have:=hfst j x (by omega) hx
      rw[if_pos c1,if_pos this]
      by_cases c2:x.1=top.1∧x.2=top.2
      · have:=e9 c2
        rw[if_pos c2]
        rw[←tfn,this,tff]
      · rw[if_neg c2]
    · rw[if_neg c1]
      by_cases c2:x.1=top.1∧x.2=top.2
      · have:=e9 c2
        rw[if_pos c2]
        rw[←tfn,this,tff]
      · rw[if_neg c2]
end
theorem heatLevels_true (n:Nat) (m:List Wd) (hm:Wf (.slice tyWide) m):l38_HeatLevels (n+41) m=some true:=by
  rw[l38_HeatLevels_eq,l38_lives_true n,obs,Bool.not_true,tff,tfd]
  by_cases h1:(60:Int)<(m.length:Int)
  · rw[if_pos h1]
  rw[if_neg h1]
  have hw:=wds_wf hm
  by_cases hn:m=[]
  · subst hn
    rw[heat_peak_nil (n+38),heat_levels_nil (n+35)]
    obtain ⟨f,hf⟩:∃f,loopFuel=f+1:=⟨loopFuel-1,by unfold loopFuel;omega⟩
    simp only[obs,List.length_nil,hf,l38_HeatLevels_l17_eq]
    rfl
  · obtain ⟨i,hi⟩:=peak_ex m (by omega) hw hn
    obtain ⟨top,ht,hmax,hfst⟩:=id hi
    have him:i<m.length:=(List.getElem?_eq_some_iff.1 ht).1
    rw[heat_peak (n+38) (by omega) hw hi,heat_levels (n+35) (by omega) hw hi ht]
    simp only[obs]
    rw[decide_eq_true (show (0:Int)<(m.length:Int) by omega),beq_self_eq_true,Bool.not_true,tff,decide_eq_false (show ¬(i:Int)<0 by omega),tff,tft,decide_eq_false (show ¬(m.length:Int)≤(i:Int) by omega),tff,at_el ht]
    have hto:=hw top (List.mem_of_getElem? ht)
    simp only[obs]
    rw[wide_times (n+38) hto 9 (by omega),obs]
    unfold timesW levT
    by_cases c:wv top*9<340282366920938463463374607431768211456
    · rw[if_pos c]
      simp only[decide_true,Bool.not_true,tff,List.length_map]
      have h17:=levels_l17 (i:=i) (top:=top) (by omega) hw hmax hfst ht (n+39) m.length 0 loopFuel (by omega) (by unfold loopFuel;omega)
      have h17':l38_HeatLevels_l17 (n+40) loopFuel (m,m.map (fun x=>lvl (wv top) (wv x)),(i:Int),(m.length:Int),(0:Int),())=_:=h17
      rw[h17',obs,selim_inl]
    · rw[if_neg c,if_neg c];rfl
section
variable {s:Sta} (hw:StaW s) (q:List Lab×(Int×(Int×Int))) (h:(doQ s q.1 q.2.1 q.2.2.1 q.2.2.2).2=0) {m:Nat} (hm:q.2.2.2 / tierW s.1 ((tierV s q.2.1 q.2.2.1 q.2.2.2).1-1)-q.2.2.1 / tierW s.1 ((tierV s q.2.1 q.2.2.1 q.2.2.2).1-1)=((m+1:Nat):Int)) (h4:m<60)
include hw h hm h4
end
end Go.Proofs.YtefpnjjbopdplaaGreatDoor
