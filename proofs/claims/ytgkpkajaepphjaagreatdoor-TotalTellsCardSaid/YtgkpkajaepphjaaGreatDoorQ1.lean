/-
 Plain proofs about the functions of this seat, part 1 of 4.
-/
import Derived.IntWalk
import Derived.Test.YtgkpkajaepphjaaGreatDoorTr
import Derived.Test.YtgkpkajaepphjaaGreatDoorFlatM3
namespace Go.Plim
set_option linter.unusedVariables false
abbrev Wd:=Int×Int
abbrev Ev:=Int×(Int×(Int×Bool))
abbrev Cel:=Int×(Ev×(Ev×(Wd×(Int×(Int×Int)))))
instance decWd:DecidableEq Wd:=inferInstanceAs (DecidableEq (Int×Int))
instance decEv:DecidableEq Ev:=inferInstanceAs (DecidableEq (Int×(Int×(Int×Bool))))
instance decCel:DecidableEq Cel := @instDecidableEqProd _ _ _ (@instDecidableEqProd _ _ decEv (@instDecidableEqProd _ _ decEv (@instDecidableEqProd _ _ decWd inferInstance)))
def wv (a:Wd):Int:=a.1*18446744073709551616+a.2
structure WdOk (a:Wd):Prop where
 hi:0≤a.1∧a.1≤18446744073709551615
 lo:0≤a.2∧a.2≤18446744073709551615
def mkW (v:Int):Wd:=(v / 18446744073709551616,v % 18446744073709551616)
theorem p1a {a:Wd} (h:WdOk a):mkW (wv a)=a:=by
 obtain ⟨h1,h2⟩:=h;obtain ⟨x,y⟩:=a;simp only[mkW,wv] at *
 exact Prod.ext (by simp only;omega) (by simp only;omega)
theorem w0c (v:Int):wv (mkW v)=v:=by
 simp only[mkW,wv];omega
theorem w0t {v:Int} (h:0≤v) (h':v<340282366920938463463374607431768211456):WdOk (mkW v):=by
 constructor<;>simp only[mkW]<;>omega
theorem f0c {a:Wd} (h:WdOk a):0≤wv a∧wv a<340282366920938463463374607431768211456:=by
 obtain ⟨h1,h2⟩:=h;simp only[wv];omega
theorem f1d:wv (0,0)=0:=rfl
theorem wv_lo (x:Int):wv (0,x)=x:=by simp[wv]
def addW (a b:Wd):Wd×Int:=if wv a+wv b<340282366920938463463374607431768211456 then (mkW (wv a+wv b),0) else ((0,0),1)
def e0:Ev:=(0,(0,(0,false)))
structure EvOk (e:Ev):Prop where
 t0:0≤e.1
 t1:e.1<35184372088832
 v0:0≤e.2.1
 v1:e.2.1≤18446744073709551615
 c0:0≤e.2.2.1
 c1:e.2.2.1≤e.1
 st:e.2.2.2=true→e.2.1=0∧e.2.2.1=0
theorem evOk_iff (e:Ev):EvOk e↔(0≤e.1∧e.1<35184372088832∧0≤e.2.1∧e.2.1≤18446744073709551615∧0≤e.2.2.1∧e.2.2.1≤e.1∧(e.2.2.2=true→e.2.1=0∧e.2.2.1=0)) :=
 ⟨fun ⟨a,b,c,d,f,g,h⟩=>⟨a,b,c,d,f,g,h⟩,fun ⟨a,b,c,d,f,g,h⟩=>⟨a,b,c,d,f,g,h⟩⟩
instance (e:Ev):Decidable (EvOk e):=decidable_of_iff _ (evOk_iff e).symm
def btw (p c:Ev):Int×(Int×(Int×Int)) :=
 if c.2.2.2=true then (0,0,0,0)
 else if p.1<c.2.2.1 then (c.2.1,1,0,c.1-c.2.2.1)
 else if p.2.2.2=true then (0,0,1,0)
 else if c.2.1<p.2.1 then (c.2.1,1,0,c.1-p.1)
 else (c.2.1-p.2.1,0,0,c.1-p.1)
structure DlOk (d:Int×(Int×(Int×Int))) (s:Int):Prop where
 i:0≤d.1∧d.1≤18446744073709551615
 r:0≤d.2.1
 g:0≤d.2.2.1
 rg:d.2.1+d.2.2.1≤1
 s:0≤d.2.2.2∧d.2.2.2≤s
theorem f2k {p c:Ev} (hp:EvOk p) (hc:EvOk c) (h:p.1<c.1):DlOk (btw p c) (c.1-p.1):=by
 obtain ⟨a1,a2,a3,a4,a5,a6,a7⟩:=hp;obtain ⟨b1,b2,b3,b4,b5,b6,b7⟩:=hc;unfold btw;by_cases k1:c.2.2.2=true
 ·rw[if_pos k1];constructor<;>simp only<;>omega
 rw[if_neg k1];by_cases k2:p.1<c.2.2.1
 ·rw[if_pos k2];constructor<;>simp only<;>omega
 rw[if_neg k2];by_cases k3:p.2.2.2=true
 ·rw[if_pos k3];constructor<;>simp only<;>omega
 rw[if_neg k3];by_cases k4:c.2.1<p.2.1
 ·rw[if_pos k4];constructor<;>simp only<;>omega
 rw[if_neg k4];constructor<;>simp only<;>omega
def z0:Cel:=(0,(e0,(e0,((0,0),(0,(0,0))))))
structure CellN (c:Cel):Prop where
 n1:1≤c.1
 f:EvOk c.2.1
 l:EvOk c.2.2.1
 one:c.1=1→c.2.1=c.2.2.1
 more:1<c.1→c.2.1.1<c.2.2.1.1
 n2:c.1-1≤c.2.2.1.1-c.2.1.1
 w:WdOk c.2.2.2.1
 inc:wv c.2.2.2.1≤18446744073709551615*(c.1-1)
 r:0≤c.2.2.2.2.1
 g:0≤c.2.2.2.2.2.1
 rg:c.2.2.2.2.1+c.2.2.2.2.2.1≤c.1-1
 s0:0≤c.2.2.2.2.2.2
 s1:c.2.2.2.2.2.2≤c.2.2.1.1-c.2.1.1
theorem wdOk_iff (a:Wd):WdOk a↔(0≤a.1∧a.1≤18446744073709551615)∧(0≤a.2∧a.2≤18446744073709551615) :=
 ⟨fun ⟨a,b⟩=>⟨a,b⟩,fun ⟨a,b⟩=>⟨a,b⟩⟩
instance (a:Wd):Decidable (WdOk a):=decidable_of_iff _ (wdOk_iff a).symm
theorem o2u (c:Cel):CellN c↔(1≤c.1∧EvOk c.2.1∧EvOk c.2.2.1∧(c.1=1→c.2.1=c.2.2.1)∧(1<c.1→c.2.1.1<c.2.2.1.1)∧c.1-1≤c.2.2.1.1-c.2.1.1∧WdOk c.2.2.2.1 ∧
  wv c.2.2.2.1≤18446744073709551615*(c.1-1)∧0≤c.2.2.2.2.1∧0≤c.2.2.2.2.2.1∧c.2.2.2.2.1+c.2.2.2.2.2.1≤c.1-1∧0≤c.2.2.2.2.2.2∧c.2.2.2.2.2.2≤c.2.2.1.1-c.2.1.1) :=
 ⟨fun ⟨a,b,c,d,e,f,g,h,i,j,k,l,m⟩=>⟨a,b,c,d,e,f,g,h,i,j,k,l,m⟩,fun ⟨a,b,c,d,e,f,g,h,i,j,k,l,m⟩=>⟨a,b,c,d,e,f,g,h,i,j,k,l,m⟩⟩
instance (c:Cel):Decidable (CellN c):=decidable_of_iff _ (o2u c).symm
def b0y (c:Cel):Prop:=c=z0∨CellN c
instance (c:Cel):Decidable (b0y c):=by unfold b0y;infer_instance
theorem CellN.ne {c:Cel} (h:CellN c):c≠z0:=by
 intro e;have:=h.n1;rw[e] at this;simp[z0] at this
theorem CellN.ok {c:Cel} (h:CellN c):b0y c := .inr h
theorem u0j:b0y z0 := .inl rfl
theorem b0y.n {c:Cel} (h:b0y c) (hz:c≠z0):CellN c:=h.resolve_left hz
theorem b0y.count {c:Cel} (h:b0y c):(c.1=0↔c=z0)∧0≤c.1:=by
 rcases h with rfl | h
 ·exact ⟨⟨fun _=>rfl,fun _=>rfl⟩,by simp[z0]⟩
 ·have:=h.n1;exact ⟨⟨fun e=>by omega,fun e=>absurd e h.ne⟩,by omega⟩
theorem CellN.ft {c:Cel} (h:CellN c):c.2.1.1≤c.2.2.1.1:=by have:=h.n1;have:=h.n2;omega
theorem CellN.small {c:Cel} (h:CellN c):c.1≤35184372088832:=by
 have:=h.n2;have:=h.f.t0;have:=h.l.t1;omega
def mrg (a b:Cel):Cel :=
 if a=z0 then b else if b=z0 then a else
  (a.1+b.1,(a.2.1,(b.2.2.1,(mkW (wv a.2.2.2.1+(btw a.2.2.1 b.2.1).1+wv b.2.2.2.1),
   (a.2.2.2.2.1+(btw a.2.2.1 b.2.1).2.1+b.2.2.2.2.1,(a.2.2.2.2.2.1+(btw a.2.2.1 b.2.1).2.2.1+b.2.2.2.2.2.1,a.2.2.2.2.2.2+(btw a.2.2.1 b.2.1).2.2.2+b.2.2.2.2.2.2))))))
def Ahead (a b:Cel):Prop:=a=z0∨b=z0∨a.2.2.1.1<b.2.1.1
instance (a b:Cel):Decidable (Ahead a b):=by unfold Ahead;infer_instance
theorem m2l (a:Cel):mrg a z0=a:=by
 unfold mrg;split
 ·rename_i h;exact h.symm
 ·simp
theorem u1e (a:Cel):mrg z0 a=a:=by unfold mrg;simp
theorem mrg_n {a b:Cel} (ha:CellN a) (hb:CellN b):mrg a b=(a.1+b.1,(a.2.1,(b.2.2.1,(mkW (wv a.2.2.2.1+(btw a.2.2.1 b.2.1).1+wv b.2.2.2.1),
  (a.2.2.2.2.1+(btw a.2.2.1 b.2.1).2.1+b.2.2.2.2.1,(a.2.2.2.2.2.1+(btw a.2.2.1 b.2.1).2.2.1+b.2.2.2.2.2.1,a.2.2.2.2.2.2+(btw a.2.2.1 b.2.1).2.2.2+b.2.2.2.2.2.2)))))):=by
 unfold mrg;rw[if_neg ha.ne,if_neg hb.ne]
theorem mrg_N {a b:Cel} (ha:CellN a) (hb:CellN b) (h:a.2.2.1.1<b.2.1.1):CellN (mrg a b):=by
 have d:=f2k ha.l hb.f h;have a1:=ha.n1;have b1:=hb.n1;have a2:=ha.ft;have b2:=hb.ft;have a3:=ha.inc;have b3:=hb.inc;have a4:=f0c ha.w;have b4:=f0c hb.w;have a5:=ha.small;have b5:=hb.small;rw[mrg_n ha hb];generalize btw a.2.2.1 b.2.1=x at *
 obtain ⟨d1,d2,d3,d4,d5⟩:=d;have e:18446744073709551615*(a.1+b.1-1)=18446744073709551615*(a.1-1)+18446744073709551615+18446744073709551615*(b.1-1):=by omega
 constructor<;>simp only
 ·omega
 ·exact ha.f
 ·exact hb.l
 ·intro h;omega
 ·intro _;omega
 ·have:=ha.n2;have:=hb.n2;omega
 ·exact w0t (by omega) (by omega)
 ·rw[w0c];omega
 ·have:=ha.r;have:=hb.r;omega
 ·have:=ha.g;have:=hb.g;omega
 ·have:=ha.rg;have:=hb.rg;omega
 ·have:=ha.s0;have:=hb.s0;omega
 ·have:=ha.s1;have:=hb.s1;omega
theorem x1n {a b:Cel} (ha:b0y a) (hb:b0y b) (h:Ahead a b):b0y (mrg a b):=by
 by_cases k:a=z0
 ·rw[k,u1e];exact hb
 by_cases k':b=z0
 ·rw[k',m2l];exact ha
 exact .inr (mrg_N (ha.n k) (hb.n k') ((h.resolve_left k).resolve_left k'))
def evCell (e:Ev):Cel:=(1,(e,(e,((0,0),(0,(0,0))))))
def cellOf (l:List Ev):Cel:=l.foldl (fun c e=>mrg c (evCell e)) z0
structure Foll (l:List Ev):Prop where
 ok:∀e∈l,EvOk e
 inc:l.Pairwise fun a b=>a.1<b.1
theorem Foll.nil:Foll []:=⟨by simp,.nil⟩
theorem s0h {l m:List Ev}:Foll (l++m)↔Foll l∧Foll m∧∀x∈l,∀y∈m,x.1<y.1:=by
 constructor
 ·rintro ⟨h1,h2⟩;rw[List.pairwise_append] at h2;exact ⟨⟨fun x hx=>h1 x (by simp[hx]),h2.1⟩,⟨fun x hx=>h1 x (by simp[hx]),h2.2.1⟩,h2.2.2⟩
 ·rintro ⟨h1,h2,h3⟩;refine ⟨fun x hx => ?_,List.pairwise_append.2 ⟨h1.inc,h2.inc,h3⟩⟩;rcases List.mem_append.1 hx with hx | hx
  ·exact h1.ok x hx
  ·exact h2.ok x hx
theorem Foll.sub {l m:List Ev} (h:Foll l) (s:m.Sublist l):Foll m:=⟨fun e he=>h.ok e (s.subset he),h.inc.sublist s⟩
structure Has (l:List Ev) (c:Cel):Prop where
 n:CellN c
 cnt:c.1=l.length
 first:l.head? = some c.2.1
 last:l.getLast? = some c.2.2.1
def mrgE (a b:Cel):Cel×Int:=if b0y a∧b0y b then (if Ahead a b then (mrg a b,0) else (z0,9)) else (z0,2)
def allE:Cel→List Cel→Cel×Int
 | c,[]=>(c,0)
 | c,x::r=>if (mrgE c x).2=0 then allE (mrgE c x).1 r else (z0,(mrgE c x).2)
end Go.Plim

namespace Go.Proofs.YtgkpkajaepphjaaGreatDoor
open Go.Flat Go.Plim
set_option linter.unusedVariables false
set_option linter.unusedSimpArgs false
theorem p0h (x:Int) (k:Nat) (hk:k≤64):shrI .u64 x (k:Int)=x / 2^k:=by
 unfold shrI;rw[show min (k:Int).toNat IntKind.u64.bits=k from by show min (k:Int).toNat 64=k;omega];exact Int.fdiv_eq_ediv_of_nonneg _ (Int.le_of_lt (Int.pow_pos (by decide)))
theorem f2o (x:Int) (k:Nat) (hk:k≤63) (h:0≤x) (h':x≤18446744073709551615):andI .u64 x ((2^k-1:Nat):Int)=x % ((2^k:Nat):Int):=by
 obtain ⟨a,rfl⟩:=Int.eq_ofNat_of_zero_le h;have hp:2^k≤2^63:=Nat.pow_le_pow_right (by decide) hk;have h63:(2:Nat)^63=9223372036854775808:=by decide
 unfold andI;have e:(BitVec.ofInt IntKind.u64.bits (a:Int) &&& BitVec.ofInt IntKind.u64.bits ((2^k-1:Nat):Int)).toNat=a % 2^k:=by
  show (BitVec.ofInt 64 (a:Int) &&& BitVec.ofInt 64 ((2^k-1:Nat):Int)).toNat=_;rw[BitVec.toNat_and,BitVec.ofInt_natCast,BitVec.ofInt_natCast,BitVec.toNat_ofNat,BitVec.toNat_ofNat,Nat.mod_eq_of_lt (a:=a) (by omega),Nat.mod_eq_of_lt (a:=2^k-1) (by omega),Nat.and_two_pow_sub_one_eq_mod]
 rw[e];have:a % 2^k<2^k:=Nat.mod_lt _ (Nat.pow_pos (by decide));rw[wu64 (by omega) (by omega)];simp
theorem m0a (a x:Int) (k:Nat) (hk:k≤56) (ha:0≤a) (ha':a<((2^k:Nat):Int)) (hx:0≤x) (hx':x≤255) :
  orI .u64 a (shlI .u64 (IntKind.wrap .u64 x) (k:Int))=a+x*((2^k:Nat):Int):=by
 obtain ⟨a,rfl⟩:=Int.eq_ofNat_of_zero_le ha;obtain ⟨c,rfl⟩:=Int.eq_ofNat_of_zero_le hx;have hp:2^k≤2^56:=Nat.pow_le_pow_right (by decide) hk;have h56:(2:Nat)^56=72057594037927936:=by decide
 have hc:c*2^k≤255*2^k:=Nat.mul_le_mul_right _ (by omega);have e1:shlI .u64 (IntKind.wrap .u64 (c:Int)) (k:Int)=((c*2^k:Nat):Int):=by
  rw[wu64 (by omega) (by omega)];show IntKind.wrap .u64 ((c:Int)*2^(min (k:Int).toNat 64))=_;rw[show min (k:Int).toNat 64=k by omega];have:(c:Int)*2^k=((c*2^k:Nat):Int):=by simp
  rw[this,wu64 (by omega) (by omega)]
 rw[e1];unfold orI;have e2:(BitVec.ofInt IntKind.u64.bits (a:Int) ||| BitVec.ofInt IntKind.u64.bits ((c*2^k:Nat):Int)).toNat=c*2^k+a:=by
  show (BitVec.ofInt 64 (a:Int) ||| BitVec.ofInt 64 ((c*2^k:Nat):Int)).toNat=_;rw[BitVec.toNat_or,BitVec.ofInt_natCast,BitVec.ofInt_natCast,BitVec.toNat_ofNat,BitVec.toNat_ofNat,Nat.mod_eq_of_lt (by omega),Nat.mod_eq_of_lt (by omega)];have:=Nat.two_pow_add_eq_or_of_lt (i:=k) (b:=a) (by omega) c;rw[Nat.mul_comm c (2^k),this,Nat.or_comm]
 rw[e2,wu64 (by omega) (by omega)];simp[Int.add_comm]
theorem or_zero (a b:Int) (ha:0≤a∧a≤18446744073709551615) (hb:0≤b∧b≤18446744073709551615):orI .u64 a b=0↔a=0∧b=0:=by
 obtain ⟨a,rfl⟩:=Int.eq_ofNat_of_zero_le ha.1;obtain ⟨b,rfl⟩:=Int.eq_ofNat_of_zero_le hb.1;unfold orI;have e2:(BitVec.ofInt IntKind.u64.bits (a:Int) ||| BitVec.ofInt IntKind.u64.bits (b:Int)).toNat=a ||| b:=by
  show (BitVec.ofInt 64 (a:Int) ||| BitVec.ofInt 64 (b:Int)).toNat=_;rw[BitVec.toNat_or,BitVec.ofInt_natCast,BitVec.ofInt_natCast,BitVec.toNat_ofNat,BitVec.toNat_ofNat,Nat.mod_eq_of_lt (by omega),Nat.mod_eq_of_lt (by omega)]
 rw[e2];have:a ||| b<2^64:=Nat.or_lt_two_pow (by omega) (by omega)
 rw[wu64 (by omega) (by omega)];have h3:a ||| b=0↔a=0∧b=0:=Nat.or_eq_zero_iff
 omega
theorem f1e (n:Nat) (x:Int):n0f (n+1) x=some (0,x):=f2u n x
theorem m0e (n:Nat) (a:Wd) (o:Int):s0s (n+1) a o=some (if o=0 then (a,0) else ((0,0),1)):=by
 rw[u1f];by_cases h:o=0<;>simp[h]
theorem d2m (n:Nat) {a b:Wd} (ha:WdOk a) (hb:WdOk b):e1j (n+2) a b=some (addW a b):=by
 obtain ⟨h1,h2⟩:=ha;obtain ⟨h3,h4⟩:=hb;obtain ⟨ah,al⟩:=a;obtain ⟨bh,bl⟩:=b;simp only at h1 h2 h3 h4;rw[z1e];simp only[f1m,tfd,if_pos h2.1,if_pos h4.1,if_pos h1.1,if_pos h3.1,tft,if_pos (show (0:Int)≤(al+bl+0) / 18446744073709551616 by omega),if_pos (show (al+bl+0) / 18446744073709551616≤(1:Int) by omega),m0e,obs];unfold addW;have ea:wv (ah,al)=ah*18446744073709551616+al:=rfl;have eb:wv (bh,bl)=bh*18446744073709551616+bl:=rfl;generalize wv (ah,al)=va at *
 generalize wv (bh,bl)=vb at *
 by_cases hc:va+vb<340282366920938463463374607431768211456
 ·rw[if_pos hc,if_pos (by omega)];simp only[mkW];congr 2;exact Prod.ext (by simp only;omega) (by simp only;omega)
 ·rw[if_neg hc,if_neg (by omega)]
theorem u1g (n:Nat) {a b:Wd} (ha:WdOk a) (hb:WdOk b):n0g (n+1) a b=some (decide (wv a<wv b)):=by
 obtain ⟨h1,h2⟩:=ha;obtain ⟨h3,h4⟩:=hb;obtain ⟨ah,al⟩:=a;obtain ⟨bh,bl⟩:=b;simp only at h1 h2 h3 h4;rw[u1h];have ea:wv (ah,al)=ah*18446744073709551616+al:=rfl;have eb:wv (bh,bl)=bh*18446744073709551616+bl:=rfl;generalize wv (ah,al)=va at *
 generalize wv (bh,bl)=vb at *
 simp only[tfd];by_cases c1:ah<bh
 ·rw[if_pos c1,decide_eq_true (by omega)]
 ·rw[if_neg c1];by_cases c2:ah=bh
  ·rw[if_pos c2];congr 1;exact decide_eq_decide.2 (by omega)
  ·rw[if_neg c2,decide_eq_false (by omega)]
theorem mul64 (n:Nat) (x y:Int) (hx:0≤x∧x≤18446744073709551615) (hy:0≤y∧y≤18446744073709551615):j0r (n+1) x y=some (x*y / 18446744073709551616,x*y % 18446744073709551616):=by
 rw[a1o];have sh:∀z:Int,shrI .u64 z (32:Int)=z / 4294967296:=fun z=>p0h z 32 (by decide)
 have an:∀z:Int,0≤z→z≤18446744073709551615→andI .u64 z (4294967295:Int)=z % 4294967296:=fun z h h'=>f2o z 32 (by decide) h h'
 rw[an x hx.1 hx.2,an y hy.1 hy.2];simp only[sh];have b1:0≤x / 4294967296∧x / 4294967296≤4294967295:=by omega
 have b2:0≤y / 4294967296∧y / 4294967296≤4294967295:=by omega
 have b3:0≤x % 4294967296∧x % 4294967296≤4294967295:=by omega
 have b4:0≤y % 4294967296∧y % 4294967296≤4294967295:=by omega
 have ex:x=x / 4294967296*4294967296+x % 4294967296:=by omega
 have ey:y=y / 4294967296*4294967296+y % 4294967296:=by omega
 generalize hx1:x / 4294967296=x1 at *
 generalize hx0:x % 4294967296=x0 at *
 generalize hy1:y / 4294967296=y1 at *
 generalize hy0:y % 4294967296=y0 at *
 have bound:∀ {u v:Int},0≤u∧u≤4294967295→0≤v∧v≤4294967295→0≤u*v∧u*v≤18446744065119617025:=fun {u v} hu hv =>
  ⟨Int.mul_nonneg hu.1 hv.1,Int.le_trans (Int.mul_le_mul hu.2 hv.2 hv.1 (by decide)) (by decide)⟩
 have p11:=bound b1 b2;have p10:=bound b1 b4;have p01:=bound b3 b2;have p00:=bound b3 b4;have exy:x*y=x1*y1*18446744073709551616+(x1*y0+x0*y1)*4294967296+x0*y0:=by
  rw[ex,ey];simp only[Int.add_mul,Int.mul_add];have q1:x1*4294967296*(y1*4294967296)=x1*y1*18446744073709551616:=by
   rw[Int.mul_assoc,Int.mul_left_comm 4294967296 y1,←Int.mul_assoc];rfl
  have q2:x0*(y1*4294967296)=x0*y1*4294967296:=by rw[Int.mul_assoc]
  have q3:x1*4294967296*y0=x1*y0*4294967296:=by rw[Int.mul_assoc,Int.mul_comm 4294967296 y0,←Int.mul_assoc]
  rw[q1,q2,q3];omega
 rw[exy];generalize x1*y1=a11 at *
 generalize x1*y0=a10 at *
 generalize x0*y1=a01 at *
 generalize x0*y0=a00 at *
 rw[wu64 (x:=a00) (by omega) (by omega),wu64 (x:=a11) (by omega) (by omega),wu64 (x:=a10) (by omega) (by omega),wu64 (x:=a01) (by omega) (by omega)];rw[wu64 (x:=a10+a00 / 4294967296) (by omega) (by omega),an _ (by omega) (by omega)];rw[wu64 (x:=a11+(a10+a00 / 4294967296) / 4294967296) (by omega) (by omega),wu64 (x:=(a10+a00 / 4294967296) % 4294967296+a01) (by omega) (by omega),wu64 (by omega) (by omega)];have wm:∀z:Int,IntKind.wrap .u64 z=z % 18446744073709551616:=fun z=>IntKind.wrap_u64 z
 rw[wm];congr 2;omega
def c1z (a:Wd) (k:Int):Wd×Int:=if wv a*k<340282366920938463463374607431768211456 then (mkW (wv a*k),0) else ((0,0),1)
theorem n1z (n:Nat) {a:Wd} (ha:WdOk a) (k:Int) (hk:0≤k∧k≤18446744073709551615):u0x (n+2) a k=some (c1z a k):=by
 obtain ⟨h1,h2⟩:=ha;obtain ⟨ah,al⟩:=a;simp only at h1 h2;rw[p1n,mul64 n al k h2 hk,mul64 n ah k h1 hk];simp only[obs];have bd:∀ {u:Int},0≤u∧u≤18446744073709551615→0≤u*k∧u*k≤340282366920938463426481119284349108225:=fun {u} hu =>
  ⟨Int.mul_nonneg hu.1 hk.1,Int.le_trans (Int.mul_le_mul hu.2 hk.2 hk.1 (by decide)) (by decide)⟩
 have b1:=bd h1;have b2:=bd h2;unfold c1z;have e:wv (ah,al)*k=ah*k*18446744073709551616+al*k:=by
  simp only[wv];rw[Int.add_mul,Int.mul_assoc,Int.mul_comm 18446744073709551616 k,←Int.mul_assoc]
 rw[e];generalize ah*k=p at *
 generalize al*k=q at *
 simp only[f1m,tfd,tft,if_pos (show (0:Int)≤p % 18446744073709551616 by omega),if_pos (show (0:Int)≤q / 18446744073709551616 by omega),m0e,obs];have ho:=or_zero (p / 18446744073709551616) ((p % 18446744073709551616+q / 18446744073709551616+0) / 18446744073709551616) (by omega) (by omega);by_cases hc:p*18446744073709551616+q<340282366920938463463374607431768211456
 ·rw[if_pos hc,if_pos (ho.2 (by omega))];simp only[mkW];congr 2;exact Prod.ext (by simp only;omega) (by simp only;omega)
 ·rw[if_neg hc,if_neg (fun h=>by have:=ho.1 h;omega)]
abbrev B16:=(Int×(Int×(Int×(Int×(Int×(Int×(Int×(Int×(Int×(Int×(Int×(Int×(Int×(Int×(Int×Int)))))))))))))))
def Byt (x:Int):Prop:=0≤x∧x≤255
theorem bytes8 (v:Int) (h:0≤v∧v≤18446744073709551615):∃x0 x1 x2 x3 x4 x5 x6 x7:Int,(Byt x0∧Byt x1∧Byt x2∧Byt x3∧Byt x4∧Byt x5∧Byt x6∧Byt x7)∧v=x0+x1*256+x2*65536+x3*16777216+x4*4294967296+x5*1099511627776+x6*281474976710656+x7*72057594037927936 ∧
  v % 256=x0∧v / 256 % 256=x1∧v / 65536 % 256=x2∧v / 16777216 % 256=x3∧v / 4294967296 % 256=x4∧v / 1099511627776 % 256=x5∧v / 281474976710656 % 256=x6∧v / 72057594037927936 % 256=x7:=by
 refine ⟨v % 256,v / 256 % 256,v / 65536 % 256,v / 16777216 % 256,v / 4294967296 % 256,v / 1099511627776 % 256,v / 281474976710656 % 256,v / 72057594037927936 % 256,?_,?_,rfl,rfl,rfl,rfl,rfl,rfl,rfl,rfl⟩
 ·simp only[Byt];omega
 ·have e2:v / 65536=v / 256 / 256:=by omega
  have e3:v / 16777216=v / 65536 / 256:=by omega
  have e4:v / 4294967296=v / 16777216 / 256:=by omega
  have e5:v / 1099511627776=v / 4294967296 / 256:=by omega
  have e6:v / 281474976710656=v / 1099511627776 / 256:=by omega
  have e7:v / 72057594037927936=v / 281474976710656 / 256:=by omega
  have e8:v / 72057594037927936 / 256=0:=by omega
  omega
theorem q0i (n:Nat) {a:Wd} (ha:WdOk a):∃x0 x1 x2 x3 x4 x5 x6 x7 x8 x9 x10 x11 x12 x13 x14 x15:Int,i0b (n+1) a=some (x0,x1,x2,x3,x4,x5,x6,x7,x8,x9,x10,x11,x12,x13,x14,x15)∧(Byt x0∧Byt x1∧Byt x2∧Byt x3∧Byt x4∧Byt x5∧Byt x6∧Byt x7∧Byt x8∧Byt x9∧Byt x10∧Byt x11∧Byt x12∧Byt x13∧Byt x14∧Byt x15)∧a.2=x0+x1*256+x2*65536+x3*16777216+x4*4294967296+x5*1099511627776+x6*281474976710656+x7*72057594037927936∧a.1=x8+x9*256+x10*65536+x11*16777216+x12*4294967296+x13*1099511627776+x14*281474976710656+x15*72057594037927936:=by
 obtain ⟨x0,x1,x2,x3,x4,x5,x6,x7,⟨b0,b1,b2,b3,b4,b5,b6,b7⟩,hv,e0,e1,e2,e3,e4,e5,e6,e7⟩:=bytes8 a.2 ha.lo;obtain ⟨x8,x9,x10,x11,x12,x13,x14,x15,⟨b8,b9,b10,b11,b12,b13,b14,b15⟩,hv',e8,e9,e10,e11,e12,e13,e14,e15⟩:=bytes8 a.1 ha.hi;refine ⟨x0,x1,x2,x3,x4,x5,x6,x7,x8,x9,x10,x11,x12,x13,x14,x15,?_,⟨b0,b1,b2,b3,b4,b5,b6,b7,b8,b9,b10,b11,b12,b13,b14,b15⟩,hv,hv'⟩;have an:∀z:Int,0≤z→z≤18446744073709551615→andI .u64 z (255:Int)=z % 256:=fun z h h'=>f2o z 8 (by decide) h h'
 have s0:∀z:Int,shrI .u64 z (0:Int)=z / 1:=fun z=>p0h z 0 (by decide)
 have s1:∀z:Int,shrI .u64 z (8:Int)=z / 256:=fun z=>p0h z 8 (by decide)
 have s2:∀z:Int,shrI .u64 z (16:Int)=z / 65536:=fun z=>p0h z 16 (by decide)
 have s3:∀z:Int,shrI .u64 z (24:Int)=z / 16777216:=fun z=>p0h z 24 (by decide)
 have s4:∀z:Int,shrI .u64 z (32:Int)=z / 4294967296:=fun z=>p0h z 32 (by decide)
 have s5:∀z:Int,shrI .u64 z (40:Int)=z / 1099511627776:=fun z=>p0h z 40 (by decide)
 have s6:∀z:Int,shrI .u64 z (48:Int)=z / 281474976710656:=fun z=>p0h z 48 (by decide)
 have s7:∀z:Int,shrI .u64 z (56:Int)=z / 72057594037927936:=fun z=>p0h z 56 (by decide)
 have h1:=ha.lo;have h2:=ha.hi;rw[w1s];simp only[s0,s1,s2,s3,s4,s5,s6,s7,Int.ediv_one];rw[an (a.2) (by omega) (by omega),e0,w64 (x:=x0) (by have:=b0.1;omega) (by have:=b0.2;omega)];rw[an (a.2 / 256) (by omega) (by omega),e1,w64 (x:=x1) (by have:=b1.1;omega) (by have:=b1.2;omega)];rw[an (a.2 / 65536) (by omega) (by omega),e2,w64 (x:=x2) (by have:=b2.1;omega) (by have:=b2.2;omega)];rw[an (a.2 / 16777216) (by omega) (by omega),e3,w64 (x:=x3) (by have:=b3.1;omega) (by have:=b3.2;omega)]
 rw[an (a.2 / 4294967296) (by omega) (by omega),e4,w64 (x:=x4) (by have:=b4.1;omega) (by have:=b4.2;omega)];rw[an (a.2 / 1099511627776) (by omega) (by omega),e5,w64 (x:=x5) (by have:=b5.1;omega) (by have:=b5.2;omega)];rw[an (a.2 / 281474976710656) (by omega) (by omega),e6,w64 (x:=x6) (by have:=b6.1;omega) (by have:=b6.2;omega)];rw[an (a.2 / 72057594037927936) (by omega) (by omega),e7,w64 (x:=x7) (by have:=b7.1;omega) (by have:=b7.2;omega)];rw[an (a.1) (by omega) (by omega),e8,w64 (x:=x8) (by have:=b8.1;omega) (by have:=b8.2;omega)]
 rw[an (a.1 / 256) (by omega) (by omega),e9,w64 (x:=x9) (by have:=b9.1;omega) (by have:=b9.2;omega)];rw[an (a.1 / 65536) (by omega) (by omega),e10,w64 (x:=x10) (by have:=b10.1;omega) (by have:=b10.2;omega)];rw[an (a.1 / 16777216) (by omega) (by omega),e11,w64 (x:=x11) (by have:=b11.1;omega) (by have:=b11.2;omega)];rw[an (a.1 / 4294967296) (by omega) (by omega),e12,w64 (x:=x12) (by have:=b12.1;omega) (by have:=b12.2;omega)];rw[an (a.1 / 1099511627776) (by omega) (by omega),e13,w64 (x:=x13) (by have:=b13.1;omega) (by have:=b13.2;omega)]
 rw[an (a.1 / 281474976710656) (by omega) (by omega),e14,w64 (x:=x14) (by have:=b14.1;omega) (by have:=b14.2;omega)];rw[an (a.1 / 72057594037927936) (by omega) (by omega),e15,w64 (x:=x15) (by have:=b15.1;omega) (by have:=b15.2;omega)]
theorem r01_of (n:Nat) {x0 x1 x2 x3 x4 x5 x6 x7 x8 x9 x10 x11 x12 x13 x14 x15:Int} (b0:Byt x0) (b1:Byt x1) (b2:Byt x2) (b3:Byt x3) (b4:Byt x4) (b5:Byt x5) (b6:Byt x6) (b7:Byt x7) (b8:Byt x8) (b9:Byt x9) (b10:Byt x10) (b11:Byt x11) (b12:Byt x12) (b13:Byt x13) (b14:Byt x14) (b15:Byt x15):d1j (n+1) (x0,x1,x2,x3,x4,x5,x6,x7,x8,x9,x10,x11,x12,x13,x14,x15)=some (x8+x9*256+x10*65536+x11*16777216+x12*4294967296+x13*1099511627776+x14*281474976710656+x15*72057594037927936,x0+x1*256+x2*65536+x3*16777216+x4*4294967296+x5*1099511627776+x6*281474976710656+x7*72057594037927936):=by
 rw[l2s];simp only[Byt] at *
 have q0:orI .u64 ((0:Int)) (shlI .u64 (IntKind.wrap .u64 x0) (0:Int))=(0:Int)+x0*1:=m0a _ _ 0 (by decide) (by omega) (by show _<(1:Int);omega) b0.1 b0.2;have q1:orI .u64 ((0:Int)+x0*1) (shlI .u64 (IntKind.wrap .u64 x1) (8:Int))=(0:Int)+x0*1+x1*256:=m0a _ _ 8 (by decide) (by omega) (by show _<(256:Int);omega) b1.1 b1.2;have q2:orI .u64 ((0:Int)+x0*1+x1*256) (shlI .u64 (IntKind.wrap .u64 x2) (16:Int))=(0:Int)+x0*1+x1*256+x2*65536:=m0a _ _ 16 (by decide) (by omega) (by show _<(65536:Int);omega) b2.1 b2.2
 have q3:orI .u64 ((0:Int)+x0*1+x1*256+x2*65536) (shlI .u64 (IntKind.wrap .u64 x3) (24:Int))=(0:Int)+x0*1+x1*256+x2*65536+x3*16777216:=m0a _ _ 24 (by decide) (by omega) (by show _<(16777216:Int);omega) b3.1 b3.2;have q4:orI .u64 ((0:Int)+x0*1+x1*256+x2*65536+x3*16777216) (shlI .u64 (IntKind.wrap .u64 x4) (32:Int))=(0:Int)+x0*1+x1*256+x2*65536+x3*16777216+x4*4294967296:=m0a _ _ 32 (by decide) (by omega) (by show _<(4294967296:Int);omega) b4.1 b4.2
 have q5:orI .u64 ((0:Int)+x0*1+x1*256+x2*65536+x3*16777216+x4*4294967296) (shlI .u64 (IntKind.wrap .u64 x5) (40:Int))=(0:Int)+x0*1+x1*256+x2*65536+x3*16777216+x4*4294967296+x5*1099511627776:=m0a _ _ 40 (by decide) (by omega) (by show _<(1099511627776:Int);omega) b5.1 b5.2;have q6:orI .u64 ((0:Int)+x0*1+x1*256+x2*65536+x3*16777216+x4*4294967296+x5*1099511627776) (shlI .u64 (IntKind.wrap .u64 x6) (48:Int))=(0:Int)+x0*1+x1*256+x2*65536+x3*16777216+x4*4294967296+x5*1099511627776+x6*281474976710656:=m0a _ _ 48 (by decide) (by omega) (by show _<(281474976710656:Int);omega) b6.1 b6.2
 have q7:orI .u64 ((0:Int)+x0*1+x1*256+x2*65536+x3*16777216+x4*4294967296+x5*1099511627776+x6*281474976710656) (shlI .u64 (IntKind.wrap .u64 x7) (56:Int))=(0:Int)+x0*1+x1*256+x2*65536+x3*16777216+x4*4294967296+x5*1099511627776+x6*281474976710656+x7*72057594037927936:=m0a _ _ 56 (by decide) (by omega) (by show _<(72057594037927936:Int);omega) b7.1 b7.2;have q8:orI .u64 ((0:Int)) (shlI .u64 (IntKind.wrap .u64 x8) (0:Int))=(0:Int)+x8*1:=m0a _ _ 0 (by decide) (by omega) (by show _<(1:Int);omega) b8.1 b8.2
 have q9:orI .u64 ((0:Int)+x8*1) (shlI .u64 (IntKind.wrap .u64 x9) (8:Int))=(0:Int)+x8*1+x9*256:=m0a _ _ 8 (by decide) (by omega) (by show _<(256:Int);omega) b9.1 b9.2;have q10:orI .u64 ((0:Int)+x8*1+x9*256) (shlI .u64 (IntKind.wrap .u64 x10) (16:Int))=(0:Int)+x8*1+x9*256+x10*65536:=m0a _ _ 16 (by decide) (by omega) (by show _<(65536:Int);omega) b10.1 b10.2;have q11:orI .u64 ((0:Int)+x8*1+x9*256+x10*65536) (shlI .u64 (IntKind.wrap .u64 x11) (24:Int))=(0:Int)+x8*1+x9*256+x10*65536+x11*16777216:=m0a _ _ 24 (by decide) (by omega) (by show _<(16777216:Int);omega) b11.1 b11.2
 have q12:orI .u64 ((0:Int)+x8*1+x9*256+x10*65536+x11*16777216) (shlI .u64 (IntKind.wrap .u64 x12) (32:Int))=(0:Int)+x8*1+x9*256+x10*65536+x11*16777216+x12*4294967296:=m0a _ _ 32 (by decide) (by omega) (by show _<(4294967296:Int);omega) b12.1 b12.2;have q13:orI .u64 ((0:Int)+x8*1+x9*256+x10*65536+x11*16777216+x12*4294967296) (shlI .u64 (IntKind.wrap .u64 x13) (40:Int))=(0:Int)+x8*1+x9*256+x10*65536+x11*16777216+x12*4294967296+x13*1099511627776:=m0a _ _ 40 (by decide) (by omega) (by show _<(1099511627776:Int);omega) b13.1 b13.2
 have q14:orI .u64 ((0:Int)+x8*1+x9*256+x10*65536+x11*16777216+x12*4294967296+x13*1099511627776) (shlI .u64 (IntKind.wrap .u64 x14) (48:Int))=(0:Int)+x8*1+x9*256+x10*65536+x11*16777216+x12*4294967296+x13*1099511627776+x14*281474976710656:=m0a _ _ 48 (by decide) (by omega) (by show _<(281474976710656:Int);omega) b14.1 b14.2
 have q15:orI .u64 ((0:Int)+x8*1+x9*256+x10*65536+x11*16777216+x12*4294967296+x13*1099511627776+x14*281474976710656) (shlI .u64 (IntKind.wrap .u64 x15) (56:Int))=(0:Int)+x8*1+x9*256+x10*65536+x11*16777216+x12*4294967296+x13*1099511627776+x14*281474976710656+x15*72057594037927936:=m0a _ _ 56 (by decide) (by omega) (by show _<(72057594037927936:Int);omega) b15.1 b15.2;rw[q8,q9,q10,q11,q12,q13,q14,q15,q0,q1,q2,q3,q4,q5,q6,q7];congr 2
 ·omega
 ·omega
theorem r1s (n:Nat) {a b:Wd} (ha:WdOk a) (hb:WdOk b):j0o (n+2) a b=some (decide (wv a<wv b)):=by
 obtain ⟨x0,x1,x2,x3,x4,x5,x6,x7,x8,x9,x10,x11,x12,x13,x14,x15,hx,⟨b0,b1,b2,b3,b4,b5,b6,b7,b8,b9,b10,b11,b12,b13,b14,b15⟩,va,va'⟩:=q0i n ha;obtain ⟨y0,y1,y2,y3,y4,y5,y6,y7,y8,y9,y10,y11,y12,y13,y14,y15,hy,⟨d0,d1,d2,d3,d4,d5,d6,d7,d8,d9,d10,d11,d12,d13,d14,d15⟩,vb,vb'⟩:=q0i n hb;rw[b2z,hx,hy];simp only[obs,tfn,tfd];simp only[Byt] at *
 have ea:wv a=a.1*18446744073709551616+a.2:=rfl;have eb:wv b=b.1*18446744073709551616+b.2:=rfl;rw[va,va'] at ea;rw[vb,vb'] at eb;clear va va' vb vb' hx hy ha hb;generalize wv a=va at *
 generalize wv b=vb at *
 by_cases c15:x15=y15
 case neg=>rw[if_neg c15];congr 1;exact decide_eq_decide.2 (by omega)
 rw[if_pos c15];subst c15;by_cases c14:x14=y14
 case neg=>rw[if_neg c14];congr 1;exact decide_eq_decide.2 (by omega)
 rw[if_pos c14];subst c14;by_cases c13:x13=y13
 case neg=>rw[if_neg c13];congr 1;exact decide_eq_decide.2 (by omega)
 rw[if_pos c13];subst c13;by_cases c12:x12=y12
 case neg=>rw[if_neg c12];congr 1;exact decide_eq_decide.2 (by omega)
 rw[if_pos c12];subst c12;by_cases c11:x11=y11
 case neg=>rw[if_neg c11];congr 1;exact decide_eq_decide.2 (by omega)
 rw[if_pos c11];subst c11;by_cases c10:x10=y10
 case neg=>rw[if_neg c10];congr 1;exact decide_eq_decide.2 (by omega)
 rw[if_pos c10];subst c10;by_cases c9:x9=y9
 case neg=>rw[if_neg c9];congr 1;exact decide_eq_decide.2 (by omega)
 rw[if_pos c9];subst c9;by_cases c8:x8=y8
 case neg=>rw[if_neg c8];congr 1;exact decide_eq_decide.2 (by omega)
 rw[if_pos c8];subst c8;by_cases c7:x7=y7
 case neg=>rw[if_neg c7];congr 1;exact decide_eq_decide.2 (by omega)
 rw[if_pos c7];subst c7;by_cases c6:x6=y6
 case neg=>rw[if_neg c6];congr 1;exact decide_eq_decide.2 (by omega)
 rw[if_pos c6];subst c6;by_cases c5:x5=y5
 case neg=>rw[if_neg c5];congr 1;exact decide_eq_decide.2 (by omega)
 rw[if_pos c5];subst c5;by_cases c4:x4=y4
 case neg=>rw[if_neg c4];congr 1;exact decide_eq_decide.2 (by omega)
 rw[if_pos c4];subst c4;by_cases c3:x3=y3
 case neg=>rw[if_neg c3];congr 1;exact decide_eq_decide.2 (by omega)
 rw[if_pos c3];subst c3;by_cases c2:x2=y2
 case neg=>rw[if_neg c2];congr 1;exact decide_eq_decide.2 (by omega)
 rw[if_pos c2];subst c2;by_cases c1:x1=y1
 case neg=>rw[if_neg c1];congr 1;exact decide_eq_decide.2 (by omega)
 rw[if_pos c1];subst c1;by_cases c0:x0=y0
 case neg=>rw[if_neg c0];congr 1;exact decide_eq_decide.2 (by omega)
 rw[if_pos c0];subst c0;rw[decide_eq_false (by omega)]
def cN (x y m:Int):Int:=IntKind.wrap .i64 (Int.tdiv (IntKind.wrap .i64 ((IntKind.wrap .i64 (x+y))+m)) (256:Int))
def dN (x y m:Int):Int:=Int.tmod (IntKind.wrap .i64 ((IntKind.wrap .i64 (x+y))+m)) (256:Int)
theorem digit (x y m:Int) (hx:Byt x) (hy:Byt y) (hm:0≤m∧m≤1):(0≤cN x y m∧cN x y m≤1)∧Byt (dN x y m)∧x+y+m=256*cN x y m+dN x y m:=by
 obtain ⟨h1,h2⟩:=hx;obtain ⟨h3,h4⟩:=hy;unfold cN dN Byt;rw[w64 (x:=x+y) (by omega) (by omega),w64 (x:=x+y+m) (by omega) (by omega),l0l (by omega),g0d (by omega),w64 (by omega) (by omega)];omega
theorem b1u (n:Nat) {a b:Wd} (ha:WdOk a) (hb:WdOk b):l0o (n+2) a b=some (addW a b):=by
 obtain ⟨x0,x1,x2,x3,x4,x5,x6,x7,x8,x9,x10,x11,x12,x13,x14,x15,hx,⟨b0,b1,b2,b3,b4,b5,b6,b7,b8,b9,b10,b11,b12,b13,b14,b15⟩,va,va'⟩:=q0i n ha;obtain ⟨y0,y1,y2,y3,y4,y5,y6,y7,y8,y9,y10,y11,y12,y13,y14,y15,hy,⟨d0,d1,d2,d3,d4,d5,d6,d7,d8,d9,d10,d11,d12,d13,d14,d15⟩,vb,vb'⟩:=q0i n hb;rw[i2a,hx,hy];simp only[obs]
 show tif (decide ((0:Int)<(cN x15 y15 (cN x14 y14 (cN x13 y13 (cN x12 y12 (cN x11 y11 (cN x10 y10 (cN x9 y9 (cN x8 y8 (cN x7 y7 (cN x6 y6 (cN x5 y5 (cN x4 y4 (cN x3 y3 (cN x2 y2 (cN x1 y1 (cN x0 y0 (0:Int))))))))))))))))))) (some (((0:Int),(0:Int)),(1:Int))) (a0b (d1j (n+1) (dN x0 y0 (0:Int),dN x1 y1 (cN x0 y0 (0:Int)),dN x2 y2 (cN x1 y1 (cN x0 y0 (0:Int))),dN x3 y3 (cN x2 y2 (cN x1 y1 (cN x0 y0 (0:Int)))),dN x4 y4 (cN x3 y3 (cN x2 y2 (cN x1 y1 (cN x0 y0 (0:Int))))),dN x5 y5 (cN x4 y4 (cN x3 y3 (cN x2 y2 (cN x1 y1 (cN x0 y0 (0:Int)))))),dN x6 y6 (cN x5 y5 (cN x4 y4 (cN x3 y3 (cN x2 y2 (cN x1 y1 (cN x0 y0 (0:Int))))))),dN x7 y7 (cN x6 y6 (cN x5 y5 (cN x4 y4 (cN x3 y3 (cN x2 y2 (cN x1 y1 (cN x0 y0 (0:Int)))))))),dN x8 y8 (cN x7 y7 (cN x6 y6 (cN x5 y5 (cN x4 y4 (cN x3 y3 (cN x2 y2 (cN x1 y1 (cN x0 y0 (0:Int))))))))),dN x9 y9 (cN x8 y8 (cN x7 y7 (cN x6 y6 (cN x5 y5 (cN x4 y4 (cN x3 y3 (cN x2 y2 (cN x1 y1 (cN x0 y0 (0:Int)))))))))),dN x10 y10 (cN x9 y9 (cN x8 y8 (cN x7 y7 (cN x6 y6 (cN x5 y5 (cN x4 y4 (cN x3 y3 (cN x2 y2 (cN x1 y1 (cN x0 y0 (0:Int))))))))))),dN x11 y11 (cN x10 y10 (cN x9 y9 (cN x8 y8 (cN x7 y7 (cN x6 y6 (cN x5 y5 (cN x4 y4 (cN x3 y3 (cN x2 y2 (cN x1 y1 (cN x0 y0 (0:Int)))))))))))),dN x12 y12 (cN x11 y11 (cN x10 y10 (cN x9 y9 (cN x8 y8 (cN x7 y7 (cN x6 y6 (cN x5 y5 (cN x4 y4 (cN x3 y3 (cN x2 y2 (cN x1 y1 (cN x0 y0 (0:Int))))))))))))),dN x13 y13 (cN x12 y12 (cN x11 y11 (cN x10 y10 (cN x9 y9 (cN x8 y8 (cN x7 y7 (cN x6 y6 (cN x5 y5 (cN x4 y4 (cN x3 y3 (cN x2 y2 (cN x1 y1 (cN x0 y0 (0:Int)))))))))))))),dN x14 y14 (cN x13 y13 (cN x12 y12 (cN x11 y11 (cN x10 y10 (cN x9 y9 (cN x8 y8 (cN x7 y7 (cN x6 y6 (cN x5 y5 (cN x4 y4 (cN x3 y3 (cN x2 y2 (cN x1 y1 (cN x0 y0 (0:Int))))))))))))))),dN x15 y15 (cN x14 y14 (cN x13 y13 (cN x12 y12 (cN x11 y11 (cN x10 y10 (cN x9 y9 (cN x8 y8 (cN x7 y7 (cN x6 y6 (cN x5 y5 (cN x4 y4 (cN x3 y3 (cN x2 y2 (cN x1 y1 (cN x0 y0 (0:Int)))))))))))))))))) fun r2=>some (r2,(0:Int)))=_
 obtain ⟨k0,g0,z0⟩:=digit x0 y0 (0:Int) b0 d0 (by omega);generalize cN x0 y0 (0:Int)=c0 at *
 generalize dN x0 y0 (0:Int)=t0 at *
 obtain ⟨k1,g1,z1⟩:=digit x1 y1 c0 b1 d1 (by omega);generalize cN x1 y1 c0=c1 at *
 generalize dN x1 y1 c0=t1 at *
 obtain ⟨k2,g2,z2⟩:=digit x2 y2 c1 b2 d2 (by omega);generalize cN x2 y2 c1=c2 at *
 generalize dN x2 y2 c1=t2 at *
 obtain ⟨k3,g3,z3⟩:=digit x3 y3 c2 b3 d3 (by omega);generalize cN x3 y3 c2=c3 at *
 generalize dN x3 y3 c2=t3 at *
 obtain ⟨k4,g4,z4⟩:=digit x4 y4 c3 b4 d4 (by omega);generalize cN x4 y4 c3=c4 at *
 generalize dN x4 y4 c3=t4 at *
 obtain ⟨k5,g5,z5⟩:=digit x5 y5 c4 b5 d5 (by omega);generalize cN x5 y5 c4=c5 at *
 generalize dN x5 y5 c4=t5 at *
 obtain ⟨k6,g6,z6⟩:=digit x6 y6 c5 b6 d6 (by omega);generalize cN x6 y6 c5=c6 at *
 generalize dN x6 y6 c5=t6 at *
 obtain ⟨k7,g7,z7⟩:=digit x7 y7 c6 b7 d7 (by omega);generalize cN x7 y7 c6=c7 at *
 generalize dN x7 y7 c6=t7 at *
 obtain ⟨k8,g8,z8⟩:=digit x8 y8 c7 b8 d8 (by omega);generalize cN x8 y8 c7=c8 at *
 generalize dN x8 y8 c7=t8 at *
 obtain ⟨k9,g9,z9⟩:=digit x9 y9 c8 b9 d9 (by omega);generalize cN x9 y9 c8=c9 at *
 generalize dN x9 y9 c8=t9 at *
 obtain ⟨k10,g10,z10⟩:=digit x10 y10 c9 b10 d10 (by omega);generalize cN x10 y10 c9=c10 at *
 generalize dN x10 y10 c9=t10 at *
 obtain ⟨k11,g11,z11⟩:=digit x11 y11 c10 b11 d11 (by omega);generalize cN x11 y11 c10=c11 at *
 generalize dN x11 y11 c10=t11 at *
 obtain ⟨k12,g12,z12⟩:=digit x12 y12 c11 b12 d12 (by omega);generalize cN x12 y12 c11=c12 at *
 generalize dN x12 y12 c11=t12 at *
 obtain ⟨k13,g13,z13⟩:=digit x13 y13 c12 b13 d13 (by omega);generalize cN x13 y13 c12=c13 at *
 generalize dN x13 y13 c12=t13 at *
 obtain ⟨k14,g14,z14⟩:=digit x14 y14 c13 b14 d14 (by omega);generalize cN x14 y14 c13=c14 at *
 generalize dN x14 y14 c13=t14 at *
 obtain ⟨k15,g15,z15⟩:=digit x15 y15 c14 b15 d15 (by omega);generalize cN x15 y15 c14=c15 at *
 generalize dN x15 y15 c14=t15 at *
 rw[r01_of n g0 g1 g2 g3 g4 g5 g6 g7 g8 g9 g10 g11 g12 g13 g14 g15];simp only[tfd,obs];have e:wv a+wv b=c15*340282366920938463463374607431768211456+((t8+t9*256+t10*65536+t11*16777216+t12*4294967296+t13*1099511627776+t14*281474976710656+t15*72057594037927936)*18446744073709551616+(t0+t1*256+t2*65536+t3*16777216+t4*4294967296+t5*1099511627776+t6*281474976710656+t7*72057594037927936)):=by
  simp only[wv];omega
 have r1:0≤t8+t9*256+t10*65536+t11*16777216+t12*4294967296+t13*1099511627776+t14*281474976710656+t15*72057594037927936∧t8+t9*256+t10*65536+t11*16777216+t12*4294967296+t13*1099511627776+t14*281474976710656+t15*72057594037927936≤18446744073709551615:=by simp only[Byt] at *;omega
 have r2:0≤t0+t1*256+t2*65536+t3*16777216+t4*4294967296+t5*1099511627776+t6*281474976710656+t7*72057594037927936∧t0+t1*256+t2*65536+t3*16777216+t4*4294967296+t5*1099511627776+t6*281474976710656+t7*72057594037927936≤18446744073709551615:=by simp only[Byt] at *;omega
 generalize t8+t9*256+t10*65536+t11*16777216+t12*4294967296+t13*1099511627776+t14*281474976710656+t15*72057594037927936=hi at *
 generalize t0+t1*256+t2*65536+t3*16777216+t4*4294967296+t5*1099511627776+t6*281474976710656+t7*72057594037927936=lo at *
 clear va va' vb vb';unfold addW;by_cases hc:(0:Int)<c15
 ·rw[if_pos hc,if_neg (by omega)]
 ·rw[if_neg hc,if_pos (by omega)];simp only[mkW];refine congrArg (fun z=>some (z,(0:Int))) (Prod.ext ?_ ?_)
  ·simp only;omega
  ·simp only;omega
theorem b0g {α:Type} {l pre rest:List α} {x:α} {i:Int} (h:l=pre++x::rest) (hi:i=pre.length):at? l i=some x:=by
 subst h hi;simp[at?]
theorem idx {α:Type} {l pre rest:List α} {x:α} {i len:Int} (h:l=pre++x::rest) (hi:i=pre.length) (hn:len=l.length):i<len:=by
 have:=congrArg List.length h;simp at this;omega
theorem idxe {α:Type} {l pre:List α} {i len:Int} (h:l=pre++[]) (hi:i=pre.length) (hn:len=l.length):¬(i<len):=by
 have:=congrArg List.length h;simp at this;omega
theorem idxw {α:Type} {l pre rest:List α} {x:α} {i:Int} (h:l=pre++x::rest) (hi:i=pre.length) (hL:l.length≤1000000000000):IntKind.wrap .i64 (i+1)=i+1:=by
 have:=congrArg List.length h;simp at this;rw[w64 (by omega) (by omega)]
theorem idxs {α:Type} {pre:List α} {x:α} {i:Int} (hi:i=pre.length):i+1=((pre++[x]).length:Int):=by simp;omega
theorem idxl {α:Type} {l pre rest:List α} {x:α} (h:l=pre++x::rest):l=(pre++[x])++rest:=by rw[h];simp
theorem evEq (a b:Ev):((decide (a.1=b.1))&&((decide (a.2.1=b.2.1))&&((decide (a.2.2.1=b.2.2.1))&&(a.2.2.2==b.2.2.2))))=decide (a=b):=by
 rw[Bool.eq_iff_iff];simp[Prod.ext_iff]
theorem celEq (a b:Cel):((decide (a.1=b.1))&&((decide (a.2.1.1=b.2.1.1))&&((decide (a.2.1.2.1=b.2.1.2.1))&&((decide (a.2.1.2.2.1=b.2.1.2.2.1))&&((a.2.1.2.2.2==b.2.1.2.2.2)&&((decide (a.2.2.1.1=b.2.2.1.1))&&((decide (a.2.2.1.2.1=b.2.2.1.2.1))&&((decide (a.2.2.1.2.2.1=b.2.2.1.2.2.1))&&((a.2.2.1.2.2.2==b.2.2.1.2.2.2)&&((decide (a.2.2.2.1.1=b.2.2.2.1.1))&&((decide (a.2.2.2.1.2=b.2.2.2.1.2))&&((decide (a.2.2.2.2.1=b.2.2.2.2.1))&&((decide (a.2.2.2.2.2.1=b.2.2.2.2.2.1))&&(decide (a.2.2.2.2.2.2=b.2.2.2.2.2.2)))))))))))))))=decide (a=b):=by
 rw[Bool.eq_iff_iff];simp[Prod.ext_iff];grind
theorem celEq0 (a:Cel):((decide (a.1=(0:Int)))&&((decide (a.2.1.1=(0:Int)))&&((decide (a.2.1.2.1=(0:Int)))&&((decide (a.2.1.2.2.1=(0:Int)))&&((a.2.1.2.2.2==false)&&((decide (a.2.2.1.1=(0:Int)))&&((decide (a.2.2.1.2.1=(0:Int)))&&((decide (a.2.2.1.2.2.1=(0:Int)))&&((a.2.2.1.2.2.2==false)&&((decide (a.2.2.2.1.1=(0:Int)))&&((decide (a.2.2.2.1.2=(0:Int)))&&((decide (a.2.2.2.2.1=(0:Int)))&&((decide (a.2.2.2.2.2.1=(0:Int)))&&(decide (a.2.2.2.2.2.2=(0:Int))))))))))))))))=decide (a=z0):=celEq a z0
def I64 (x:Int):Prop := -9223372036854775808≤x∧x≤9223372036854775807
structure EvW (e:Ev):Prop where
 t:I64 e.1
 v:0≤e.2.1∧e.2.1≤18446744073709551615
 c:I64 e.2.2.1
structure CelW (c:Cel):Prop where
 n:I64 c.1
 f:EvW c.2.1
 l:EvW c.2.2.1
 w:WdOk c.2.2.2.1
 r:I64 c.2.2.2.2.1
 g:I64 c.2.2.2.2.2.1
 s:I64 c.2.2.2.2.2.2
theorem EvW.of {e:Ev} (h:EvOk e):EvW e:=by
 obtain ⟨a,b,c,d,f,g,_⟩:=h;exact ⟨by unfold I64;omega,⟨c,d⟩,by unfold I64;omega⟩
theorem CelW.ofN {c:Cel} (h:CellN c):CelW c:=by
 have:=h.small;have:=h.n1;have:=h.f.t0;have:=h.f.t1;have:=h.l.t0;have:=h.l.t1;have:=h.r;have:=h.g;have:=h.rg;have:=h.s0;have:=h.s1;exact ⟨by unfold I64;omega,.of h.f,.of h.l,h.w,by unfold I64;omega,by unfold I64;omega,by unfold I64;omega⟩
theorem x0z:CelW z0:=⟨by simp[I64,z0],⟨by simp[I64,z0,e0],by simp[z0,e0],by simp[I64,z0,e0]⟩,⟨by simp[I64,z0,e0],by simp[z0,e0],by simp[I64,z0,e0]⟩,⟨by simp[z0],by simp[z0]⟩,by simp[I64,z0],by simp[I64,z0],by simp[I64,z0]⟩
theorem CelW.of {c:Cel} (h:b0y c):CelW c:=by
 rcases h with rfl | h
 ·exact x0z
 ·exact .ofN h
def sumW (l:List Wd):Int:=(l.map wv).sum
theorem k2f {l:List Wd} (h:∀x∈l,WdOk x):0≤sumW l:=by
 induction l with
 | nil=>simp[sumW]
 | cons x l ih =>
  have:=ih fun y hy=>h y (by simp[hy])
  have:=f0c (h x (by simp));simp only[sumW,List.map_cons,List.sum_cons] at *
  omega
theorem f2t (n:Nat) (s2:Wd) (l:List Wd) (hL:l.length≤1000000000000) (hok:∀x∈l,WdOk x):∀(rest pre:List Wd) (f:Nat) (a:Wd) (i len:Int),l=pre++rest→i=pre.length→len=l.length→rest.length<f→WdOk a→wv a+sumW rest<340282366920938463463374607431768211456 →
  r0e (n+2) f (s2,a,l,len,i,())=some (.inl (s2,mkW (wv a+sumW rest),())):=by
 intro rest;induction rest with
 | nil =>
  intro pre f a i len hl hi hn hf ha hs;obtain ⟨f,rfl⟩:∃g,f=g+1:=⟨f-1,by simp at hf;omega⟩;rw[w0d];have:=idxe hl hi hn;simp only[tfd,if_neg this,sumW,List.map_nil,List.sum_nil,Int.add_zero,p1a ha]
 | cons x rest ih =>
  intro pre f a i len hl hi hn hf ha hs;obtain ⟨f,rfl⟩:∃g,f=g+1:=⟨f-1,by simp at hf;omega⟩;rw[w0d];have hlt:=idx hl hi hn;have hxo:WdOk x:=hok x (by rw[hl];simp);have hr:=k2f (l:=rest) fun y hy=>hok y (by rw[hl];simp[hy])
  have hx:=f0c hxo;have hb:=f0c ha;have es:sumW (x::rest)=wv x+sumW rest:=by simp[sumW]
  rw[es] at hs;have ew:addW a x=(mkW (wv a+wv x),0):=if_pos (by omega);simp only[tfd,tfn,if_pos hlt,b0g hl hi,obs,d2m n ha hxo,ew,if_pos trivial];rw[idxw hl hi hL];rw[ih (pre++[x]) f (mkW (wv a+wv x)) (i+1) len (idxl hl) (idxs hi) hn (by simp at hf;omega) (w0t (by omega) (by omega)) (by rw[w0c];omega),w0c,es];rw[show wv a+wv x+sumW rest=wv a+(wv x+sumW rest) by omega]
theorem wide_sum (n:Nat) (l:List Wd) (hL:l.length≤1000000000000) (hok:∀x∈l,WdOk x) (hs:sumW l<340282366920938463463374607431768211456):p1o (n+3) l=some (mkW (sumW l),0):=by
 rw[z1c,f2t n (0,0) l hL hok l [] a0d (0,0) 0 l.length rfl rfl rfl (by unfold a0d;omega) ⟨by simp,by simp⟩ (by simpa [f1d] using hs)];simp[f1d]
theorem l2q (n:Nat) (s2:Wd) (l:List Wd) (hL:l.length≤1000000000000) (hok:∀x∈l,WdOk x):∀(rest pre:List Wd) (f:Nat) (a:Wd) (i len:Int),l=pre++rest→i=pre.length→len=l.length→rest.length<f→WdOk a→wv a+sumW rest<340282366920938463463374607431768211456 →
  v0q (n+2) f (s2,a,l,len,i,())=some (.inl (s2,mkW (wv a+sumW rest),())):=by
 intro rest;induction rest with
 | nil =>
  intro pre f a i len hl hi hn hf ha hs;obtain ⟨f,rfl⟩:∃g,f=g+1:=⟨f-1,by simp at hf;omega⟩;rw[z0v];have:=idxe hl hi hn;simp only[tfd,if_neg this,sumW,List.map_nil,List.sum_nil,Int.add_zero,p1a ha]
 | cons x rest ih =>
  intro pre f a i len hl hi hn hf ha hs;obtain ⟨f,rfl⟩:∃g,f=g+1:=⟨f-1,by simp at hf;omega⟩;rw[z0v];have hlt:=idx hl hi hn;have hxo:WdOk x:=hok x (by rw[hl];simp);have hr:=k2f (l:=rest) fun y hy=>hok y (by rw[hl];simp[hy])
  have hx:=f0c hxo;have hb:=f0c ha;have es:sumW (x::rest)=wv x+sumW rest:=by simp[sumW]
  rw[es] at hs;have ew:addW a x=(mkW (wv a+wv x),0):=if_pos (by omega);simp only[tfd,tfn,if_pos hlt,b0g hl hi,obs,b1u n ha hxo,ew,if_pos trivial];rw[idxw hl hi hL];rw[ih (pre++[x]) f (mkW (wv a+wv x)) (i+1) len (idxl hl) (idxs hi) hn (by simp at hf;omega) (w0t (by omega) (by omega)) (by rw[w0c];omega),w0c,es];rw[show wv a+wv x+sumW rest=wv a+(wv x+sumW rest) by omega]
theorem r01_sum (n:Nat) (l:List Wd) (hL:l.length≤1000000000000) (hok:∀x∈l,WdOk x) (hs:sumW l<340282366920938463463374607431768211456):b2y (n+3) l=some (mkW (sumW l),0):=by
 rw[h2w,l2q n (0,0) l hL hok l [] a0d (0,0) 0 l.length rfl rfl rfl (by unfold a0d;omega) ⟨by simp,by simp⟩ (by simpa [f1d] using hs)];simp[f1d]
theorem j1w (n:Nat) (s4 out:Wd):∀(k f:Nat) (m:Int) (a:Wd),m≤k→k<f→0<m→m≤18446744073709551615→WdOk a→d0y (n+2) f (m,a,s4,out,true,())=some (.inr ((0,0),1)):=by
 intro k;induction k with
 | zero=>intro f m a h1 h2 h3;omega
 | succ k ih =>
  intro f m a h1 h2 h3 h4 ha;obtain ⟨f,rfl⟩:∃g,f=g+1:=⟨f-1,by omega⟩;rw[j0n];simp only[tfd,if_pos h3,g0d (a:=m) (by omega),tft];by_cases c:m % 2=1
  ·rw[if_pos c]
  ·rw[if_neg c,b1u n ha ha];simp only[obs];rw[l0l (by omega),wu64 (by omega) (by omega)];exact ih f (m / 2) (addW a a).1 (by omega) (by omega) (by omega) (by omega) (by
    unfold addW;have:=f0c ha;split
    ·exact w0t (by omega) (by omega)
    ·exact ⟨by simp,by simp⟩)
theorem b2x (n:Nat) (s4:Wd):∀(k f:Nat) (m:Int) (a out:Wd),m≤k→k<f→0≤m→m≤18446744073709551615→WdOk a→WdOk out→∀p,p=wv a*m →
  d0y (n+2) f (m,a,s4,out,false,())=some (if wv out+p<340282366920938463463374607431768211456 then .inl (s4,mkW (wv out+p),()) else .inr ((0,0),1)):=by
 intro k;induction k with
 | zero =>
  intro f m a out h1 h2 h3 h4 ha ho p hp;obtain ⟨f,rfl⟩:∃g,f=g+1:=⟨f-1,by omega⟩;obtain rfl:m=0:=by omega
  rw[j0n];have:=f0c ho;rw[Int.mul_zero] at hp;subst hp;simp only[tfd,if_neg (show ¬((0:Int)<0) by omega),Int.add_zero];rw[if_pos (by omega),p1a ho]
 | succ k ih =>
  intro f m a out h1 h2 h3 h4 ha ho p hp;obtain ⟨f,rfl⟩:∃g,f=g+1:=⟨f-1,by omega⟩;rw[j0n];have ra:=f0c ha;have ro:=f0c ho;by_cases h0:0<m
  ·have hp0:0≤p:=by rw[hp];exact Int.mul_nonneg ra.1 h3
   have hq:wv a*m=2*(wv a*(m / 2))+wv a*(m % 2):=by
    have e:m=2*(m / 2)+m % 2:=by omega
    conv=>lhs;rw[e,Int.mul_add,Int.mul_left_comm]
   have hq0:0≤wv a*(m / 2):=Int.mul_nonneg ra.1 (by omega);have hq1:1≤m / 2→wv a≤wv a*(m / 2):=fun h=>by
    have:=Int.mul_le_mul_of_nonneg_left h ra.1;omega
   have hz:m / 2=0→wv a*(m / 2)=0:=fun h=>by rw[h,Int.mul_zero]
   rw[←hp] at hq;have next:∀out':Wd,WdOk out'→a0b (some (addW a a)) (fun r1=>tif false (d0y (n+2) f (IntKind.wrap .u64 (Int.tdiv m 2),r1.1,s4,out',true,())) (d0y (n+2) f (IntKind.wrap .u64 (Int.tdiv m 2),r1.1,s4,out',!(decide (r1.2=(0:Int))),()))) =
     some (if wv out'+2*(wv a*(m / 2))<340282366920938463463374607431768211456 then .inl (s4,mkW (wv out'+2*(wv a*(m / 2))),()) else .inr ((0,0),1)):=by
    intro out' ho';have ro':=f0c ho';rw[l0l (by omega),wu64 (by omega) (by omega)];simp only[obs,tff];by_cases hov:wv a+wv a<340282366920938463463374607431768211456
    ·have ew:addW a a=(mkW (wv a+wv a),0):=if_pos hov;rw[ew];have:=ih f (m / 2) (mkW (wv a+wv a)) out' (by omega) (by omega) (by omega) (by omega) (w0t (by omega) hov) ho' (2*(wv a*(m / 2))) (by rw[w0c,←Int.two_mul,Int.mul_assoc])
     simpa using this
    ·have ew:addW a a=((0,0),1):=if_neg hov;rw[ew];by_cases hm:0<m / 2
     ·have:=j1w n s4 out' k f (m / 2) (0,0) (by omega) (by omega) hm (by omega) ⟨by simp,by simp⟩;have:=hq1 (by omega);rw[if_neg (by omega)]
      simpa using by assumption
     ·obtain ⟨f,rfl⟩:∃g,f=g+1:=⟨f-1,by omega⟩;have e0:m / 2=0:=by omega
      rw[hz e0,e0,j0n];simp only[tfd,if_neg (show ¬((0:Int)<0) by omega),Int.mul_zero,Int.add_zero];rw[if_pos (by omega),p1a ho']
   simp only[tfd,if_pos h0,g0d (a:=m) (by omega),tff];by_cases c:m % 2=1
   ·rw[if_pos c,b1u n ho ha];rw[c,Int.mul_one] at hq;by_cases hov:wv out+wv a<340282366920938463463374607431768211456
    ·have ew:addW out a=(mkW (wv out+wv a),0):=if_pos hov;rw[ew];have:=next (mkW (wv out+wv a)) (w0t (by omega) hov);rw[w0c] at this;rw[b1u n ha ha];simp only[tff] at this;simp only[obs,tfn,tfd,if_pos trivial,tff] at this ⊢;rw[this,hq];rw[show wv out+(2*(wv a*(m / 2))+wv a)=wv out+wv a+2*(wv a*(m / 2)) by omega]
    ·have ew:addW out a=((0,0),1):=if_neg hov;rw[ew];simp only[obs,tfn,tfd];rw[if_neg (by decide),if_neg (by omega)]
   ·rw[if_neg c,b1u n ha ha];have c0:m % 2=0:=by omega
    rw[c0,Int.mul_zero,Int.add_zero] at hq;have:=next out ho;simp only[tff] at this;simp only[obs] at this ⊢;rw[this,hq]
  ·obtain rfl:m=0:=by omega
   rw[Int.mul_zero] at hp;subst hp;simp only[tfd,if_neg (show ¬((0:Int)<0) by omega),Int.add_zero];rw[if_pos (by omega),p1a ho]
theorem w1p (n:Nat) {a:Wd} (ha:WdOk a) (k:Int) (hk:0≤k∧k≤18446744073709551615):n0z (n+3) a k=some (c1z a k):=by
 rw[w1r,b2x n (0,0) 18446744073709551615 a0d k a (0,0) (by omega) (by unfold a0d;omega) hk.1 hk.2 ha ⟨by simp,by simp⟩ _ rfl];simp only[f1d,Int.zero_add,obs];unfold c1z;by_cases h:wv a*k<340282366920938463463374607431768211456
 ·rw[if_pos h,if_pos h];simp
 ·rw[if_neg h,if_neg h];simp
theorem x0t (n:Nat) {e:Ev} (h:EvW e):e0j (n+1) e=some (if EvOk e then 0 else 2):=by
 obtain ⟨_,hv,_⟩:=h;rw[n1r];simp only[tfd];by_cases h1:e.1<0
 ·rw[if_pos h1,if_neg (fun k=>by have:=k.t0;omega)]
 by_cases h2:(35184372088832:Int)≤e.1
 ·rw[if_neg h1,if_pos h2,if_neg (fun k=>by have:=k.t1;omega)]
 by_cases h3:e.2.2.1<0
 ·rw[if_neg h1,if_neg h2,if_pos h3,if_neg (fun k=>by have:=k.c0;omega)]
 by_cases h4:e.1<e.2.2.1
 ·rw[if_neg h1,if_neg h2,if_neg h3,if_pos h4,if_neg (fun k=>by have:=k.c1;omega)]
 rw[if_neg h1,if_neg h2,if_neg h3,if_neg h4];cases h5:e.2.2.2 with
 | false =>
  rw[tff,if_pos ⟨by omega,by omega,hv.1,hv.2,by omega,by omega,fun k=>by rw[h5] at k;cases k⟩]
 | true =>
  rw[tft];by_cases h6:e.2.1=0∧e.2.2.1=0
  ·rw[if_pos ⟨by omega,by omega,hv.1,hv.2,by omega,by omega,fun _=>h6⟩];simp[h6]
  ·rw[if_neg (fun k=>h6 (k.st h5))];by_cases h7:e.2.1=0
   ·have h8:¬(e.2.2.1=0):=fun k=>h6 ⟨h7,k⟩
    simp[h7,h8]
   ·simp[h7]
theorem t0u (n:Nat) {e:Ev} (h:EvW e):n0x (n+1) e=some (if EvOk e then 0 else 2):=by
 obtain ⟨_,hv,_⟩:=h;rw[w1i];simp only[tfd,tfn];by_cases h1:e.1<0
 ·rw[if_pos h1,if_neg (fun k=>by have:=k.t0;omega)]
 by_cases h2:(35184372088832:Int)≤e.1
 ·rw[if_neg h1,if_pos h2,if_neg (fun k=>by have:=k.t1;omega)]
 by_cases h3:e.2.2.1<0
 ·rw[if_neg h1,if_neg h2,if_pos h3,if_neg (fun k=>by have:=k.c0;omega)]
 by_cases h4:e.1<e.2.2.1
 ·rw[if_neg h1,if_neg h2,if_neg h3,if_pos h4,if_neg (fun k=>by have:=k.c1;omega)]
 rw[if_neg h1,if_neg h2,if_neg h3,if_neg h4];cases h5:e.2.2.2 with
 | false =>
  rw[tff,if_pos ⟨by omega,by omega,hv.1,hv.2,by omega,by omega,fun k=>by rw[h5] at k;cases k⟩]
 | true =>
  rw[tft];by_cases h6:e.2.1=0∧e.2.2.1=0
  ·rw[if_pos h6.1,if_pos h6.2,if_pos ⟨by omega,by omega,hv.1,hv.2,by omega,by omega,fun _=>h6⟩]
  ·by_cases h7:e.2.1=0
   ·have h8:¬(e.2.2.1=0):=fun k=>h6 ⟨h7,k⟩
    rw[if_pos h7,if_neg h8,if_neg (fun k=>h6 (k.st h5))]
   ·rw[if_neg h7,if_neg (fun k=>h6 (k.st h5))]
theorem zif (p:Prop) [Decidable p]:decide ((if p then (0:Int) else 2)=0)=decide p:=by by_cases h:p<;>simp[h]
theorem t1a (n:Nat) (l:List Ev) (hL:l.length≤1000000000000) (hw:∀e∈l,EvW e):∀(rest pre:List Ev) (f:Nat) (i len:Int),l=pre++rest→i=pre.length→len=l.length→rest.length<f →
  k0s (n+1) f (l,len,i,())=some (if ∀e∈rest,EvOk e then .inl () else .inr false):=by
 intro rest;induction rest with
 | nil =>
  intro pre f i len hl hi hn hf;obtain ⟨f,rfl⟩:∃g,f=g+1:=⟨f-1,by simp at hf;omega⟩;rw[q0u];have:=idxe hl hi hn;simp[tfd,if_neg this]
 | cons x rest ih =>
  intro pre f i len hl hi hn hf;obtain ⟨f,rfl⟩:∃g,f=g+1:=⟨f-1,by simp at hf;omega⟩;rw[q0u];have hlt:=idx hl hi hn;have hx:EvW x:=hw x (by rw[hl];simp);simp only[tfd,tfn,if_pos hlt,b0g hl hi,obs,x0t n hx,idxw hl hi hL];by_cases ho:EvOk x
  ·rw[if_pos ho,if_pos rfl,ih (pre++[x]) f (i+1) len (idxl hl) (idxs hi) hn (by simp at hf;omega)];have e:(∀e∈x::rest,EvOk e)↔(∀e∈rest,EvOk e):=by simp[ho]
   by_cases hr:∀e∈rest,EvOk e
   ·rw[if_pos hr,if_pos (e.2 hr)]
   ·rw[if_neg hr,if_neg (fun k=>hr (e.1 k))]
  ·have h2:¬(∀e∈x::rest,EvOk e):=fun k=>ho (k x (by simp))
   rw[if_neg ho,if_neg (by decide),if_neg h2]
theorem i1r (n:Nat) (l:List Ev) (hL:l.length≤1000000000000) (hw:∀e∈l,EvW e):o0e (n+2) l=some (decide (∀e∈l,EvOk e)):=by
 rw[n1q,t1a n l hL hw l [] a0d 0 l.length rfl rfl rfl (by unfold a0d;omega)];by_cases h:∀e∈l,EvOk e
 ·rw[if_pos h,decide_eq_true h];simp
 ·rw[if_neg h,decide_eq_false h];simp
theorem d1o (n:Nat) {p c:Ev} (hp:EvW p) (hc:EvW c):o0e (n+2) [p,c]=some (decide (EvOk p∧EvOk c)):=by
 rw[i1r n [p,c] (by simp) (by simp[hp,hc])];simp
theorem d1p (n:Nat) {p c:Ev} (hp:EvW p) (hc:EvW c):o0v (n+3) p c=some (decide (EvOk p∧EvOk c∧p.1<c.1)):=by
 rw[i1s,d1o n hp hc];by_cases h:EvOk p∧EvOk c
 ·simp[h.1,h.2]
 ·have h2:¬(EvOk p∧EvOk c∧p.1<c.1):=fun k=>h ⟨k.1,k.2.1⟩
  rw[decide_eq_false h,decide_eq_false h2];simp
def t1j (d:Int×(Int×(Int×Int))):Cel:=(0,(e0,(e0,((0,d.1),(d.2.1,(d.2.2.1,d.2.2.2))))))
theorem x0b (n:Nat) (c:Ev) (s:Int):v0v (n+2) c s=some (t1j (c.2.1,1,0,s)):=by
 rw[t1c,f1e];rfl
theorem t1b (n:Nat) {p c:Ev} (hp:EvOk p) (hc:EvOk c):s0i (n+3) p c=some (if p.1<c.1 then (t1j (btw p c),0) else (z0,9)):=by
 rw[e1g,d1o n (.of hp) (.of hc),decide_eq_true ⟨hp,hc⟩];simp only[obs,Bool.not_true,tff,tfd];by_cases h:p.1<c.1
 ·have h':¬(c.1≤p.1):=by omega
  rw[if_neg h',if_pos h];obtain ⟨a1,a2,a3,a4,a5,a6,a7⟩:=hp;obtain ⟨b1,b2,b3,b4,b5,b6,b7⟩:=hc;unfold btw;cases k1:c.2.2.2 with
  | true=>rw[tft,if_pos rfl];rfl
  | false =>
   rw[tff,if_neg Bool.false_ne_true];by_cases k2:p.1<c.2.2.1
   ·rw[if_pos k2,if_pos k2,x0b,w64 (by omega) (by omega)];rfl
   rw[if_neg k2,if_neg k2];cases k3:p.2.2.2 with
   | true=>rw[tft,if_pos rfl];rfl
   | false =>
    rw[tff,if_neg Bool.false_ne_true];by_cases k4:c.2.1<p.2.1
    ·rw[if_pos k4,if_pos k4,x0b,w64 (by omega) (by omega)];rfl
    ·rw[if_neg k4,if_neg k4,f1e,w64 (by omega) (by omega),wu64 (by omega) (by omega)];rfl
 ·rw[if_pos (by omega),if_neg h];rfl
theorem b2m (n:Nat) {p c:Ev} (hp:EvOk p) (hc:EvOk c):x0i (n+2) p c=some (if p.1<c.1 then (t1j (btw p c),0) else (z0,9)):=by
 rw[j1v,t0u n (.of hp),t0u n (.of hc)];simp only[obs,if_pos hp,if_pos hc,tfn,tfd,if_pos trivial];by_cases h:p.1<c.1
 ·have h':¬(c.1≤p.1):=by omega
  rw[if_neg h',if_pos h];obtain ⟨a1,a2,a3,a4,a5,a6,a7⟩:=hp;obtain ⟨b1,b2,b3,b4,b5,b6,b7⟩:=hc;unfold btw;cases k1:c.2.2.2 with
  | true=>rw[tft,if_pos rfl];rfl
  | false =>
   rw[tff,if_neg Bool.false_ne_true];by_cases k2:p.1<c.2.2.1
   ·rw[if_pos k2,if_pos k2,w64 (by omega) (by omega)];rfl
   rw[if_neg k2,if_neg k2];cases k3:p.2.2.2 with
   | true=>rw[tft,if_pos rfl];rfl
   | false =>
    rw[tff,if_neg Bool.false_ne_true];by_cases k4:c.2.1<p.2.1
    ·rw[if_pos k4,if_pos k4,w64 (by omega) (by omega)];rfl
    ·rw[if_neg k4,if_neg k4,w64 (by omega) (by omega),wu64 (by omega) (by omega)];rfl
 ·rw[if_pos (by omega),if_neg h];rfl
theorem s0l (n:Nat) (c:Cel):u0t (n+1) c=some (decide (c=z0)):=by rw[y1r,celEq0]
theorem d2d (n:Nat) (x m:Int):i1x (n+1) x m=some (decide (0≤x∧x≤m)):=by
 rw[j2h];by_cases h1:(0:Int)≤x<;>by_cases h2:x≤m<;>simp[h1,h2]
def z1b (c:Cel):Prop:=(c.1=1∧c.2.1=c.2.2.1∧EvOk c.2.1)∨(1<c.1∧EvOk c.2.1∧EvOk c.2.2.1∧c.2.1.1<c.2.2.1.1∧c.1-1≤c.2.2.1.1-c.2.1.1)
instance (c:Cel):Decidable (z1b c):=by unfold z1b;infer_instance
theorem n1v (n:Nat) {c:Cel} (hw:CelW c):c1o (n+4) c=some (decide (z1b c)):=by
 rw[t1u,evEq];simp only[tfd];by_cases h1:c.1=1
 ·rw[if_pos h1];by_cases h2:c.2.1=c.2.2.1
  ·rw[if_pos h2,x0t _ hw.f];simp only[obs,zif];congr 1;refine decide_eq_decide.2 ⟨fun h => .inl ⟨h1,h2,h⟩,fun h => ?_⟩;rcases h with h | h
   ·exact h.2.2
   ·exact h.2.1
  ·rw[if_neg h2,decide_eq_false];rintro (h | h)
   ·exact h2 h.2.1
   ·omega
 ·rw[if_neg h1];by_cases h2:1<c.1
  ·rw[if_pos h2,d1p _ hw.f hw.l];simp only[obs,tfd];by_cases h3:EvOk c.2.1∧EvOk c.2.2.1∧c.2.1.1<c.2.2.1.1
   ·rw[if_pos h3];obtain ⟨h3,h4,h5⟩:=h3;have:=hw.n;unfold I64 at this;have:=h3.t0;have:=h4.t1;have:=h3.t1;have:=h4.t0;rw[w64 (by omega) (by omega),w64 (by omega) (by omega)];congr 1;refine decide_eq_decide.2 ⟨fun h => .inr ⟨h2,h3,h4,h5,h⟩,fun h => ?_⟩;rcases h with h | h
    ·omega
    ·exact h.2.2.2.2
   ·rw[if_neg h3,decide_eq_false];rintro (h | h)
    ·omega
    ·exact h3 ⟨h.2.1,h.2.2.1,h.2.2.2.1⟩
  ·rw[if_neg h2,decide_eq_false];rintro (h | h)<;>omega
theorem CellN.spans {c:Cel} (h:CellN c):z1b c:=by
 by_cases h1:c.1=1
 ·exact .inl ⟨h1,h.one h1,h.f⟩
 ·have:=h.n1;exact .inr ⟨by omega,h.f,h.l,h.more (by omega),h.n2⟩
theorem f2i {c:Cel} (hw:CelW c) (hs:z1b c) (hi:wv c.2.2.2.1≤18446744073709551615*(c.1-1)) (hr:0≤c.2.2.2.2.1) (hg:0≤c.2.2.2.2.2.1) (hrg:c.2.2.2.2.1+c.2.2.2.2.2.1≤c.1-1)
  (h0:0≤c.2.2.2.2.2.2) (h1:c.2.2.2.2.2.2≤c.2.2.1.1-c.2.1.1):CellN c:=by
 rcases hs with ⟨a,b,d⟩ | ⟨a,b,d,e,f⟩
 ·exact ⟨by omega,d,b ▸ d,fun _=>b,fun h=>by omega,by rw[b];omega,hw.w,hi,hr,hg,hrg,h0,h1⟩
 ·exact ⟨by omega,b,d,fun h=>by omega,fun _=>e,f,hw.w,hi,hr,hg,hrg,h0,h1⟩
theorem z1x {c:Cel} (h:z1b c):1≤c.1∧c.1≤35184372088832∧0≤c.2.2.1.1-c.2.1.1∧c.2.2.1.1-c.2.1.1≤35184372088832:=by
 rcases h with ⟨a,b,d⟩ | ⟨a,b,d,e,f⟩
 ·rw[b];have:=d.t0;omega
 ·have:=b.t0;have:=d.t1;omega
theorem o1e {k:Int} (h:0≤k∧k≤35184372088832):c1z (0,18446744073709551615) k=(mkW (18446744073709551615*k),0):=by
 unfold c1z;rw[show wv (0,18446744073709551615)=18446744073709551615 from rfl,if_pos (by omega)]
theorem c1p (n:Nat) {c:Cel} (hw:CelW c):q0x (n+5) c=some (if b0y c then 0 else 2):=by
 rw[t1w,s0l,n1v n hw];simp only[obs,tfd,tfn];by_cases h0:c=z0
 ·rw[if_pos h0,if_pos (.inl h0)]
 rw[if_neg h0];by_cases hs:z1b c
 ·rw[if_pos hs];obtain ⟨s1,s2,s3,s4⟩:=z1x hs;have hg:=hw.g;have hr:=hw.r;have hse:=hw.s;unfold I64 at hg hr hse;have hmw:WdOk (mkW (18446744073709551615*(c.1-1))):=w0t (by omega) (by omega);rw[f1e,w64 (x:=c.1-1) (by omega) (by omega),wu64 (by omega) (by omega)];simp only[obs];rw[n1z (n+2) ⟨by simp,by simp⟩ _ (by omega),o1e (by omega)];simp only[obs,if_pos trivial,u1g (n+3) hmw hw.w,w0c,d2d,tfd];by_cases c1:18446744073709551615*(c.1-1)<wv c.2.2.2.1
  ·rw[if_pos c1,if_neg (fun k=>by have:=(k.n h0).inc;omega)]
  rw[if_neg c1];by_cases c2:0≤c.2.2.2.2.2.1∧c.2.2.2.2.2.1≤c.1-1
  ·rw[if_pos c2,w64 (by omega) (by omega)];by_cases c3:0≤c.2.2.2.2.1∧c.2.2.2.2.1≤c.1-1-c.2.2.2.2.2.1
   ·rw[if_pos c3,w64 (by omega) (by omega)];by_cases c4:0≤c.2.2.2.2.2.2∧c.2.2.2.2.2.2≤c.2.2.1.1-c.2.1.1
    ·rw[if_pos c4,if_pos (.inr (f2i hw hs (by omega) c3.1 c2.1 (by omega) c4.1 c4.2))]
    ·rw[if_neg c4,if_neg (fun k=>c4 ⟨(k.n h0).s0,(k.n h0).s1⟩)]
   ·rw[if_neg c3,if_neg (fun k=>c3 (by have:=(k.n h0).r;have:=(k.n h0).rg;omega))]
  ·rw[if_neg c2,if_neg (fun k=>c2 (by have:=(k.n h0).r;have:=(k.n h0).g;have:=(k.n h0).rg;omega))]
 ·rw[if_neg hs,if_neg (fun k=>hs (CellN.spans (k.n h0)))]
theorem g1l (n:Nat) {c:Cel} (hw:CelW c):t0t (n+4) c=some (if b0y c then 0 else 2):=by
 rw[w1h,evEq,celEq0,t0u _ hw.f,t0u _ hw.l];simp only[obs,tfd,tfn];by_cases h0:c=z0
 ·rw[if_pos h0,if_pos (.inl h0)]
 rw[if_neg h0];have no:∀ {p:Prop},(CellN c→p)→¬p→(if b0y c then (0:Int) else 2)=2:=fun h h'=>if_neg (fun k=>h' (h (k.n h0)))
 by_cases c1:c.1<1
 ·rw[if_pos c1,no (fun k=>k.n1) (by omega)]
 rw[if_neg c1];by_cases c2:EvOk c.2.1
 case neg=>rw[if_neg c2,if_neg (by decide),no (fun k=>k.f) c2]
 by_cases c3:EvOk c.2.2.1
 case neg=>rw[if_pos c2,if_pos rfl,if_neg c3,if_neg (by decide),no (fun k=>k.l) c3]
 rw[if_pos c2,if_pos rfl,if_pos c3,if_pos rfl];have t0:=c2.t0;have t1:=c2.t1;have t2:=c3.t0;have t3:=c3.t1;by_cases c4:c.2.2.1.1<c.2.1.1
 ·rw[if_pos c4,no (fun k=>k.ft) (by omega)]
 rw[if_neg c4,w64 (x:=c.2.2.1.1-c.2.1.1) (by omega) (by omega),w64 (x:=c.2.2.1.1-c.2.1.1+1) (by omega) (by omega)];by_cases c5:c.2.2.1.1-c.2.1.1+1<c.1
 ·rw[if_pos c5,no (fun k=>k.n2) (by omega)]
 rw[if_neg c5];have hg:=hw.g;have hr:=hw.r;have hse:=hw.s;unfold I64 at hg hr hse;have hmw:WdOk (mkW (18446744073709551615*(c.1-1))):=w0t (by omega) (by omega);rw[w64 (x:=c.1-1) (by omega) (by omega),wu64 (by omega) (by omega),w1p n (a:=(0,18446744073709551615)) ⟨by simp,by simp⟩ _ (by omega),o1e (by omega)];simp only[obs,r1s (n+1) hmw hw.w,w0c,tfd];have tail:z1b c→(if c.2.2.2.2.1<0 then some (2:Int) else if c.2.2.2.2.2.1<0 then some 2 else if c.2.2.2.2.2.2<0 then some 2 else if c.1≤c.2.2.2.2.1 then some 2 else if c.1≤c.2.2.2.2.2.1 then some 2
   else if c.1≤IntKind.wrap .i64 (c.2.2.2.2.1+c.2.2.2.2.2.1) then some 2 else if c.2.2.1.1-c.2.1.1<c.2.2.2.2.2.2 then some 2 else if 18446744073709551615*(c.1-1)<wv c.2.2.2.1 then some 2 else some 0)=some (if b0y c then 0 else 2):=by
  intro hs;by_cases d1:c.2.2.2.2.1<0
  ·rw[if_pos d1,no (fun k=>k.r) (by omega)]
  by_cases d2:c.2.2.2.2.2.1<0
  ·rw[if_neg d1,if_pos d2,no (fun k=>k.g) (by omega)]
  by_cases d3:c.2.2.2.2.2.2<0
  ·rw[if_neg d1,if_neg d2,if_pos d3,no (fun k=>k.s0) (by omega)]
  by_cases d4:c.1≤c.2.2.2.2.1
  ·rw[if_neg d1,if_neg d2,if_neg d3,if_pos d4,no (fun k=>k.rg) (by omega)]
  by_cases d5:c.1≤c.2.2.2.2.2.1
  ·rw[if_neg d1,if_neg d2,if_neg d3,if_neg d4,if_pos d5,no (fun k=>k.rg) (by omega)]
  rw[if_neg d1,if_neg d2,if_neg d3,if_neg d4,if_neg d5,w64 (x:=c.2.2.2.2.1+c.2.2.2.2.2.1) (by omega) (by omega)];by_cases d6:c.1≤c.2.2.2.2.1+c.2.2.2.2.2.1
  ·rw[if_pos d6,no (fun k=>k.rg) (by omega)]
  by_cases d7:c.2.2.1.1-c.2.1.1<c.2.2.2.2.2.2
  ·rw[if_neg d6,if_pos d7,no (fun k=>k.s1) (by omega)]
  by_cases d8:18446744073709551615*(c.1-1)<wv c.2.2.2.1
  ·rw[if_neg d6,if_neg d7,if_pos d8,no (fun k=>k.inc) (by omega)]
  ·rw[if_neg d6,if_neg d7,if_neg d8,if_pos (.inr (f2i hw hs (by omega) (by omega) (by omega) (by omega) (by omega) (by omega)))]
 by_cases c6:c.1=1
 ·rw[if_pos c6];by_cases c7:c.2.1=c.2.2.1
  ·rw[if_pos c7,if_neg (show ¬(1<c.1) by omega)];exact tail (.inl ⟨c6,c7,c2⟩)
  ·rw[if_neg c7,no (fun k=>k.one c6) c7]
 ·rw[if_neg c6];have c8:1<c.1:=by omega
  rw[if_pos c8];by_cases c9:c.2.1.1=c.2.2.1.1
  ·rw[if_pos c9,no (fun k=>k.more c8) (by omega)]
  ·rw[if_neg c9];exact tail (.inr ⟨c8,c2,c3,by omega,by omega⟩)
theorem z02 (p:Prop) [Decidable p]:((if p then (0:Int) else 2)=0)↔p:=by by_cases h:p<;>simp[h]
theorem u1c {a b:Cel} (ha:a≠z0) (hb:b≠z0):Ahead a b↔a.2.2.1.1<b.2.1.1:=⟨fun h=>(h.resolve_left ha).resolve_left hb,fun h => .inr (.inr h)⟩
theorem p1b {a b:Cel} (na:CellN a) (nb:CellN b) (h:a.2.2.1.1<b.2.1.1) :
  (∀x∈[a.2.2.2.1,(t1j (btw a.2.2.1 b.2.1)).2.2.2.1,b.2.2.2.1],WdOk x)∧sumW [a.2.2.2.1,(t1j (btw a.2.2.1 b.2.1)).2.2.2.1,b.2.2.2.1]=wv a.2.2.2.1+(btw a.2.2.1 b.2.1).1+wv b.2.2.2.1 ∧
  wv a.2.2.2.1+(btw a.2.2.1 b.2.1).1+wv b.2.2.2.1<340282366920938463463374607431768211456:=by
 have d:=f2k na.l nb.f h;have ia:=na.inc;have ib:=nb.inc;have sa:=na.small;have sb:=nb.small;have d1:=d.i;refine ⟨?_,?_,by omega⟩
 ·intro x hx;simp only[List.mem_cons,List.not_mem_nil,or_false] at hx;rcases hx with rfl | rfl | rfl
  ·exact na.w
  ·exact ⟨by simp[t1j],d1⟩
  ·exact nb.w
 ·simp[sumW,t1j,wv_lo];omega
theorem m0x (n:Nat) {a b:Cel} (ha:CelW a) (hb:CelW b):i0z (n+6) a b=some (mrgE a b):=by
 rw[t1v,c1p n ha,c1p n hb,s0l,s0l];simp only[obs,tfd,tfn,z02];unfold mrgE;by_cases h1:b0y a
 case neg=>rw[if_neg h1,if_neg (fun k=>h1 k.1)];rfl
 by_cases h2:b0y b
 case neg=>rw[if_pos h1,if_neg h2,if_neg (fun k=>h2 k.2)];rfl
 rw[if_pos h1,if_pos h2,if_pos (And.intro h1 h2)];by_cases h3:a=z0
 ·rw[if_pos h3,if_pos (.inl h3),h3,u1e]
 by_cases h4:b=z0
 ·rw[if_neg h3,if_pos h4,if_pos (.inr (.inl h4)),h4,m2l]
 rw[if_neg h3,if_neg h4];have na:=h1.n h3;have nb:=h2.n h4;rw[y1s,t1b (n+1) na.l nb.f];simp only[obs];by_cases h5:a.2.2.1.1<b.2.1.1
 ·obtain ⟨w1,w2,w3⟩:=p1b na nb h5;have d:=f2k na.l nb.f h5;rw[if_pos h5,if_pos ((u1c h3 h4).2 h5)];simp only[decide_true,Bool.not_true,tff];rw[wide_sum (n+1) _ (by simp) w1 (by rw[w2];exact w3),w2];simp only[obs];rw[mrg_n na nb];have:=na.small;have:=nb.small;have:=na.n1;have:=nb.n1;have:=na.r;have:=na.g;have:=na.rg;have:=nb.r;have:=nb.g;have:=nb.rg;have:=na.s0;have:=na.s1;have:=nb.s0;have:=nb.s1;have:=na.f.t0;have:=na.l.t1;have:=nb.f.t0;have:=nb.l.t1;obtain ⟨d1,d2,d3,d4,d5⟩:=d;simp only[t1j]
  rw[w64 (x:=a.1+b.1) (by omega) (by omega),w64 (x:=a.2.2.2.2.1+b.2.2.2.2.1) (by omega) (by omega),w64 (x:=a.2.2.2.2.2.1+b.2.2.2.2.2.1) (by omega) (by omega),w64 (x:=a.2.2.2.2.2.2+b.2.2.2.2.2.2) (by omega) (by omega)];rw[w64 (by omega) (by omega),w64 (by omega) (by omega),w64 (by omega) (by omega)];refine congrArg some (Prod.ext (Prod.ext rfl (Prod.ext rfl (Prod.ext rfl (Prod.ext rfl (Prod.ext ?_ (Prod.ext ?_ ?_)))))) rfl)<;>simp only<;>omega
 ·rw[if_neg h5,if_neg (fun k=>h5 ((u1c h3 h4).1 k))];simp only[tfn,tfd];rw[if_neg (by decide)];rfl
theorem q0g (n:Nat) {a b:Cel} (ha:CelW a) (hb:CelW b):l0c (n+5) a b=some (mrgE a b):=by
 rw[w1g,g1l n ha,g1l n hb];simp only[obs,tfd,tfn,z02];unfold mrgE;by_cases h1:b0y a
 case neg=>rw[if_neg h1,if_neg (fun k=>h1 k.1)];rfl
 by_cases h2:b0y b
 case neg=>rw[if_pos h1,if_neg h2,if_neg (fun k=>h2 k.2)];rfl
 rw[if_pos h1,if_pos h2,if_pos (And.intro h1 h2)];by_cases h3:a=z0
 ·rw[if_pos (h1.count.1.2 h3),if_pos (.inl h3),h3,u1e]
 by_cases h4:b=z0
 ·rw[if_neg (mt h1.count.1.1 h3),if_pos (h2.count.1.2 h4),if_pos (.inr (.inl h4)),h4,m2l]
 rw[if_neg (mt h1.count.1.1 h3),if_neg (mt h2.count.1.1 h4)];have na:=h1.n h3;have nb:=h2.n h4;by_cases h5:a.2.2.1.1<b.2.1.1
 ·obtain ⟨w1,w2,w3⟩:=p1b na nb h5;have d:=f2k na.l nb.f h5;rw[if_neg (by omega),if_pos ((u1c h3 h4).2 h5),b2m (n+2) na.l nb.f,if_pos h5];simp only[obs];rw[r01_sum (n+1) _ (by simp) w1 (by rw[w2];exact w3),w2];simp only[obs];rw[mrg_n na nb];have:=na.small;have:=nb.small;have:=na.n1;have:=nb.n1;have:=na.r;have:=na.g;have:=na.rg;have:=nb.r;have:=nb.g;have:=nb.rg;have:=na.s0;have:=na.s1;have:=nb.s0;have:=nb.s1;have:=na.f.t0;have:=na.l.t1;have:=nb.f.t0;have:=nb.l.t1;obtain ⟨d1,d2,d3,d4,d5⟩:=d;simp only[t1j]
  rw[w64 (x:=a.1+b.1) (by omega) (by omega),w64 (x:=a.2.2.2.2.1+_) (by omega) (by omega),w64 (x:=a.2.2.2.2.2.1+_) (by omega) (by omega),w64 (x:=a.2.2.2.2.2.2+_) (by omega) (by omega)];rw[w64 (by omega) (by omega),w64 (by omega) (by omega),w64 (by omega) (by omega)]
 ·rw[if_pos (by omega),if_neg (fun k=>h5 ((u1c h3 h4).1 k))];rfl
theorem m2m {a b:Cel} (h:(mrgE a b).2=0):b0y a∧b0y b∧Ahead a b∧(mrgE a b).1=mrg a b∧b0y (mrgE a b).1:=by
 unfold mrgE at h ⊢;by_cases h1:b0y a∧b0y b
 ·rw[if_pos h1] at h ⊢;by_cases h2:Ahead a b
  ·rw[if_pos h2];exact ⟨h1.1,h1.2,h2,rfl,x1n h1.1 h1.2 h2⟩
  ·rw[if_neg h2] at h;simp at h
 ·rw[if_neg h1] at h;simp at h
theorem e2i (a b:Cel):CelW (mrgE a b).1:=by
 by_cases h:(mrgE a b).2=0
 ·exact .of (m2m h).2.2.2.2
 ·unfold mrgE at h ⊢;by_cases h1:b0y a∧b0y b
  ·rw[if_pos h1] at h ⊢;by_cases h2:Ahead a b
   ·rw[if_pos h2] at h;simp at h
   ·rw[if_neg h2];exact x0z
  ·rw[if_neg h1];exact x0z
theorem j2i (n:Nat) (s2:Cel) (l:List Cel) (hL:l.length≤1000000000000) (hw:∀x∈l,CelW x):∀(rest pre:List Cel) (f:Nat) (c:Cel) (i len:Int),l=pre++rest→i=pre.length→len=l.length→rest.length<f→CelW c →
  o0i (n+6) f (s2,c,l,len,i,())=some (if (allE c rest).2=0 then .inl (s2,(allE c rest).1,()) else .inr (z0,(allE c rest).2)):=by
 intro rest;induction rest with
 | nil =>
  intro pre f c i len hl hi hn hf hc;obtain ⟨f,rfl⟩:∃g,f=g+1:=⟨f-1,by simp at hf;omega⟩;rw[x0c];simp only[tfd,if_neg (idxe hl hi hn),allE,if_pos trivial]
 | cons x rest ih =>
  intro pre f c i len hl hi hn hf hc;obtain ⟨f,rfl⟩:∃g,f=g+1:=⟨f-1,by simp at hf;omega⟩;rw[x0c];have hx:CelW x:=hw x (by rw[hl];simp);simp only[tfd,tfn,if_pos (idx hl hi hn),b0g hl hi,obs,m0x n hc hx,idxw hl hi hL];by_cases h:(mrgE c x).2=0
  ·rw[if_pos h,ih (pre++[x]) f _ (i+1) len (idxl hl) (idxs hi) hn (by simp at hf;omega) (e2i c x)];simp only[allE,if_pos h]
  ·rw[if_neg h];simp only[allE,if_neg h];rfl
theorem p2i (l:List Cel):∀c,(allE c l).2≠0→(allE c l).1=z0:=by
 induction l with
 | nil=>intro c h;exact absurd rfl h
 | cons x l ih =>
  intro c h;simp only[allE] at h ⊢;split at h
  ·rename_i k;rw[if_pos k];exact ih _ h
  ·rename_i k;rw[if_neg k]
theorem cell_all (n:Nat) (l:List Cel) (hL:l.length≤1000000000000) (hw:∀x∈l,CelW x):t1x (n+7) l=some (allE z0 l):=by
 have:=j2i n z0 l hL hw l [] a0d z0 0 l.length rfl rfl rfl (by unfold a0d;omega) x0z;rw[d2e];have e:o0i (n+6) a0d (((0:Int),(((0:Int),((0:Int),((0:Int),false))),(((0:Int),((0:Int),((0:Int),false))),(((0:Int),(0:Int)),((0:Int),((0:Int),(0:Int))))))),((0:Int),(((0:Int),((0:Int),((0:Int),false))),(((0:Int),((0:Int),((0:Int),false))),(((0:Int),(0:Int)),((0:Int),((0:Int),(0:Int))))))),l,(l.length:Int),(0:Int),())=_:=this;rw[e];by_cases h:(allE z0 l).2=0
 ·rw[if_pos h];simp only[obs,a0n];exact congrArg some (Prod.ext rfl h.symm)
 ·rw[if_neg h];simp only[obs,f0u];exact congrArg some (Prod.ext (p2i l z0 h).symm rfl)
theorem l2n (n:Nat) (s2:Cel) (l:List Cel) (hL:l.length≤1000000000000) (hw:∀x∈l,CelW x):∀(rest pre:List Cel) (f:Nat) (c:Cel) (i len:Int),l=pre++rest→i=pre.length→len=l.length→rest.length<f→CelW c →
  q0h (n+5) f (s2,c,l,len,i,())=some (if (allE c rest).2=0 then .inl (s2,(allE c rest).1,()) else .inr (z0,(allE c rest).2)):=by
 intro rest;induction rest with
 | nil =>
  intro pre f c i len hl hi hn hf hc;obtain ⟨f,rfl⟩:∃g,f=g+1:=⟨f-1,by simp at hf;omega⟩;rw[z0r];simp only[tfd,if_neg (idxe hl hi hn),allE,if_pos trivial]
 | cons x rest ih =>
  intro pre f c i len hl hi hn hf hc;obtain ⟨f,rfl⟩:∃g,f=g+1:=⟨f-1,by simp at hf;omega⟩;rw[z0r];have hx:CelW x:=hw x (by rw[hl];simp);simp only[tfd,tfn,if_pos (idx hl hi hn),b0g hl hi,obs,q0g n hc hx,idxw hl hi hL];by_cases h:(mrgE c x).2=0
  ·rw[if_pos h,ih (pre++[x]) f _ (i+1) len (idxl hl) (idxs hi) hn (by simp at hf;omega) (e2i c x)];simp only[allE,if_pos h]
  ·rw[if_neg h];simp only[allE,if_neg h];rfl
theorem r08_all (n:Nat) (l:List Cel) (hL:l.length≤1000000000000) (hw:∀x∈l,CelW x):b2l (n+6) l=some (allE z0 l):=by
 have:=l2n n z0 l hL hw l [] a0d z0 0 l.length rfl rfl rfl (by unfold a0d;omega) x0z;rw[h2p];have e:q0h (n+5) a0d (((0:Int),(((0:Int),((0:Int),((0:Int),false))),(((0:Int),((0:Int),((0:Int),false))),(((0:Int),(0:Int)),((0:Int),((0:Int),(0:Int))))))),((0:Int),(((0:Int),((0:Int),((0:Int),false))),(((0:Int),((0:Int),((0:Int),false))),(((0:Int),(0:Int)),((0:Int),((0:Int),(0:Int))))))),l,(l.length:Int),(0:Int),())=_:=this;rw[e];by_cases h:(allE z0 l).2=0
 ·rw[if_pos h];simp only[obs,a0n];exact congrArg some (Prod.ext rfl h.symm)
 ·rw[if_neg h];simp only[obs,f0u];exact congrArg some (Prod.ext (p2i l z0 h).symm rfl)
theorem y1c {l:List Ev} {x:Ev}:Foll (l++[x])↔Foll l∧EvOk x∧∀e∈l,e.1<x.1:=by
 rw[s0h];constructor
 ·rintro ⟨h1,h2,h3⟩;exact ⟨h1,h2.ok x (by simp),fun e he=>h3 e he x (by simp)⟩
 ·rintro ⟨h1,h2,h3⟩;refine ⟨h1,⟨by simpa using h2,by simp⟩,fun e he y hy => ?_⟩;simp at hy;subst hy;exact h3 e he
theorem last_all {l:List Ev} (h:Foll l) {x y:Ev} (hy:l.getLast? = some y) (hlt:y.1<x.1):∀e∈l,e.1<x.1:=by
 intro e he;rcases List.eq_nil_or_concat l with rfl | ⟨q,z,rfl⟩
 ·cases he
 rw[List.concat_eq_append] at *
 simp at hy;subst hy;rcases List.mem_append.1 he with h1 | h1
 ·have:=(s0h.1 h).2.2 e h1 z (by simp);omega
 ·simp at h1;subst h1;exact hlt
end Go.Proofs.YtgkpkajaepphjaaGreatDoor

namespace Go.Plim
set_option linter.unusedVariables false
variable {α:Type}
def Srt (key:α→Int) (d:List α) (a b:Nat):Prop:=∀i j x y,a≤i→i<j→j<b→d[i]? = some x→d[j]? = some y→key x≤key y
structure Mv (d d':List α) (a b:Nat):Prop where
 perm:d'.Perm d
 out:∀i,(i<a∨b≤i)→d'[i]? = d[i]?
 ins:∀i x,a≤i→i<b→d'[i]? = some x→∃j,a≤j∧j<b∧d[j]? = some x
theorem Mv.len {d d':List α} {a b:Nat} (h:Mv d d' a b):d'.length=d.length:=h.perm.length_eq
theorem Mv.refl (d:List α) (a b:Nat):Mv d d a b:=⟨.refl _,fun _ _=>rfl,fun i x h1 h2 h=>⟨i,h1,h2,h⟩⟩
theorem Mv.trans {d d' d'':List α} {a b:Nat} (h:Mv d d' a b) (g:Mv d' d'' a b):Mv d d'' a b :=
 ⟨g.perm.trans h.perm,fun i hi=>(g.out i hi).trans (h.out i hi),fun i x h1 h2 hx=>by
  obtain ⟨j,j1,j2,hj⟩:=g.ins i x h1 h2 hx
  exact h.ins j x j1 j2 hj⟩
theorem Mv.mono {d d':List α} {a b a' b':Nat} (h:Mv d d' a b) (ha:a'≤a) (hb:b≤b'):Mv d d' a' b' :=
 ⟨h.perm,fun i hi=>h.out i (by omega),fun i x h1 h2 hx=>by
  by_cases k:a≤i∧i<b
  ·obtain ⟨j,j1,j2,hj⟩:=h.ins i x k.1 k.2 hx;exact ⟨j,by omega,by omega,hj⟩
  ·rw[h.out i (by omega)] at hx
   exact ⟨i,h1,h2,hx⟩⟩
theorem Srt.mono {key:α→Int} {d:List α} {a b a' b':Nat} (h:Srt key d a b) (ha:a≤a') (hb:b'≤b):Srt key d a' b' :=
 fun i j x y h1 h2 h3=>h i j x y (by omega) h2 (by omega)
theorem Srt.keep {key:α→Int} {d d':List α} {a b p q:Nat} (h:Srt key d p q) (m:Mv d d' a b) (hd:q≤a∨b≤p):Srt key d' p q :=
 fun i j x y h1 h2 h3 hx hy=>h i j x y h1 h2 h3 (by rw[←m.out i (by omega)];exact hx) (by rw[←m.out j (by omega)];exact hy)
theorem Srt.one (key:α→Int) (d:List α) {a b:Nat} (h:b≤a+1):Srt key d a b:=fun i j _ _ h1 h2 h3=>by omega
theorem i0d {d:List α} {i j:Nat} {x y:α} (hi:d[i]? = some x) (hj:d[j]? = some y) (k:Nat) :
  ((d.set i y).set j x)[k]? = if k=j then some x else if k=i then some y else d[k]? := by
 have li:=(List.getElem?_eq_some_iff.1 hi).1;have lj:=(List.getElem?_eq_some_iff.1 hj).1;simp only[List.getElem?_set,List.length_set];by_cases e:j=k
 ·subst e;simp[lj]
 ·by_cases e':i=k
  ·subst e';simp[e,li,Ne.symm e]
  ·simp[e,e',Ne.symm e,Ne.symm e']
theorem b1e {d:List α} {i j a b:Nat} {x y:α} (hi:d[i]? = some x) (hj:d[j]? = some y) (i1:a≤i) (i2:i<b) (j1:a≤j) (j2:j<b):Mv d ((d.set i y).set j x) a b:=by
 have li:=(List.getElem?_eq_some_iff.1 hi);have lj:=(List.getElem?_eq_some_iff.1 hj);obtain ⟨li,rfl⟩:=li;obtain ⟨lj,rfl⟩:=lj;refine ⟨List.set_set_perm li lj,fun k hk => ?_,fun k z k1 k2 hz => ?_⟩
 ·rw[i0d hi hj,if_neg (by omega),if_neg (by omega)]
 ·rw[i0d hi hj] at hz;by_cases e:k=j
  ·rw[if_pos e] at hz;exact ⟨i,i1,i2,by rw[←hz,hi]⟩
  ·rw[if_neg e] at hz;by_cases e':k=i
   ·rw[if_pos e'] at hz;exact ⟨j,j1,j2,by rw[←hz,hj]⟩
   ·rw[if_neg e'] at hz;exact ⟨k,k1,k2,hz⟩
structure Turned (d d':List α) (a m b:Nat):Prop where
 mv:Mv d d' a b
 lo:∀i,a≤i→i<a+(b-m)→d'[i]? = d[i+(m-a)]?
 hi:∀i,a+(b-m)≤i→i<b→d'[i]? = d[i-(b-m)]?
theorem c1y {P U V S d d':List α} {a m b:Nat} (hd:d=P++(U++(V++S))) (hd':d'=P++(V++(U++S))) (ha:P.length=a) (hm:a+U.length=m) (hb:m+V.length=b):Turned d d' a m b:=by
 subst hd hd' ha hm hb;have perm:(P++(V++(U++S))).Perm (P++(U++(V++S))):=by
  refine List.Perm.append_left P ?_;rw[←List.append_assoc,←List.append_assoc];exact List.Perm.append_right S List.perm_append_comm
 have out:∀i,(i<P.length∨P.length+U.length+V.length≤i)→(P++(V++(U++S)))[i]? = (P++(U++(V++S)))[i]? := by
  intro i hi;rcases hi with hi | hi
  ·rw[List.getElem?_append_left hi,List.getElem?_append_left hi]
  ·rw[List.getElem?_append_right (by omega),List.getElem?_append_right (by omega),List.getElem?_append_right (by omega),List.getElem?_append_right (by omega),List.getElem?_append_right (by omega),List.getElem?_append_right (by omega)];congr 1;omega
 have lo:∀i,P.length≤i→i<P.length+(P.length+U.length+V.length-(P.length+U.length))→(P++(V++(U++S)))[i]? = (P++(U++(V++S)))[i+(P.length+U.length-P.length)]? := by
  intro i h1 h2;rw[List.getElem?_append_right (by omega),List.getElem?_append_left (by omega),List.getElem?_append_right (by omega),List.getElem?_append_right (by omega),List.getElem?_append_left (by omega)];congr 1;omega
 have hi:∀i,P.length+(P.length+U.length+V.length-(P.length+U.length))≤i→i<P.length+U.length+V.length→(P++(V++(U++S)))[i]? = (P++(U++(V++S)))[i-(P.length+U.length+V.length-(P.length+U.length))]? := by
  intro i h1 h2;rw[List.getElem?_append_right (by omega),List.getElem?_append_right (by omega),List.getElem?_append_left (by omega),List.getElem?_append_right (by omega),List.getElem?_append_left (by omega)];congr 1;omega
 refine ⟨⟨perm,out,fun i x h1 h2 hx => ?_⟩,lo,hi⟩;by_cases k:i<P.length+(P.length+U.length+V.length-(P.length+U.length))
 ·rw[lo i h1 k] at hx;exact ⟨_,by omega,by omega,hx⟩
 ·rw[hi i (by omega) h2] at hx;exact ⟨_,by omega,by omega,hx⟩
theorem turned_refl (d:List α) {a m b:Nat} (h:(a≤m∧m=b)∨(a=m∧m≤b)):Turned d d a m b:=by
 rcases h with ⟨h1,rfl⟩ | ⟨rfl,h1⟩
 ·exact ⟨.refl _ _ _,fun i h2 h3=>by omega,fun i h2 h3=>by simp⟩
 ·exact ⟨.refl _ _ _,fun i h2 h3=>by simp,fun i h2 h3=>by omega⟩
theorem cut4 (d:List α) {a m b:Nat} (h1:a≤m) (h2:m≤b) (h3:b≤d.length) :
  ∃P U V S,d=P++(U++(V++S))∧P.length=a∧a+U.length=m∧m+V.length=b:=by
 refine ⟨d.take a,(d.drop a).take (m-a),(d.drop m).take (b-m),d.drop b,?_,?_,?_,?_⟩
 ·have e1:(d.drop m).take (b-m)++d.drop b=d.drop m:=by
   conv=>rhs;rw[←List.take_append_drop (b-m) (d.drop m),List.drop_drop]
   rw[show m+(b-m)=b by omega]
  have e2:(d.drop a).take (m-a)++d.drop m=d.drop a:=by
   conv=>rhs;rw[←List.take_append_drop (m-a) (d.drop a),List.drop_drop]
   rw[show a+(m-a)=m by omega]
  rw[e1,e2,List.take_append_drop]
 all_goals simp
 all_goals omega
theorem halves {key:α→Int} {d d':List α} {a m b mid s e:Nat} (h1:Srt key d a m) (h2:Srt key d m b) (t:Turned d d' s m e)
  (k1:a≤s) (k2:s≤m) (k3:m≤e) (k4:e≤b) (k5:e+s=mid+m) (hb:b≤d.length)
  (c1:∀x y,a<s→e<b→d[s-1]? = some x→d[e]? = some y→key x≤key y)
  (c2:∀x y,s<m→m<e→d[e-1]? = some x→d[s]? = some y→key x≤key y) :
  (Srt key d' a s∧Srt key d' s mid∧Srt key d' mid e∧Srt key d' e b) ∧
  ∀i j x y,a≤i→i<mid→mid≤j→j<b→d'[i]? = some x→d'[j]? = some y→key x≤key y:=by
 have lo:=t.lo;have hi:=t.hi;have out:=t.mv.out;have e1:s+(e-m)=mid:=by omega
 rw[e1] at lo hi;have le1:∀ {i j x y},a≤i→i≤j→j<m→d[i]? = some x→d[j]? = some y→key x≤key y:=by
  intro i j x y q1 q2 q3 hx hy;rcases Nat.lt_or_eq_of_le q2 with q | q
  ·exact h1 i j x y q1 q q3 hx hy
  ·subst q;rw[hx] at hy;injection hy with hy;subst hy;exact Int.le_refl _
 have le2:∀ {i j x y},m≤i→i≤j→j<b→d[i]? = some x→d[j]? = some y→key x≤key y:=by
  intro i j x y q1 q2 q3 hx hy;rcases Nat.lt_or_eq_of_le q2 with q | q
  ·exact h2 i j x y q1 q q3 hx hy
  ·subst q;rw[hx] at hy;injection hy with hy;subst hy;exact Int.le_refl _
 have getm:∀i,i<d.length→∃x,d[i]? = some x:=fun i h=>⟨d[i],List.getElem?_eq_getElem h⟩
 refine ⟨⟨?_,?_,?_,?_⟩,?_⟩
 ·intro i j x y q1 q2 q3 hx hy;rw[out i (by omega)] at hx;rw[out j (by omega)] at hy;exact h1 i j x y q1 q2 (by omega) hx hy
 ·intro i j x y q1 q2 q3 hx hy;rw[lo i (by omega) (by omega)] at hx;rw[lo j (by omega) (by omega)] at hy;exact h2 _ _ x y (by omega) (by omega) (by omega) hx hy
 ·intro i j x y q1 q2 q3 hx hy;rw[hi i (by omega) (by omega)] at hx;rw[hi j (by omega) (by omega)] at hy;exact h1 _ _ x y (by omega) (by omega) (by omega) hx hy
 ·intro i j x y q1 q2 q3 hx hy;rw[out i (by omega)] at hx;rw[out j (by omega)] at hy;exact h2 i j x y (by omega) q2 q3 hx hy
 ·intro i j x y q1 q2 q3 q4 hx hy;by_cases r1:i<s
  ·rw[out i (by omega)] at hx;by_cases r2:j<e
   ·rw[hi j (by omega) (by omega)] at hy;exact le1 (by omega) (by omega) (by omega) hx hy
   ·rw[out j (by omega)] at hy;obtain ⟨u,hu⟩:=getm (s-1) (by omega);obtain ⟨v,hv⟩:=getm e (by omega);have:=c1 u v (by omega) (by omega) hu hv;have:=le1 (i:=i) (j:=s-1) (by omega) (by omega) (by omega) hx hu;have:=le2 (i:=e) (j:=j) (by omega) (by omega) (by omega) hv hy;omega
  ·rw[lo i (by omega) (by omega)] at hx;by_cases r2:j<e
   ·rw[hi j (by omega) (by omega)] at hy;obtain ⟨u,hu⟩:=getm (e-1) (by omega);obtain ⟨v,hv⟩:=getm s (by omega);have:=c2 u v (by omega) (by omega) hu hv;have:=le2 (i:=i+(m-s)) (j:=e-1) (by omega) (by omega) (by omega) hx hu;have:=le1 (i:=s) (j:=j-(e-m)) (by omega) (by omega) (by omega) hv hy;omega
   ·rw[out j (by omega)] at hy;exact le2 (by omega) (by omega) (by omega) hx hy
theorem Srt.join {key:α→Int} {d:List α} {a m b:Nat} (h1:Srt key d a m) (h2:Srt key d m b) (h:∀i j x y,a≤i→i<m→m≤j→j<b→d[i]? = some x→d[j]? = some y→key x≤key y):Srt key d a b:=by
 intro i j x y q1 q2 q3 hx hy;by_cases r1:j<m
 ·exact h1 i j x y q1 q2 r1 hx hy
 ·by_cases r2:m≤i
  ·exact h2 i j x y r2 q2 q3 hx hy
  ·exact h i j x y q1 (by omega) (by omega) q3 hx hy
theorem t1l {key:α→Int} {d d':List α} {a m b:Nat} (h:∀i j x y,a≤i→i<m→m≤j→j<b→d[i]? = some x→d[j]? = some y→key x≤key y)
  (t:Mv d d' a m∨Mv d d' m b):∀i j x y,a≤i→i<m→m≤j→j<b→d'[i]? = some x→d'[j]? = some y→key x≤key y:=by
 intro i j x y q1 q2 q3 q4 hx hy;rcases t with t | t
 ·obtain ⟨k,k1,k2,hk⟩:=t.ins i x q1 q2 hx;rw[t.out j (by omega)] at hy;exact h k j x y k1 k2 q3 q4 hk hy
 ·obtain ⟨k,k1,k2,hk⟩:=t.ins j y q3 q4 hy;rw[t.out i (by omega)] at hx;exact h i k x y q1 q2 k1 k2 hx hk
end Go.Plim

namespace Go.Proofs.YtgkpkajaepphjaaGreatDoor
open Go.Flat Go.Plim
set_option linter.unusedVariables false
set_option linter.unusedSimpArgs false
theorem m0c {α:Type} (xs:List α) (i:Nat):at? xs (i:Int)=xs[i]? := by simp[at?]
theorem at_some {α:Type} {xs:List α} {i:Nat} (h:i<xs.length):at? xs (i:Int)=some xs[i]:=by simp[at?,h]
theorem wn {x:Int} {k:Nat} (h:x=k) (hk:k≤4000000000000):IntKind.wrap .i64 x=(k:Int):=by rw[w64 (by omega) (by omega),h]
theorem o0u (a b:Nat) (h:a+b≤4000000000000):IntKind.wrap .i64 (shrI .u64 (IntKind.wrap .u64 (IntKind.wrap .i64 ((a:Int)+(b:Int)))) 1)=(((a+b) / 2:Nat):Int):=by
 rw[w64 (x:=(a:Int)+b) (by omega) (by omega),wu64 (by omega) (by omega)];have e:shrI .u64 ((a:Int)+(b:Int)) 1=(((a+b) / 2:Nat):Int):=by
  show Int.fdiv ((a:Int)+b) (2^(min 1 64))=_;rw[show ((2:Int)^(min 1 64))=2 from by decide,Int.fdiv_eq_ediv_of_nonneg _ (by decide)];omega
 rw[e,w64 (by omega) (by omega)]
theorem j2y {α:Type} (p q:Prop) [Decidable p] [Decidable q] (x y:α):tif (decide p) (tif (decide q) x y) y=if p∧q then x else y:=by
 by_cases hp:p<;>by_cases hq:q<;>simp[hp,hq]
def Cmp (cmp:(a0f×(a0f×Unit))→Option Int) (key:a0f→Int):Prop:=∀x y,∃c,cmp (x,(y,()))=some c∧(c<0↔key x<key y)
section
variable {cmp:(a0f×(a0f×Unit))→Option Int} {key:a0f→Int} (hc:Cmp cmp key)
include hc
theorem ins_l4 (n:Nat) (a b:Int) (an i:Nat) (ha:a=an):∀(k f:Nat) (d:List a0f),k≤i-an→an+k≤i→k<f→i<d.length→d.length≤1000000000000 →
  (∀p q x y,an≤p→p<q→q≤i→p≠an+k→q≠an+k→d[p]? = some x→d[q]? = some y→key x≤key y) →
  (∀q x y,an+k<q→q≤i→d[an+k]? = some x→d[q]? = some y→key x≤key y) →
  ∃d',v0g n f (d,a,b,cmp,(i:Int),((an+k:Nat):Int),())=some (.inl (d',a,b,cmp,(i:Int),()))∧Mv d d' an (i+1)∧Srt key d' an (i+1):=by
 subst ha;intro k;induction k with
 | zero =>
  intro f d hk hi hf hl hL h1 h2;obtain ⟨f,rfl⟩:∃g,f=g+1:=⟨f-1,by omega⟩;rw[y0x];simp only[tfd,if_neg (show ¬((an:Int)<((an+0:Nat):Int)) by omega)];refine ⟨d,rfl,.refl _ _ _,fun p q x y q1 q2 q3 hx hy => ?_⟩;by_cases e:p=an+0
  ·subst e;exact h2 q x y q2 (by omega) hx hy
  ·exact h1 p q x y q1 q2 (by omega) e (by omega) hx hy
 | succ k ih =>
  intro f d hk hi hf hl hL h1 h2;obtain ⟨f,rfl⟩:∃g,f=g+1:=⟨f-1,by omega⟩;rw[y0x];have e1:IntKind.wrap .i64 (((an+(k+1):Nat):Int)-1)=((an+k:Nat):Int):=wn (by omega) (by omega);have lj:an+(k+1)<d.length:=by omega
  have lk:an+k<d.length:=by omega
  obtain ⟨c,hcm,hlt⟩:=hc d[an+(k+1)] d[an+k];have gj:d[an+(k+1)]? = some d[an+(k+1)]:=List.getElem?_eq_getElem lj;have gk:d[an+k]? = some d[an+k]:=List.getElem?_eq_getElem lk;simp only[tfd,if_pos (show ((an:Int)<((an+(k+1):Nat):Int)) by omega),e1,m0c,Int.toNat_natCast,gj,gk,obs,hcm];by_cases hlt':c<0
  ·have kl:=hlt.1 hlt';have g1:(d.set (an+(k+1)) d[an+k])[an+k]? = some d[an+k]:=by rw[List.getElem?_set_ne (by omega)];exact gk
   simp only[if_pos hlt',g1,obs];have sg:=i0d (d:=d) gj gk;have mv:=b1e (d:=d) (a:=an) (b:=i+1) gj gk (by omega) (by omega) (by omega) (by omega);obtain ⟨d',r1,r2,r3⟩:=ih f ((d.set (an+(k+1)) d[an+k]).set (an+k) d[an+(k+1)]) (by omega) (by omega) (by omega) (by simpa using hl) (by simpa using hL)
    (fun p q x y q1 q2 q3 p1 p2 hx hy=>by
     rw[sg] at hx hy;rw[if_neg p1] at hx;rw[if_neg p2] at hy;by_cases ep:p=an+(k+1)
     ·rw[if_pos ep] at hx;rw[if_neg (by omega)] at hy;have:d[an+k]? = some x:=by rw[gk];exact hx
      exact h1 (an+k) q x y (by omega) (by omega) q3 (by omega) (by omega) this hy
     ·rw[if_neg ep] at hx;by_cases eq:q=an+(k+1)
      ·rw[if_pos eq] at hy;have:d[an+k]? = some y:=by rw[gk];exact hy
       exact h1 p (an+k) x y q1 (by omega) (by omega) ep (by omega) hx this
      ·rw[if_neg eq] at hy
       exact h1 p q x y q1 q2 q3 ep eq hx hy)
    (fun q x y q1 q2 hx hy=>by
     rw[sg] at hx hy;rw[if_pos rfl] at hx;injection hx with hx;subst hx;rw[if_neg (by omega)] at hy;by_cases eq:q=an+(k+1)
     ·rw[if_pos eq] at hy;injection hy with hy;subst hy;omega
     ·rw[if_neg eq] at hy
      exact h2 q _ y (by omega) q2 gj hy)
   exact ⟨d',r1,mv.trans r2,r3⟩
  ·simp only[if_neg hlt'];refine ⟨d,rfl,.refl _ _ _,fun p q x y q1 q2 q3 hx hy => ?_⟩;have kl:key d[an+k]≤key d[an+(k+1)]:=by
    have:=mt hlt.2 hlt';omega
   by_cases ep:p=an+(k+1)
   ·subst ep;exact h2 q x y q2 (by omega) hx hy
   ·by_cases eq:q=an+(k+1)
    ·subst eq;rw[gj] at hy;injection hy with hy;subst hy;by_cases e3:p=an+k
     ·subst e3;rw[gk] at hx;injection hx with hx;subst hx;exact kl
     ·have:=h1 p (an+k) x _ q1 (by omega) (by omega) ep (by omega) hx gk;omega
    ·exact h1 p q x y q1 q2 (by omega) ep eq hx hy
theorem ins_l1 (n:Nat) (a b:Int) (an bn:Nat) (ha:a=an) (hb:b=bn):∀(k f:Nat) (i:Nat) (d:List a0f),bn-i≤k→k<f→an<i→(i≤bn∨bn≤an+1)→bn≤d.length→d.length≤1000000000000→Srt key d an i →
  ∃d',v0h n f (d,a,b,cmp,(i:Int),())=some (.inl (d',()))∧Mv d d' an bn∧Srt key d' an bn:=by
 intro k;induction k with
 | zero =>
  intro f i d hk hf hi hib hl hL hs;obtain ⟨f,rfl⟩:∃g,f=g+1:=⟨f-1,by omega⟩;rw[y0y];subst ha hb;simp only[tfd,if_neg (show ¬((i:Int)<(bn:Int)) by omega)];exact ⟨d,rfl,.refl _ _ _,hs.mono (by omega) (by omega)⟩
 | succ k ih =>
  intro f i d hk hf hi hib hl hL hs;obtain ⟨f,rfl⟩:∃g,f=g+1:=⟨f-1,by omega⟩;rw[y0y];by_cases hlt:i<bn
  ·obtain ⟨d',r1,r2,r3⟩:=ins_l4 hc n a b an i ha (i-an) a0d d (by omega) (by omega) (by unfold a0d;omega) (by omega) hL
    (fun p q x y q1 q2 q3 p1 p2 hx hy=>hs p q x y q1 q2 (by omega) hx hy) (fun q x y q1 q2=>by omega)
   rw[show an+(i-an)=i by omega] at r1;subst ha hb;simp only[tfd,if_pos (show ((i:Int)<(bn:Int)) by omega),r1,obs,a0n];rw[wn (k:=i+1) (by omega) (by omega)];have ml:=r2.len;obtain ⟨d'',s1,s2,s3⟩:=ih f (i+1) d' (by omega) (by omega) (by omega) (by omega) (by omega) (by omega) r3;exact ⟨d'',s1,(r2.mono (by omega) (by omega)).trans s2,s3⟩
  ·subst ha hb;simp only[tfd,if_neg (show ¬((i:Int)<(bn:Int)) by omega)];exact ⟨d,rfl,.refl _ _ _,hs.mono (by omega) (by omega)⟩
theorem ins_ok (n:Nat) (a b:Int) (an bn:Nat) (ha:a=an) (hb:b=bn) (d:List a0f) (hab:an≤bn) (hl:bn≤d.length) (hL:d.length≤1000000000000) :
  ∃d',q1k (n+1) d a b cmp=some d'∧Mv d d' an bn∧Srt key d' an bn:=by
 rw[g2r];have e:IntKind.wrap .i64 (a+1)=((an+1:Nat):Int):=wn (by omega) (by omega);rw[e];obtain ⟨d',r1,r2,r3⟩:=ins_l1 hc n a b an bn ha hb bn a0d (an+1) d (by omega) (by unfold a0d;omega) (by omega) (by omega) hl hL (Srt.one _ _ (by omega));rw[r1];exact ⟨d',by simp,r2,r3⟩
omit hc in
theorem u1u (n:Nat) (a b m:Int) (P:List a0f):∀(k f i:Nat) (X X' M Y Y' S:List a0f),X'.length=k→Y'.length=k→X.length=i→Y.length=i→k<f →
  a=P.length→b=P.length+X.length+X'.length+M.length→m=i+k→b+m≤2000000000000 →
  v0e n f (P++(Y++(X'++(M++(X++(Y'++S))))),a,b,m,(i:Int),())=some (.inl (P++(Y++(Y'++(M++(X++(X'++S))))),())):=by
 intro k;induction k with
 | zero =>
  intro f i X X' M Y Y' S h1 h2 h3 h4 hf ha hb hm hs;obtain ⟨f,rfl⟩:∃g,f=g+1:=⟨f-1,by omega⟩;obtain rfl:=List.length_eq_zero_iff.1 h1;obtain rfl:=List.length_eq_zero_iff.1 h2;rw[y0t];simp only[tfd,if_neg (show ¬((i:Int)<m) by omega)]
 | succ k ih =>
  intro f i X X' M Y Y' S h1 h2 h3 h4 hf ha hb hm hs;obtain ⟨f,rfl⟩:∃g,f=g+1:=⟨f-1,by omega⟩
  match X',Y' with
  | x::X',y::Y' =>
   simp only[List.length_cons] at h1 h2 hb;rw[y0t];have ea:IntKind.wrap .i64 (a+(i:Int))=((P.length+i:Nat):Int):=wn (by omega) (by omega);have eb:IntKind.wrap .i64 (b+(i:Int))=((P.length+i+(k+1)+M.length+i:Nat):Int):=wn (by omega) (by omega);have g1:(P++(Y++(x::X'++(M++(X++(y::Y'++S))))))[P.length+i]? = some x:=by
    rw[List.getElem?_append_right (by omega),List.getElem?_append_right (by omega)];rw[show P.length+i-P.length-Y.length=0 by omega];rfl
   have g2:(P++(Y++(x::X'++(M++(X++(y::Y'++S))))))[P.length+i+(k+1)+M.length+i]? = some y:=by
    rw[List.getElem?_append_right (by omega),List.getElem?_append_right (by omega),List.getElem?_append_right (by simp;omega),List.getElem?_append_right (by simp;omega),List.getElem?_append_right (by simp;omega)];simp only[List.length_cons];rw[show P.length+i+(k+1)+M.length+i-P.length-Y.length-(X'.length+1)-M.length-X.length=0 by omega];rfl
   have s1:(P++(Y++(x::X'++(M++(X++(y::Y'++S)))))).set (P.length+i) y=P++(Y++(y::X'++(M++(X++(y::Y'++S))))):=by
    rw[List.set_append_right _ _ (by omega),List.set_append_right _ _ (by omega),show P.length+i-P.length-Y.length=0 by omega];rfl
   have s2:(P++(Y++(y::X'++(M++(X++(y::Y'++S)))))).set (P.length+i+(k+1)+M.length+i) x=P++(Y++(y::X'++(M++(X++(x::Y'++S))))):=by
    rw[List.set_append_right _ _ (by omega),List.set_append_right _ _ (by omega),List.set_append_right _ _ (by simp;omega),List.set_append_right _ _ (by simp;omega),List.set_append_right _ _ (by simp;omega)];simp only[List.length_cons];rw[show P.length+i+(k+1)+M.length+i-P.length-Y.length-(X'.length+1)-M.length-X.length=0 by omega];rfl
   have g3:(P++(Y++(y::X'++(M++(X++(y::Y'++S))))))[P.length+i+(k+1)+M.length+i]? = some y:=by
    rw[List.getElem?_append_right (by omega),List.getElem?_append_right (by omega),List.getElem?_append_right (by simp;omega),List.getElem?_append_right (by simp;omega),List.getElem?_append_right (by simp;omega)];simp only[List.length_cons];rw[show P.length+i+(k+1)+M.length+i-P.length-Y.length-(X'.length+1)-M.length-X.length=0 by omega];rfl
   simp only[tfd,if_pos (show ((i:Int)<m) by omega),ea,eb,m0c,Int.toNat_natCast,g1,g2,s1,g3,s2,obs];have e6:IntKind.wrap .i64 ((i:Int)+1)=((i+1:Nat):Int):=wn (by omega) (by omega);rw[e6];have:=ih f (i+1) (X++[x]) X' M (Y++[y]) Y' S (by omega) (by omega) (by simp;omega) (by simp;omega) (by omega) ha (by simp;omega) (by omega) hs;simp only[List.append_assoc,List.singleton_append,List.cons_append] at this ⊢;exact this
omit hc in
theorem s0y (n:Nat) (a b m:Int) (P X M Y S:List a0f) (h:X.length=Y.length) (ha:a=P.length) (hb:b=P.length+X.length+M.length) (hm:m=X.length) (hs:b+m≤2000000000000) (d:List a0f) (hd:d=P++(X++(M++(Y++S)))) :
  f1s (n+1) d a b m cmp=some (P++(Y++(M++(X++S)))):=by
 subst hd;rw[g2o];have:=u1u n a b m P X.length a0d 0 [] X M [] Y S rfl h.symm rfl rfl (by unfold a0d;omega) ha (by simp;omega) (by omega) hs;simp only[List.nil_append] at this;rw[show ((0:Int))=((0:Nat):Int) from rfl,this];simp
omit hc in
theorem k2x (n:Nat) (m:Int):∀(k f:Nat) (P U V S d:List a0f) (i j:Int),U.length+V.length≤k→k<f→U≠[]→V≠[]→i=U.length→j=V.length→m=P.length+U.length→m+j≤1000000000000→d=P++(U++(V++S)) →
  ∃P' U' V' S' d',p0u (n+1) f (d,m,cmp,i,j,())=some (.inl (d',m,cmp,(U'.length:Int),()))∧U'.length=V'.length∧m=P'.length+U'.length∧d'=P'++(U'++(V'++S'))∧P'++(V'++(U'++S'))=P++(V++(U++S)):=by
 intro k;induction k with
 | zero =>
  intro f P U V S d i j hk hf hu hv;exact absurd (List.length_eq_zero_iff.1 (show U.length=0 by omega)) hu
 | succ k ih =>
  intro f P U V S d i j hk hf hu hv hi hj hm hmj hd;obtain ⟨f,rfl⟩:∃g,f=g+1:=⟨f-1,by omega⟩;have lu:=List.length_pos_iff.2 hu;have lv:=List.length_pos_iff.2 hv;rw[q1j];by_cases e:i=j
  ·simp only[tfn,tfd,if_pos e];exact ⟨P,U,V,S,d,by rw[hi],by omega,hm,hd,rfl⟩
  ·by_cases lt:j<i
   ·-- the front of U with V
    have hU:U=U.take V.length++U.drop V.length:=(List.take_append_drop _ _).symm;have l1:(U.take V.length).length=V.length:=by simp;omega
    have l2:(U.drop V.length).length=U.length-V.length:=by simp
    have hs:=s0y (cmp:=cmp) n (P.length:Int) m j P (U.take V.length) (U.drop V.length) V S l1 rfl (by omega) (by omega) (by omega) d (by rw[hd,←List.append_assoc (U.take V.length),←hU]);have e1:IntKind.wrap .i64 (m-i)=(P.length:Int):=wn (by omega) (by omega);have e2:IntKind.wrap .i64 (i-j)=((U.drop V.length).length:Int):=wn (by omega) (by omega);simp only[tfn,tfd,if_neg e,if_pos lt,e1,e2,hs,obs]
    obtain ⟨P',U',V',S',d',r1,r2,r3,r4,r5⟩:=ih f (P++V) (U.drop V.length) (U.take V.length) S (P++(V++(U.drop V.length++(U.take V.length++S)))) ((U.drop V.length).length:Int) j (by omega) (by omega)
     (by intro h;rw[h] at l2;simp at l2;omega) (by intro h;rw[h] at l1;simp at l1;omega) rfl (by omega) (by simp;omega) hmj (by simp only[List.append_assoc])
    exact ⟨P',U',V',S',d',r1,r2,r3,r4,by rw[r5];rw[List.append_assoc,←List.append_assoc (U.take V.length),←hU]⟩
   ·have hV:V=V.take (V.length-U.length)++V.drop (V.length-U.length):=(List.take_append_drop _ _).symm;have l1:(V.take (V.length-U.length)).length=V.length-U.length:=by simp
    have l2:(V.drop (V.length-U.length)).length=U.length:=by simp;omega
    have hs:=s0y (cmp:=cmp) n (P.length:Int) (m+j-i) i P U (V.take (V.length-U.length)) (V.drop (V.length-U.length)) S l2.symm rfl (by omega) (by omega) (by omega) d (by rw[hd,←List.append_assoc (V.take _) (V.drop _) S,←hV]);have e1:IntKind.wrap .i64 (m-i)=(P.length:Int):=wn (by omega) (by omega);have e2:IntKind.wrap .i64 (j-i)=((V.take (V.length-U.length)).length:Int):=wn (by omega) (by omega);have e3:IntKind.wrap .i64 (IntKind.wrap .i64 (m+j)-i)=m+j-i:=by rw[w64 (x:=m+j) (by omega) (by omega),w64 (by omega) (by omega)]
    simp only[tfn,tfd,if_neg e,if_neg lt,e1,e2,e3,hs,obs];obtain ⟨P',U',V',S',d',r1,r2,r3,r4,r5⟩:=ih f P (V.drop (V.length-U.length)) (V.take (V.length-U.length)) (U++S) _ i ((V.take (V.length-U.length)).length:Int) (by omega) (by omega)
     (by intro h;rw[h] at l2;simp at l2;omega) (by intro h;rw[h] at l1;simp at l1;omega) (by omega) rfl (by omega) (by omega) rfl
    exact ⟨P',U',V',S',d',r1,r2,r3,r4,by rw[r5];rw[←List.append_assoc (V.take _) (V.drop _),←hV]⟩
omit hc in
theorem k2w (n:Nat) (a m b:Int) (an mn bn:Nat) (ha:a=an) (hm:m=mn) (hb:b=bn) (d:List a0f) (h1:an<mn) (h2:mn<bn) (hl:bn≤d.length) (hL:d.length≤1000000000000) :
  ∃d',f1t (n+2) d a m b cmp=some d'∧Turned d d' an mn bn:=by
 obtain ⟨P,U,V,S,hd,la,lm,lb⟩:=cut4 d (a:=an) (m:=mn) (b:=bn) (by omega) (by omega) hl;rw[g2q];have e1:IntKind.wrap .i64 (m-a)=(U.length:Int):=wn (by omega) (by omega);have e2:IntKind.wrap .i64 (b-m)=(V.length:Int):=wn (by omega) (by omega);have hfl:U.length+V.length<a0d:=by
  have:d.length=P.length+(U.length+(V.length+S.length)):=by rw[hd];simp
  unfold a0d;omega
 have hu:U≠[]:=by intro h;rw[h] at lm;simp at lm;omega
 have hv:V≠[]:=by intro h;rw[h] at lb;simp at lb;omega
 obtain ⟨P',U',V',S',d',r1,r2,r3,r4,r5⟩:=k2x (cmp:=cmp) n m (U.length+V.length) a0d P U V S d (U.length:Int) (V.length:Int) (by omega) hfl hu hv rfl rfl (by omega) (by omega) hd;have ld:d'.length=d.length:=by
  have:=congrArg List.length r5;rw[r4,hd];simp at this ⊢;omega
 have hs:=s0y (cmp:=cmp) n (P'.length:Int) m (U'.length:Int) P' U' [] V' S' r2 rfl (by simp;omega) rfl (by rw[r4] at ld;simp at ld;omega) d' (by rw[r4];simp);simp only[e1,e2,r1,obs,a0n,wn (x:=m-(U'.length:Int)) (k:=P'.length) (by omega) (by rw[r4] at ld;simp at ld;omega),hs];simp only[List.nil_append];exact ⟨_,rfl,c1y (P:=P) (U:=U) (V:=V) (S:=S) hd r5 la lm lb⟩
theorem sym_l3 (n:Nat) (a:Int) (an:Nat) (ha:a=an) (d:List a0f) (x:a0f) (hx:d[an]? = some x) (hL:d.length≤1000000000000) (lo hi:Nat) (hs:Srt key d lo hi) (hh:hi≤d.length):∀(k f i j:Nat),j-i≤k→k<f→i≤j→lo≤i→j≤hi →
  (∀p y,lo≤p→p<i→d[p]? = some y→key y<key x)→(∀p y,j≤p→p<hi→d[p]? = some y→key x≤key y) →
  ∃r:Nat,p0s n f (d,a,cmp,(i:Int),(j:Int),())=some (.inl (d,a,(r:Int),()))∧lo≤r∧r≤hi ∧
   (∀p y,lo≤p→p<r→d[p]? = some y→key y<key x)∧(∀p y,r≤p→p<hi→d[p]? = some y→key x≤key y):=by
 subst ha;intro k;induction k with
 | zero =>
  intro f i j hk hf hij hi hj h1 h2;obtain ⟨f,rfl⟩:∃g,f=g+1:=⟨f-1,by omega⟩;rw[y0s];simp only[tfd,if_neg (show ¬((i:Int)<(j:Int)) by omega)];have e:i=j:=by omega
  subst e;exact ⟨i,rfl,by omega,by omega,h1,h2⟩
 | succ k ih =>
  intro f i j hk hf hij hi hj h1 h2;obtain ⟨f,rfl⟩:∃g,f=g+1:=⟨f-1,by omega⟩;rw[y0s];by_cases lt:i<j
  ·have e1:=o0u i j (by omega);have lh:(i+j) / 2<d.length:=by omega
   obtain ⟨c,hcm,hlt⟩:=hc d[(i+j) / 2] x;have gh:d[(i+j) / 2]? = some d[(i+j) / 2]:=List.getElem?_eq_getElem lh;simp only[tfd,if_pos (show ((i:Int)<(j:Int)) by omega),e1,m0c,Int.toNat_natCast,gh,hx,obs,hcm];by_cases hlt':c<0
   ·have kl:=hlt.1 hlt';simp only[if_pos hlt'];rw[wn (x:=(((i+j) / 2:Nat):Int)+1) (k:=(i+j) / 2+1) (by omega) (by omega)];refine ih f ((i+j) / 2+1) j (by omega) (by omega) (by omega) (by omega) hj (fun p y p1 p2 hy => ?_) h2;by_cases ep:p=(i+j) / 2
    ·subst ep;rw[gh] at hy;injection hy with hy;subst hy;exact kl
    ·have:=hs p ((i+j) / 2) y _ p1 (by omega) (by omega) hy gh;omega
   ·have kl:key x≤key d[(i+j) / 2]:=by have:=mt hlt.2 hlt';omega
    simp only[if_neg hlt'];refine ih f i ((i+j) / 2) (by omega) (by omega) (by omega) hi (by omega) h1 (fun p y p1 p2 hy => ?_);by_cases ep:p=(i+j) / 2
    ·subst ep;rw[gh] at hy;injection hy with hy;subst hy;exact kl
    ·have:=hs ((i+j) / 2) p _ y (by omega) (by omega) (by omega) gh hy;omega
  ·simp only[tfd,if_neg (show ¬((i:Int)<(j:Int)) by omega)];have e:i=j:=by omega
   subst e;exact ⟨i,rfl,by omega,by omega,h1,h2⟩
theorem sym_l15 (n:Nat) (m:Int) (mn:Nat) (hm:m=mn) (d:List a0f) (x:a0f) (hx:d[mn]? = some x) (hL:d.length≤1000000000000) (lo hi:Nat) (hs:Srt key d lo hi) (hh:hi≤d.length):∀(k f i j:Nat),j-i≤k→k<f→i≤j→lo≤i→j≤hi →
  (∀p y,lo≤p→p<i→d[p]? = some y→key y≤key x)→(∀p y,j≤p→p<hi→d[p]? = some y→key x<key y) →
  ∃r:Nat,n0o n f (d,m,cmp,(i:Int),(j:Int),())=some (.inl (d,m,(r:Int),()))∧lo≤r∧r≤hi ∧
   (∀p y,lo≤p→p<r→d[p]? = some y→key y≤key x)∧(∀p y,r≤p→p<hi→d[p]? = some y→key x<key y):=by
 subst hm;intro k;induction k with
 | zero =>
  intro f i j hk hf hij hi hj h1 h2;obtain ⟨f,rfl⟩:∃g,f=g+1:=⟨f-1,by omega⟩;rw[w0i];simp only[tfd,if_neg (show ¬((i:Int)<(j:Int)) by omega)];have e:i=j:=by omega
  subst e;exact ⟨i,rfl,by omega,by omega,h1,h2⟩
 | succ k ih =>
  intro f i j hk hf hij hi hj h1 h2;obtain ⟨f,rfl⟩:∃g,f=g+1:=⟨f-1,by omega⟩;rw[w0i];by_cases lt:i<j
  ·have e1:=o0u i j (by omega);have lh:(i+j) / 2<d.length:=by omega
   obtain ⟨c,hcm,hlt⟩:=hc x d[(i+j) / 2];have gh:d[(i+j) / 2]? = some d[(i+j) / 2]:=List.getElem?_eq_getElem lh;simp only[tfn,tfd,if_pos (show ((i:Int)<(j:Int)) by omega),e1,m0c,Int.toNat_natCast,gh,hx,obs,hcm];by_cases hlt':c<0
   ·have kl:=hlt.1 hlt';simp only[if_pos hlt'];refine ih f i ((i+j) / 2) (by omega) (by omega) (by omega) hi (by omega) h1 (fun p y p1 p2 hy => ?_);by_cases ep:p=(i+j) / 2
    ·subst ep;rw[gh] at hy;injection hy with hy;subst hy;exact kl
    ·have:=hs ((i+j) / 2) p _ y (by omega) (by omega) (by omega) gh hy;omega
   ·have kl:key d[(i+j) / 2]≤key x:=by have:=mt hlt.2 hlt';omega
    simp only[if_neg hlt'];rw[wn (x:=(((i+j) / 2:Nat):Int)+1) (k:=(i+j) / 2+1) (by omega) (by omega)];refine ih f ((i+j) / 2+1) j (by omega) (by omega) (by omega) (by omega) hj (fun p y p1 p2 hy => ?_) h2;by_cases ep:p=(i+j) / 2
    ·subst ep;rw[gh] at hy;injection hy with hy;subst hy;exact kl
    ·have:=hs p ((i+j) / 2) y _ p1 (by omega) (by omega) hy gh;omega
  ·simp only[tfd,if_neg (show ¬((i:Int)<(j:Int)) by omega)];have e:i=j:=by omega
   subst e;exact ⟨i,rfl,by omega,by omega,h1,h2⟩
end
abbrev Lab:=List UInt8×List UInt8
def sgn (c:Int):Prop:=(97≤c∧c≤122)∨(65≤c∧c≤90)∨(48≤c∧c≤57)∨c=95
instance (c:Int):Decidable (sgn c):=by unfold sgn;infer_instance
def d1r (c:Int):Prop:=48≤c∧c≤57
instance (c:Int):Decidable (d1r c):=by unfold d1r;infer_instance
def k0b:List UInt8→Prop
 | []=>False
 | b::r=>(b::r).length≤64∧¬d1r (b.toNat:Int)∧∀x∈b::r,sgn (x.toNat:Int)
instance:(s:List UInt8)→Decidable (k0b s)
 | [] => .isFalse id
 | b::r=>by unfold k0b;infer_instance
theorem low_all:∀c:Fin 256,(97≤orI .u8 (c.val:Int) 32∧orI .u8 (c.val:Int) 32≤122)↔((97≤(c.val:Int)∧(c.val:Int)≤122)∨(65≤(c.val:Int)∧(c.val:Int)≤90)):=by decide +kernel
theorem low (c:Int) (h:0≤c∧c≤255):(97≤orI .u8 c 32∧orI .u8 c 32≤122)↔((97≤c∧c≤122)∨(65≤c∧c≤90)):=by
 obtain ⟨k,rfl⟩:=Int.eq_ofNat_of_zero_le h.1;exact low_all ⟨k,by omega⟩
theorem u0m (n:Nat) (c:Int):s0f (n+1) c=some (decide (d1r c)):=by
 rw[n1n];unfold d1r;by_cases h1:(48:Int)≤c<;>by_cases h2:c≤57<;>simp[h1,h2]
theorem n1k (n:Nat) (c:Int) (h:0≤c∧c≤255):c1d (n+2) c=some (decide (sgn c)):=by
 rw[s1u,u0m];simp only[obs,tfd];have hl:=low c h;by_cases h1:d1r c
 ·rw[if_pos h1,decide_eq_true (show sgn c from .inr (.inr (.inl h1)))]
 rw[if_neg h1];by_cases h2:c=95
 ·rw[if_pos h2,decide_eq_true (show sgn c from .inr (.inr (.inr h2)))]
 rw[if_neg h2];by_cases h3:97≤orI .u8 c 32
 ·rw[if_pos h3];refine congrArg some (decide_eq_decide.2 ?_);constructor
  ·intro k;rcases hl.1 ⟨h3,k⟩ with q | q
   ·exact .inl q
   ·exact .inr (.inl q)
  ·intro k;rcases k with k | k | k | k
   ·exact (hl.2 (.inl k)).2
   ·exact (hl.2 (.inr k)).2
   ·exact absurd k h1
   ·exact absurd k h2
 ·rw[if_neg h3,decide_eq_false];intro k;rcases k with k | k | k | k
  ·exact h3 (hl.2 (.inl k)).1
  ·exact h3 (hl.2 (.inr k)).1
  ·exact h1 k
  ·exact h2 k
theorem i2w (n:Nat) {del:Int×Unit→Option Bool} {p:Int→Bool} (l:List Int) (hL:l.length≤1000000000000) (hd:∀x∈l,del (x,())=some (p x)):∀(rest pre:List Int) (f:Nat) (i len:Int),l=pre++rest→i=pre.length→len=l.length→rest.length<f →
  (d0j n f (l,del,len,i,())=some (.inl ())∧∀x∈rest,p x=false) ∨
  (∃k:Int,0≤k∧d0j n f (l,del,len,i,())=some (.inr k)∧∃x∈rest,p x=true):=by
 intro rest;induction rest with
 | nil =>
  intro pre f i len hl hi hn hf;obtain ⟨f,rfl⟩:∃g,f=g+1:=⟨f-1,by simp at hf;omega⟩;rw[j0f];exact .inl ⟨by simp only[tfd,if_neg (idxe hl hi hn)],by simp⟩
 | cons x rest ih =>
  intro pre f i len hl hi hn hf;obtain ⟨f,rfl⟩:∃g,f=g+1:=⟨f-1,by simp at hf;omega⟩;rw[j0f];simp only[tfd,if_pos (idx hl hi hn),b0g hl hi,obs,hd x (by rw[hl];simp),idxw hl hi hL];cases hp:p x with
  | true=>exact .inr ⟨i,by omega,by simp,x,by simp,hp⟩
  | false =>
   rw[tff];rcases ih (pre++[x]) f (i+1) len (idxl hl) (idxs hi) hn (by simp at hf;omega) with ⟨h1,h2⟩ | ⟨k,h1,h2,y,hy,h3⟩
   ·exact .inl ⟨h1,by intro z hz;rcases List.mem_cons.1 hz with rfl | hz;exact hp;exact h2 z hz⟩
   ·exact .inr ⟨k,h1,h2,y,by simp[hy],h3⟩
theorem t1n (n:Nat) {del:Int×Unit→Option Bool} {p:Int→Bool} (l:List Int) (hL:l.length≤1000000000000) (hd:∀x∈l,del (x,())=some (p x)):h0s (n+2) l del=some (l.any p):=by
 rw[r0m,w0a];rcases i2w n l hL hd l [] a0d 0 l.length rfl rfl rfl (by unfold a0d;omega) with ⟨h1,h2⟩ | ⟨k,h1,h2,x,hx,h3⟩
 ·rw[h1];have:l.any p=false:=by rw[List.any_eq_false];intro x hx;simp[h2 x hx]
  rw[this];rfl
 ·rw[h2];have:l.any p=true:=List.any_eq_true.2 ⟨x,hx,h3⟩;simp[this,h1]
theorem n1m (n:Nat) (s:List UInt8):c1f (n+5) s=some (decide (k0b s)):=by
 rw[s1v]
 match s with
 | []=>rfl
 | b::r =>
  have e1:((b::r)==[])=false:=rfl;have e2:at? (b::r) (0:Int)=some b:=rfl;rw[e1,tff,e2,obs,u0m,obs];simp only[tfd];by_cases h1:(64:Int)<(b::r).length
  ·rw[if_pos h1,decide_eq_false (fun k:k0b (b::r)=>by have:=k.1;omega)]
  rw[if_neg h1];by_cases h2:d1r (b.toNat:Int)
  ·rw[if_pos h2,decide_eq_false (fun k:k0b (b::r)=>k.2.1 h2)]
  rw[if_neg h2,t1n (p:=fun c => !decide (sgn c)) (n+2) _ (by simp at h1 ⊢;omega) (fun x hx=>by
   obtain ⟨c,_,rfl⟩:=List.mem_map.1 hx;have:=c.toNat_lt;show u0l (n+3+1) _=_
   rw[i1n,n1k (n+1) _ (by omega)];rfl)]
  simp only[obs];refine congrArg some ?_;by_cases h3:∀x∈b::r,sgn (x.toNat:Int)
  ·rw[decide_eq_true (show k0b (b::r) from ⟨by omega,h2,h3⟩)];rw[List.any_eq_false.2]
   ·rfl
   ·intro x hx;obtain ⟨c,hc,rfl⟩:=List.mem_map.1 hx;simp[h3 c hc]
  ·rw[decide_eq_false (fun k:k0b (b::r)=>h3 k.2.2)];have:∃x∈b::r,¬sgn (x.toNat:Int):=Classical.byContradiction fun k=>h3 fun x hx=>Classical.byContradiction fun q=>k ⟨x,hx,q⟩
   obtain ⟨x,hx,hq⟩:=this;rw[List.any_eq_true.2 ⟨(x.toNat:Int),List.mem_map.2 ⟨x,hx,rfl⟩,by simp[hq]⟩];rfl
theorem h2s (n:Nat) (s:List UInt8) (hL:s.length≤1000000000000):∀(rest pre:List UInt8) (f:Nat) (i:Int),s=pre++rest→i=pre.length→rest.length<f →
  b0w n f (s,i,())=some (if ∀x∈rest,sgn (x.toNat:Int) then .inl () else .inr false):=by
 intro rest;induction rest with
 | nil =>
  intro pre f i hl hi hf;obtain ⟨f,rfl⟩:∃g,f=g+1:=⟨f-1,by simp at hf;omega⟩;rw[w0r];simp[tfd,if_neg (idxe hl hi rfl)]
 | cons x rest ih =>
  intro pre f i hl hi hf;obtain ⟨f,rfl⟩:∃g,f=g+1:=⟨f-1,by simp at hf;omega⟩;rw[w0r];simp only[tfd,tfn,if_pos (idx hl hi rfl),b0g hl hi,obs,idxw hl hi hL];rw[ih (pre++[x]) f (i+1) (idxl hl) (idxs hi) (by simp at hf;omega)];have hsplit:(∀y∈x::rest,sgn (y.toNat:Int))↔sgn (x.toNat:Int)∧∀y∈rest,sgn (y.toNat:Int):=by simp
  generalize hR:(some (if ∀y∈rest,sgn (y.toNat:Int) then (Sum.inl ():Unit ⊕ Bool) else .inr false))=R;have good:sgn (x.toNat:Int)→R=some (if ∀y∈x::rest,sgn (y.toNat:Int) then .inl () else .inr false):=by
   intro hx;rw[←hR];by_cases h:∀y∈rest,sgn (y.toNat:Int)
   ·rw[if_pos h,if_pos (hsplit.2 ⟨hx,h⟩)]
   ·rw[if_neg h,if_neg (fun k=>h (hsplit.1 k).2)]
  have bad:¬sgn (x.toNat:Int)→some (.inr false)=some (if ∀y∈x::rest,sgn (y.toNat:Int) then (Sum.inl ():Unit ⊕ Bool) else .inr false):=by
   intro hx;rw[if_neg (fun k=>hx (hsplit.1 k).1)]
  have hc:=x.toNat_lt;generalize (x.toNat:Int)=c at *
  clear hR ih;unfold sgn at good bad;by_cases a1:(97:Int)≤c<;>by_cases a2:c≤122<;>by_cases a3:(65:Int)≤c<;>by_cases a4:c≤90<;>by_cases a5:(48:Int)≤c<;>by_cases a6:c≤57<;>by_cases a7:c=95 <;>
   first
    | omega
    | (simp only[a1,a2,a3,a4,a5,a6,a7,if_true,if_false];first | exact good (by omega) | exact bad (by omega))
    | (simp[a1,a2,a3,a4,a5,a6,a7];done)
theorem w1k (n:Nat) (s:List UInt8):r1o (n+1) s=some (decide (k0b s)):=by
 rw[b2s]
 match s with
 | []=>rfl
 | b::r =>
  have e2:at? (b::r) (0:Int)=some b:=rfl;rw[e2,obs,obs];simp only[tfd];rw[if_neg (show ¬(((b::r).length:Int)<1) by simp;omega)];by_cases h1:(64:Int)<(b::r).length
  ·rw[if_pos h1,decide_eq_false (fun k:k0b (b::r)=>by have:=k.1;omega)]
  rw[if_neg h1,h2s n (b::r) (by omega) (b::r) [] a0d 0 rfl rfl (by unfold a0d;omega)];simp only[obs];have fin:¬d1r (b.toNat:Int)→(b0d (fun _:Unit=>some true) (fun z4=>some z4) (if ∀x∈b::r,sgn (x.toNat:Int) then .inl () else .inr false))=some (decide (k0b (b::r))):=by
   intro h2;by_cases h3:∀x∈b::r,sgn (x.toNat:Int)
   ·rw[if_pos h3,decide_eq_true (show k0b (b::r) from ⟨by omega,h2,h3⟩)];rfl
   ·rw[if_neg h3,decide_eq_false (fun k:k0b (b::r)=>h3 k.2.2)];rfl
  by_cases h4:(48:Int)≤(b.toNat:Int)
  ·rw[if_pos h4];by_cases h5:(b.toNat:Int)≤57
   ·rw[if_pos h5,decide_eq_false (fun k:k0b (b::r)=>k.2.1 ⟨h4,h5⟩)]
   ·rw[if_neg h5];exact fin (fun k=>h5 k.2)
  ·rw[if_neg h4];exact fin (fun k=>h4 k.1)
def chkL:Option (List UInt8)→List Lab→Prop
 | _,[]=>True
 | p,x::r=>k0b x.1∧x.2.length≤128∧(∀q,p=some q→Op.bytesLess q x.1=true)∧chkL (some x.1) r
def sumL (l:List Lab):Int:=(l.map fun x=>((x.1.length:Int)+x.2.length)).sum
theorem k2g (l:List Lab):0≤sumL l:=by
 induction l with
 | nil=>simp[sumL]
 | cons x l ih=>simp only[sumL,List.map_cons,List.sum_cons] at *;omega
theorem u1v (x:Lab) (l:List Lab):sumL (x::l)=x.1.length+x.2.length+sumL l:=by simp[sumL]
theorem k0b.len {s:List UInt8} (h:k0b s):s.length≤64:=by
 match s with
 | []=>simp
 | b::r=>exact h.1
structure LabOk (l:List Lab):Prop where
 n0:1≤l.length
 n1:l.length≤16
 c:chkL none l
 t:sumL l≤256
noncomputable instance (l:List Lab):Decidable (LabOk l):=Classical.propDecidable _
theorem l2t {l pre rest:List Lab} {x:Lab} {i:Int} (hl:l=pre++x::rest) (hi:i=pre.length) (hL:l.length≤1000000) (h:0<i):∃q,pre.getLast? = some q∧at? l (IntKind.wrap .i64 (i-1))=some q:=by
 rcases List.eq_nil_or_concat pre with rfl | ⟨q,y,rfl⟩
 ·simp at hi;omega
 rw[List.concat_eq_append] at *
 have hlen:=congrArg List.length hl;simp at hlen hi;refine ⟨y,by simp,?_⟩;rw[w64 (by omega) (by omega)];exact b0g (pre:=q) (rest:=x::rest) (by rw[hl];simp) (by omega)
theorem s1w (n:Nat) (l:List Lab) (hL:l.length≤16):∀(rest pre:List Lab) (f:Nat) (left i len:Int),l=pre++rest→i=pre.length→len=l.length→rest.length<f→0≤left→left≤256 →
  (chkL (pre.getLast?.map (·.1)) rest∧sumL rest≤left→g0b (n+5) f (l,left,l,len,i,())=some (.inl ())) ∧
  (¬(chkL (pre.getLast?.map (·.1)) rest∧sumL rest≤left)→g0b (n+5) f (l,left,l,len,i,())=some (.inr 8)):=by
 intro rest;induction rest with
 | nil =>
  intro pre f left i len hl hi hn hf h0 h1;obtain ⟨f,rfl⟩:∃g,f=g+1:=⟨f-1,by simp at hf;omega⟩;rw[q0s];refine ⟨fun _=>by simp only[tfd,if_neg (idxe hl hi hn)],fun k=>absurd ⟨trivial,by simpa [sumL] using h0⟩ k⟩
 | cons x rest ih =>
  intro pre f left i len hl hi hn hf h0 h1;obtain ⟨f,rfl⟩:∃g,f=g+1:=⟨f-1,by simp at hf;omega⟩;rw[q0s];have hsn:=k2g rest;simp only[tfd,tfn,if_pos (idx hl hi hn),b0g hl hi,obs,idxw hl hi (by omega),n1m n x.1];rw[u1v];by_cases c1:k0b x.1
  case neg=>rw[if_neg c1];exact ⟨fun k=>absurd k.1.1 c1,fun _=>rfl⟩
  rw[if_pos c1];have hn1:=c1.len;by_cases c2:(128:Int)<x.2.length
  ·rw[if_pos c2];exact ⟨fun k=>by have:=k.1.2.1;omega,fun _=>rfl⟩
  rw[if_neg c2,w64 (x:=(x.1.length:Int)+x.2.length) (by omega) (by omega),w64 (x:=left-((x.1.length:Int)+x.2.length)) (by omega) (by omega)];by_cases c3:left-((x.1.length:Int)+x.2.length)<0
  ·rw[if_pos c3];exact ⟨fun k=>by have:=k.2;omega,fun _=>rfl⟩
  rw[if_neg c3];have ih':=ih (pre++[x]) f (left-((x.1.length:Int)+x.2.length)) (i+1) len (idxl hl) (idxs hi) hn (by simp at hf;omega) (by omega) (by omega);have el:(pre++[x]).getLast?.map (·.1)=some x.1:=by simp
  rw[el] at ih';have step:(∀q,pre.getLast?.map (·.1)=some q→Op.bytesLess q x.1=true) →
    ((chkL (pre.getLast?.map (·.1)) (x::rest)∧(x.1.length:Int)+x.2.length+sumL rest≤left)↔(chkL (some x.1) rest∧sumL rest≤left-((x.1.length:Int)+x.2.length))):=by
   intro hq;constructor
   ·rintro ⟨k1,k2⟩;exact ⟨k1.2.2.2,by omega⟩
   ·rintro ⟨k1,k2⟩;exact ⟨⟨c1,by omega,hq,k1⟩,by omega⟩
  by_cases c4:0<i
  ·obtain ⟨q,hq,hat⟩:=l2t hl hi (by omega) c4;rw[if_pos c4,hat,obs];by_cases c5:Op.bytesLess q.1 x.1=true
   ·rw[c5,tft,step (fun z hz=>by rw[hq] at hz;simp at hz;rw[←hz];exact c5)];exact ih'
   ·have c5':Op.bytesLess q.1 x.1=false:=by simpa using c5
    rw[c5',tff];exact ⟨fun k=>absurd (k.1.2.2.1 q.1 (by rw[hq];rfl)) c5,fun _=>rfl⟩
  ·have hp:pre=[]:=List.length_eq_zero_iff.1 (by omega);rw[if_neg c4,step (fun z hz=>by rw[hp] at hz;cases hz)];exact ih'
theorem x0q (n:Nat) (l:List Lab):g0v (n+6) l=some (if LabOk l then 0 else 8):=by
 rw[n1p];simp only[tfd];by_cases h1:(l.length:Int)=0
 ·rw[if_pos h1,if_neg (fun k:LabOk l=>by have:=k.n0;omega)]
 by_cases h2:(16:Int)<l.length
 ·rw[if_neg h1,if_pos h2,if_neg (fun k:LabOk l=>by have:=k.n1;omega)]
 rw[if_neg h1,if_neg h2];have hl:=s1w n l (by omega) l [] a0d 256 0 l.length rfl rfl rfl (by unfold a0d;omega) (by decide) (by decide);by_cases h3:chkL none l∧sumL l≤256
 ·rw[hl.1 h3,if_pos (⟨by omega,by omega,h3.1,h3.2⟩:LabOk l)];rfl
 ·rw[hl.2 h3,if_neg (fun k:LabOk l=>h3 ⟨k.c,k.t⟩)];rfl
theorem b2t (n:Nat) (l:List Lab) (hL:l.length≤16):∀(rest pre:List Lab) (f:Nat) (all i len:Int),l=pre++rest→i=pre.length→len=l.length→rest.length<f→0≤all→all≤192*pre.length →
  (chkL (pre.getLast?.map (·.1)) rest→i0w (n+1) f (l,all,l,len,i,())=some (.inl (all+sumL rest,()))) ∧
  (¬chkL (pre.getLast?.map (·.1)) rest→i0w (n+1) f (l,all,l,len,i,())=some (.inr 8)):=by
 intro rest;induction rest with
 | nil =>
  intro pre f left i len hl hi hn hf h0 h1;obtain ⟨f,rfl⟩:∃g,f=g+1:=⟨f-1,by simp at hf;omega⟩;rw[t0x];refine ⟨fun _=>by simp only[tfd,if_neg (idxe hl hi hn),sumL,List.map_nil,List.sum_nil,Int.add_zero],fun k=>absurd trivial k⟩
 | cons x rest ih =>
  intro pre f left i len hl hi hn hf h0 h1;obtain ⟨f,rfl⟩:∃g,f=g+1:=⟨f-1,by simp at hf;omega⟩;rw[t0x];have hsn:=k2g rest;have hpl:pre.length+1≤l.length:=by have:=congrArg List.length hl;simp at this;omega
  simp only[tfd,tfn,if_pos (idx hl hi hn),b0g hl hi,obs,idxw hl hi (by omega),w1k n x.1];rw[u1v];by_cases c1:k0b x.1
  case neg=>rw[if_neg c1];exact ⟨fun k=>absurd k.1 c1,fun _=>rfl⟩
  rw[if_pos c1];have hn1:=c1.len;by_cases c2:(128:Int)<x.2.length
  ·rw[if_pos c2];exact ⟨fun k=>by have:=k.2.1;omega,fun _=>rfl⟩
  rw[if_neg c2,w64 (x:=(x.1.length:Int)+x.2.length) (by omega) (by omega),w64 (x:=left+((x.1.length:Int)+x.2.length)) (by omega) (by omega)];have ih':=ih (pre++[x]) f (left+((x.1.length:Int)+x.2.length)) (i+1) len (idxl hl) (idxs hi) hn (by simp at hf;omega) (by omega) (by simp;omega);have el:(pre++[x]).getLast?.map (·.1)=some x.1:=by simp
  rw[el] at ih';have ea:left+((x.1.length:Int)+x.2.length+sumL rest)=left+((x.1.length:Int)+x.2.length)+sumL rest:=by omega
  rw[ea];have step:(∀q,pre.getLast?.map (·.1)=some q→Op.bytesLess q x.1=true)→(chkL (pre.getLast?.map (·.1)) (x::rest)↔chkL (some x.1) rest):=by
   intro hq;constructor
   ·intro k;exact k.2.2.2
   ·intro k;exact ⟨c1,by omega,hq,k⟩
  by_cases c4:0<i
  ·obtain ⟨q,hq,hat⟩:=l2t hl hi (by omega) c4;rw[if_pos c4,hat,obs];by_cases c5:Op.bytesLess q.1 x.1=true
   ·rw[c5,tft,step (fun z hz=>by rw[hq] at hz;simp at hz;rw[←hz];exact c5)];exact ih'
   ·have c5':Op.bytesLess q.1 x.1=false:=by simpa using c5
    rw[c5',tff];exact ⟨fun k=>absurd (k.2.2.1 q.1 (by rw[hq];rfl)) c5,fun _=>rfl⟩
  ·have hp:pre=[]:=List.length_eq_zero_iff.1 (by omega);rw[if_neg c4,step (fun z hz=>by rw[hp] at hz;cases hz)];exact ih'
theorem g1n (n:Nat) (l:List Lab):t0y (n+2) l=some (if LabOk l then 0 else 8):=by
 rw[w1m];simp only[tfd];by_cases h1:(l.length:Int)<1
 ·rw[if_pos h1,if_neg (fun k:LabOk l=>by have:=k.n0;omega)]
 by_cases h2:(16:Int)<l.length
 ·rw[if_neg h1,if_pos h2,if_neg (fun k:LabOk l=>by have:=k.n1;omega)]
 rw[if_neg h1,if_neg h2];have hl:=b2t n l (by omega) l [] a0d 0 0 l.length rfl rfl rfl (by unfold a0d;omega) (by decide) (by simp);by_cases h3:chkL none l
 ·rw[hl.1 h3];simp only[obs,a0n,Int.zero_add];by_cases h4:(256:Int)<sumL l
  ·rw[if_pos h4,if_neg (fun k:LabOk l=>by have:=k.t;omega)]
  ·rw[if_neg h4,if_pos (⟨by omega,by omega,h3,by omega⟩:LabOk l)]
 ·rw[hl.2 h3,if_neg (fun k:LabOk l=>h3 k.c)];rfl
theorem labEq (a b:Lab):((a.1==b.1)&&(a.2==b.2))=decide (a=b):=by
 rw[Bool.eq_iff_iff];simp[Prod.ext_iff]
abbrev Rw:=Int×(Int×List Ev)
structure RawOk (r:Rw) (room:Int):Prop where
 m0:1≤room
 m1:room≤4096
 len:(r.2.2.length:Int)≤room
 l0:0≤r.1
 l1:r.1≤70368744177664
 f:Foll r.2.2
 z:r.1=0→r.2.1=0
 p:r.1≠0→(r.2.2.length:Int)=room∧0≤r.2.1∧∀x,r.2.2.head? = some x→r.2.1<x.1
noncomputable instance (r room):Decidable (RawOk r room):=Classical.propDecidable _
def RawW (r:Rw):Prop:=∀e∈r.2.2,EvW e
theorem last_at {l pre rest:List Ev} {x:Ev} {i:Int} (hl:l=pre++x::rest) (hi:i=pre.length) (hL:l.length≤1000000) (h:0<i):∃q,pre.getLast? = some q∧at? l (IntKind.wrap .i64 (i-1))=some q:=by
 rcases List.eq_nil_or_concat pre with rfl | ⟨q,y,rfl⟩
 ·simp at hi;omega
 rw[List.concat_eq_append] at *
 have hlen:=congrArg List.length hl;simp at hlen hi;refine ⟨y,by simp,?_⟩;rw[w64 (by omega) (by omega)];exact b0g (pre:=q) (rest:=x::rest) (by rw[hl];simp) (by omega)
theorem y1d {pre rest:List Ev} {x:Ev} (hp:Foll pre):(EvOk x∧(∀q,pre.getLast? = some q→q.1<x.1))↔Foll (pre++[x]):=by
 constructor
 ·rintro ⟨h1,h2⟩;refine y1c.2 ⟨hp,h1,?_⟩;rcases List.eq_nil_or_concat pre with rfl | ⟨q,y,rfl⟩
  ·simp
  ·rw[List.concat_eq_append] at *
   exact last_all hp (y:=y) (by simp) (h2 y (by simp))
 ·intro h;obtain ⟨h1,h2,h3⟩:=y1c.1 h;exact ⟨h2,fun q hq=>h3 q (List.mem_of_getLast? hq)⟩
theorem e2w {l pre rest:List Ev} {x:Ev} (hl:l=pre++x::rest) (h:Foll l):Foll (pre++[x]):=by
 rw[idxl hl] at h;exact (s0h.1 h).1
theorem v1m (n:Nat) (l:List Ev) (hL:l.length≤1000000) (hw:∀e∈l,EvW e):∀(rest pre:List Ev) (f:Nat) (i len:Int),l=pre++rest→i=pre.length→len=l.length→rest.length<f→Foll pre →
  (Foll l→h0f (n+3) f (l,l,len,i,())=some (.inl ()))∧(¬Foll l→h0f (n+3) f (l,l,len,i,())=some (.inr false)):=by
 intro rest;induction rest with
 | nil =>
  intro pre f i len hl hi hn hf hp;obtain ⟨f,rfl⟩:∃g,f=g+1:=⟨f-1,by simp at hf;omega⟩;rw[s0n];have e:l=pre:=by rw[hl,List.append_nil]
  exact ⟨fun _=>by simp only[tfd,if_neg (idxe hl hi hn)],fun k=>absurd (e ▸ hp) k⟩
 | cons x rest ih =>
  intro pre f i len hl hi hn hf hp;obtain ⟨f,rfl⟩:∃g,f=g+1:=⟨f-1,by simp at hf;omega⟩;rw[s0n];have hx:EvW x:=hw x (by rw[hl];simp);have ih':=ih (pre++[x]) f (i+1) len (idxl hl) (idxs hi) hn (by simp at hf;omega);simp only[tfd,tfn,if_pos (idx hl hi hn),b0g hl hi,obs,x0t _ hx,z02,idxw hl hi (by omega)];have nx:=y1d (rest:=rest) (x:=x) hp;by_cases c1:EvOk x
  case neg=>rw[if_neg c1];exact ⟨fun k=>absurd (k.ok x (by rw[hl];simp)) c1,fun _=>rfl⟩
  rw[if_pos c1];by_cases c2:0<i
  ·obtain ⟨q,hq,hat⟩:=last_at hl hi hL c2;have hqo:EvOk q:=hp.ok q (List.mem_of_getLast? hq);rw[if_pos c2,hat,obs,d1p n (.of hqo) hx];simp only[obs,tfd];by_cases c3:q.1<x.1
   ·rw[if_pos ⟨hqo,c1,c3⟩];exact ih' (nx.1 ⟨c1,fun z hz=>by rw[hq] at hz;injection hz with hz;rw[←hz];exact c3⟩)
   ·rw[if_neg (fun k=>c3 k.2.2)];exact ⟨fun k=>absurd ((nx.2 (e2w hl k)).2 q hq) c3,fun _=>rfl⟩
  ·have hpe:pre=[]:=List.length_eq_zero_iff.1 (by omega);rw[if_neg c2];exact ih' (nx.1 ⟨c1,fun z hz=>by rw[hpe] at hz;cases hz⟩)
noncomputable instance (l:List Ev):Decidable (Foll l):=Classical.propDecidable _
theorem j1p (n:Nat) (l:List Ev) (hL:l.length≤1000000) (hw:∀e∈l,EvW e):b1n (n+4) l=some (decide (Foll l)):=by
 rw[q1r];have h:=v1m n l hL hw l [] a0d 0 l.length rfl rfl rfl (by unfold a0d;omega) Foll.nil;by_cases c:Foll l
 ·rw[h.1 c,decide_eq_true c];rfl
 ·rw[h.2 c,decide_eq_false c];rfl
theorem n2n (l:List Ev):at? l (0:Int)=l.head? := by cases l<;>rfl
theorem k2z (n:Nat) (r:Rw) (room:Int) (hw:RawW r):f1y (n+5) r room=some (if RawOk r room then 0 else 2):=by
 rw[v1n];simp only[tfd];by_cases h1:room<1
 ·rw[if_pos h1,if_neg (fun k:RawOk r room=>by have:=k.m0;omega)]
 by_cases h2:4096<room
 ·rw[if_neg h1,if_pos h2,if_neg (fun k:RawOk r room=>by have:=k.m1;omega)]
 by_cases h3:room<r.2.2.length
 ·rw[if_neg h1,if_neg h2,if_pos h3,if_neg (fun k:RawOk r room=>by have:=k.len;omega)]
 by_cases h4:r.1<0
 ·rw[if_neg h1,if_neg h2,if_neg h3,if_pos h4,if_neg (fun k:RawOk r room=>by have:=k.l0;omega)]
 by_cases h5:70368744177664<r.1
 ·rw[if_neg h1,if_neg h2,if_neg h3,if_neg h4,if_pos h5,if_neg (fun k:RawOk r room=>by have:=k.l1;omega)]
 rw[if_neg h1,if_neg h2,if_neg h3,if_neg h4,if_neg h5,j1p n r.2.2 (by omega) hw,q1s];simp only[obs,tfn,tfd];by_cases h6:Foll r.2.2
 case neg=>rw[if_neg h6,if_neg (fun k:RawOk r room=>h6 k.f)]
 rw[if_pos h6];by_cases h7:r.1=0
 ·rw[if_pos h7,obs];simp only[tfd];by_cases h8:r.2.1=0
  ·rw[if_pos h8,if_pos (⟨by omega,by omega,by omega,by omega,by omega,h6,fun _=>h8,fun k=>absurd h7 k⟩:RawOk r room)]
  ·rw[if_neg h8,if_neg (fun k:RawOk r room=>h8 (k.z h7))]
 rw[if_neg h7];by_cases h8:(r.2.2.length:Int)=room
 case neg=>rw[if_neg h8,if_neg (fun k:RawOk r room=>h8 (k.p h7).1)];rfl
 rw[if_pos h8];by_cases h9:(0:Int)≤r.2.1
 case neg=>rw[if_neg h9,if_neg (fun k:RawOk r room=>h9 (k.p h7).2.1)];rfl
 rw[if_pos h9,n2n];obtain ⟨x,hx⟩:∃x,r.2.2.head? = some x:=by
  cases hh:r.2.2 with
  | nil=>rw[hh] at h8;simp at h8;omega
  | cons x l=>exact ⟨x,rfl⟩
 rw[hx,obs,obs];simp only[tfd];by_cases h10:r.2.1<x.1
 ·rw[if_pos h10,if_pos (⟨by omega,by omega,by omega,by omega,by omega,h6,fun k=>absurd k h7,fun _=>⟨h8,h9,fun y hy=>by rw[hx] at hy;injection hy with hy;rw[←hy];exact h10⟩⟩:RawOk r room)]
 ·rw[if_neg h10,if_neg (fun k:RawOk r room=>h10 ((k.p h7).2.2 x hx))]
theorem b2d (n:Nat) (room:Int) (r:Rw) (hL:r.2.2.length≤1000000) (hw:RawW r):∀(rest pre:List Ev) (f:Nat) (i len:Int),r.2.2=pre++rest→i=pre.length→len=r.2.2.length→rest.length<f→Foll pre →
  (Foll r.2.2→i0v (n+1) f (room,r,r.2.2,len,i,())=some (.inl (room,r,())))∧(¬Foll r.2.2→i0v (n+1) f (room,r,r.2.2,len,i,())=some (.inr 2)):=by
 intro rest;induction rest with
 | nil =>
  intro pre f i len hl hi hn hf hp;obtain ⟨f,rfl⟩:∃g,f=g+1:=⟨f-1,by simp at hf;omega⟩;rw[t0r];have e:r.2.2=pre:=by rw[hl,List.append_nil]
  exact ⟨fun _=>by simp only[tfd,if_neg (idxe hl hi hn)],fun k=>absurd (e ▸ hp) k⟩
 | cons x rest ih =>
  intro pre f i len hl hi hn hf hp;obtain ⟨f,rfl⟩:∃g,f=g+1:=⟨f-1,by simp at hf;omega⟩;rw[t0r];have hx:EvW x:=hw x (by rw[hl];simp);have ih':=ih (pre++[x]) f (i+1) len (idxl hl) (idxs hi) hn (by simp at hf;omega);simp only[tfd,tfn,if_pos (idx hl hi hn),b0g hl hi,obs,t0u _ hx,z02,idxw hl hi (by omega)];have nx:=y1d (rest:=rest) (x:=x) hp;by_cases c1:EvOk x
  case neg=>rw[if_neg c1];exact ⟨fun k=>absurd (k.ok x (by rw[hl];simp)) c1,fun _=>rfl⟩
  rw[if_pos c1];by_cases c2:0<i
  ·obtain ⟨q,hq,hat⟩:=last_at hl hi hL c2;rw[if_pos c2,hat,obs];by_cases c3:x.1≤q.1
   ·rw[if_pos c3];exact ⟨fun k=>by have:=(nx.2 (e2w hl k)).2 q hq;omega,fun _=>rfl⟩
   ·rw[if_neg c3];exact ih' (nx.1 ⟨c1,fun z hz=>by rw[hq] at hz;injection hz with hz;rw[←hz];omega⟩)
  ·have hpe:pre=[]:=List.length_eq_zero_iff.1 (by omega);rw[if_neg c2];exact ih' (nx.1 ⟨c1,fun z hz=>by rw[hpe] at hz;cases hz⟩)
theorem l2l (n:Nat) (r:Rw) (room:Int) (hw:RawW r):g1h (n+2) r room=some (if RawOk r room then 0 else 2):=by
 rw[w1a];simp only[tfd];by_cases h1:room<1
 ·rw[if_pos h1,if_neg (fun k:RawOk r room=>by have:=k.m0;omega)]
 by_cases h2:4096<room
 ·rw[if_neg h1,if_pos h2,if_neg (fun k:RawOk r room=>by have:=k.m1;omega)]
 by_cases h3:room<r.2.2.length
 ·rw[if_neg h1,if_neg h2,if_pos h3,if_neg (fun k:RawOk r room=>by have:=k.len;omega)]
 by_cases h4:r.1<0
 ·rw[if_neg h1,if_neg h2,if_neg h3,if_pos h4,if_neg (fun k:RawOk r room=>by have:=k.l0;omega)]
 by_cases h5:70368744177664<r.1
 ·rw[if_neg h1,if_neg h2,if_neg h3,if_neg h4,if_pos h5,if_neg (fun k:RawOk r room=>by have:=k.l1;omega)]
 rw[if_neg h1,if_neg h2,if_neg h3,if_neg h4,if_neg h5];have hl:=b2d n room r (by omega) hw r.2.2 [] a0d 0 _ rfl rfl rfl (by unfold a0d;omega) Foll.nil;by_cases h6:Foll r.2.2
 case neg=>rw[hl.2 h6,if_neg (fun k:RawOk r room=>h6 k.f)];rfl
 rw[hl.1 h6];simp only[obs,a0n,tfn,tfd];by_cases h7:r.1=0
 ·rw[if_pos h7];by_cases h8:r.2.1=0
  ·rw[if_pos h8,if_pos (⟨by omega,by omega,by omega,by omega,by omega,h6,fun _=>h8,fun k=>absurd h7 k⟩:RawOk r room)]
  ·rw[if_neg h8,if_neg (fun k:RawOk r room=>h8 (k.z h7))]
 rw[if_neg h7];by_cases h9:r.2.1<0
 ·rw[if_pos h9,if_neg (fun k:RawOk r room=>by have:=(k.p h7).2.1;omega)]
 rw[if_neg h9];have hd:∀k:RawOk r room,∃x,r.2.2.head? = some x∧EvOk x:=fun k=>by
  have h8:=(k.p h7).1;have:=k.m0;cases hh:r.2.2 with
  | nil=>rw[hh] at h8;simp at h8;omega
  | cons x l=>exact ⟨x,rfl,h6.ok x (by rw[hh];simp)⟩
 by_cases h10:(35184372088832:Int)≤r.2.1
 ·rw[if_pos h10,if_neg];intro k;obtain ⟨x,hx,hxo⟩:=hd k;have:=(k.p h7).2.2 x hx;have:=hxo.t1;omega
 rw[if_neg h10];by_cases h8:(r.2.2.length:Int)=room
 case neg=>rw[if_neg h8,if_neg (fun k:RawOk r room=>h8 (k.p h7).1)]
 rw[if_pos h8,n2n];obtain ⟨x,hx⟩:∃x,r.2.2.head? = some x:=by
  cases hh:r.2.2 with
  | nil=>rw[hh] at h8;simp at h8;omega
  | cons x l=>exact ⟨x,rfl⟩
 rw[hx,obs];by_cases h11:x.1≤r.2.1
 ·rw[if_pos h11,if_neg (fun k:RawOk r room=>by have:=(k.p h7).2.2 x hx;omega)]
 ·rw[if_neg h11,if_pos (⟨by omega,by omega,by omega,by omega,by omega,h6,fun k=>absurd k h7,fun _=>⟨h8,by omega,fun y hy=>by rw[hx] at hy;injection hy with hy;rw[←hy];omega⟩⟩:RawOk r room)]
theorem raw_last (n:Nat) (r:Rw) (hL:r.2.2.length≤1000000):q1t (n+1) r=some (match r.2.2.getLast? with | some e=>(e,0) | none=>(e0,3)):=by
 rw[a2i];simp only[tfd];rcases List.eq_nil_or_concat r.2.2 with h | ⟨q,y,h⟩
 ·rw[h,if_pos (by simp)];rfl
 ·rw[List.concat_eq_append] at h;have hlen:=congrArg List.length h;simp at hlen;rw[if_neg (by omega),w64 (by omega) (by omega),b0g (pre:=q) (rest:=[]) h (by omega),h];simp
theorem r12_last (n:Nat) (r:Rw) (hL:r.2.2.length≤1000000):r1j (n+1) r=some (match r.2.2.getLast? with | some e=>(e,0) | none=>(e0,3)):=by
 rw[b2f];simp only[tfd];rcases List.eq_nil_or_concat r.2.2 with h | ⟨q,y,h⟩
 ·rw[h,if_pos (by simp)];rfl
 ·rw[List.concat_eq_append] at h;have hlen:=congrArg List.length h;simp at hlen;rw[if_neg (by omega),w64 (by omega) (by omega),b0g (pre:=q) (rest:=[]) h (by omega),h];simp
def r0w:Rw:=(0,(0,[]))
end Go.Proofs.YtgkpkajaepphjaaGreatDoor
namespace Go.Proofs.YtgkpkajaepphjaaGreatDoor
open Go.Flat Go.Plim
end Go.Proofs.YtgkpkajaepphjaaGreatDoor
namespace Go.Proofs.YtgkpkajaepphjaaGreatDoor
open Go.Flat Go.Plim
set_option linter.unusedVariables false
set_option linter.unusedSimpArgs false
def Exc (key:a0f→Int) (d:List a0f) (a b k:Nat):Prop:=∀p q x y,a≤p→p<q→q<b→p≠k→q≠k→d[p]? = some x→d[q]? = some y→key x≤key y
def Place (key:a0f→Int) (d:List a0f) (a b k i:Nat) (x:a0f):Prop :=
 (∀p z,a≤p→p<i→p≠k→d[p]? = some z→key z≤key x)∧(∀p z,i≤p→p<b→p≠k→d[p]? = some z→key x≤key z)
theorem f2a {key:a0f→Int} {d:List a0f} {a b k j:Nat} {x y:a0f} (hj:j=k+1∨k=j+1) (ja:a≤j) (jb:j<b) (hx:d[k]? = some x) (hy:d[j]? = some y) (h:Exc key d a b k):Exc key ((d.set k y).set j x) a b j:=by
 intro p q u v q1 q2 q3 p1 p2 hu hv;rw[i0d hx hy,if_neg p1] at hu;rw[i0d hx hy,if_neg p2] at hv;by_cases ep:p=k
 ·rw[if_pos ep] at hu;rw[if_neg (by omega)] at hv;injection hu with hu;subst hu;exact h j q y v (by omega) (by omega) q3 (by omega) (by omega) hy hv
 ·rw[if_neg ep] at hu;by_cases eq:q=k
  ·rw[if_pos eq] at hv;injection hv with hv;subst hv;exact h p j u y q1 (by omega) (by omega) (by omega) (by omega) hu hy
  ·rw[if_neg eq] at hv;exact h p q u v q1 q2 q3 ep eq hu hv
theorem n2y {key:a0f→Int} {d:List a0f} {a b k i:Nat} {x:a0f} (h:Exc key d a b k) (hp:Place key d a b k i x) (hx:d[k]? = some x) (hk:k=i∨k+1=i):Srt key d a b:=by
 intro p q u v q1 q2 q3 hu hv;by_cases ep:p=k
 ·subst ep;rw[hx] at hu;injection hu with hu;subst hu;exact hp.2 q v (by omega) q3 (by omega) hv
 ·by_cases eq:q=k
  ·subst eq;rw[hx] at hv;injection hv with hv;subst hv;exact hp.1 p u q1 (by omega) ep hu
  ·exact h p q u v q1 q2 q3 ep eq hu hv
theorem sym_l9 {key:a0f→Int} (n:Nat) (a b i:Nat) (x:a0f):∀(c f k:Nat) (d:List a0f),k+c+1=i→c<f→a≤k→i≤b→b≤d.length→d.length≤1000000000000→d[k]? = some x→Exc key d a b k→Place key d a b k i x →
  ∃d',v0d n f (d,(i:Int),(k:Int),())=some (.inl (d',()))∧Mv d d' a b∧Srt key d' a b:=by
 intro c;induction c with
 | zero =>
  intro f k d hk hf ha hi hb hL hx h1 h2;obtain ⟨f,rfl⟩:∃g,f=g+1:=⟨f-1,by omega⟩;rw[y0r];rw[wn (x:=(i:Int)-1) (k:=k) (by omega) (by omega)];simp only[tfd,if_neg (show ¬((k:Int)<(k:Int)) by omega)];exact ⟨d,rfl,.refl _ _ _,n2y h1 h2 hx (by omega)⟩
 | succ c ih =>
  intro f k d hk hf ha hi hb hL hx h1 h2;obtain ⟨f,rfl⟩:∃g,f=g+1:=⟨f-1,by omega⟩;rw[y0r];have lk:k+1<d.length:=by omega
  have gy:d[k+1]? = some d[k+1]:=List.getElem?_eq_getElem lk;have g1:(d.set k d[k+1])[k+1]? = some d[k+1]:=by rw[List.getElem?_set_ne (by omega)];exact gy
  rw[wn (x:=(i:Int)-1) (k:=i-1) (by omega) (by omega),wn (x:=(k:Int)+1) (k:=k+1) (by omega) (by omega)];simp only[tfd,if_pos (show ((k:Int)<((i-1:Nat):Int)) by omega),m0c,Int.toNat_natCast,gy,hx,g1,obs];have sg:=i0d hx gy;have mv:=b1e (a:=a) (b:=b) hx gy (by omega) (by omega) (by omega) (by omega);obtain ⟨d',r1,r2,r3⟩:=ih f (k+1) ((d.set k d[k+1]).set (k+1) x) (by omega) (by omega) (by omega) hi (by simpa using hb) (by simpa using hL)
   (by rw[sg,if_pos rfl]) (f2a (.inl rfl) (by omega) (by omega) hx gy h1)
   ⟨fun p z p1 p2 p3 hz=>by
    rw[sg,if_neg p3] at hz;by_cases e:p=k
    ·rw[if_pos e] at hz;injection hz with hz;subst hz;exact h2.1 (k+1) _ (by omega) (by omega) (by omega) gy
    ·rw[if_neg e] at hz;exact h2.1 p z p1 p2 e hz,
    fun p z p1 p2 p3 hz=>by
     rw[sg,if_neg p3,if_neg (by omega)] at hz
     exact h2.2 p z p1 p2 (by omega) hz⟩
  exact ⟨d',r1,mv.trans r2,r3⟩
theorem sym_l21 {key:a0f→Int} (n:Nat) (a b i:Nat) (x:a0f):∀(c f k:Nat) (d:List a0f),i+c=k→c<f→a≤i→k<b→b≤d.length→d.length≤1000000000000→d[k]? = some x→Exc key d a b k→Place key d a b k i x →
  ∃d',r0k n f (d,(i:Int),(k:Int),())=some (.inl (d',()))∧Mv d d' a b∧Srt key d' a b:=by
 intro c;induction c with
 | zero =>
  intro f k d hk hf ha hi hb hL hx h1 h2;obtain ⟨f,rfl⟩:∃g,f=g+1:=⟨f-1,by omega⟩;rw[w0h];simp only[tfd,if_neg (show ¬((i:Int)<(k:Int)) by omega)];exact ⟨d,rfl,.refl _ _ _,n2y h1 h2 hx (by omega)⟩
 | succ c ih =>
  intro f k d hk hf ha hi hb hL hx h1 h2;obtain ⟨f,rfl⟩:∃g,f=g+1:=⟨f-1,by omega⟩;obtain ⟨k,rfl⟩:∃g,k=g+1:=⟨k-1,by omega⟩;rw[w0h];have lk:k<d.length:=by omega
  have gy:d[k]? = some d[k]:=List.getElem?_eq_getElem lk;have g1:(d.set (k+1) d[k])[k]? = some d[k]:=by rw[List.getElem?_set_ne (by omega)];exact gy
  rw[wn (x:=((k+1:Nat):Int)-1) (k:=k) (by omega) (by omega)];simp only[tfd,if_pos (show ((i:Int)<((k+1:Nat):Int)) by omega),m0c,Int.toNat_natCast,gy,hx,g1,obs];have sg:=i0d hx gy;have mv:=b1e (a:=a) (b:=b) hx gy (by omega) (by omega) (by omega) (by omega);obtain ⟨d',r1,r2,r3⟩:=ih f k ((d.set (k+1) d[k]).set k x) (by omega) (by omega) (by omega) (by omega) (by simpa using hb) (by simpa using hL)
   (by rw[sg,if_pos rfl]) (f2a (.inr rfl) (by omega) (by omega) hx gy h1)
   ⟨fun p z p1 p2 p3 hz=>by
    rw[sg,if_neg p3,if_neg (by omega)] at hz;exact h2.1 p z p1 p2 (by omega) hz,
    fun p z p1 p2 p3 hz=>by
     rw[sg,if_neg p3] at hz;by_cases e:p=k+1
     ·rw[if_pos e] at hz;injection hz with hz;subst hz;exact h2.2 k _ (by omega) (by omega) (by omega) gy
     ·rw[if_neg e] at hz;exact h2.2 p z p1 p2 e hz⟩
  exact ⟨d',r1,mv.trans r2,r3⟩
section
variable {cmp:(a0f×(a0f×Unit))→Option Int} {key:a0f→Int} (hc:Cmp cmp key)
include hc
theorem k2e (n:Nat) (a b mid n_:Int) (m p:Int) (mn bn pn:Nat) (an:Nat) (hp:p=pn) (d:List a0f) (hL:d.length≤1000000000000) (h1:Srt key d an mn) (h2:Srt key d mn bn) (hb:bn≤d.length) (lo hi:Nat)
  (hlo:an≤lo) (hhi:hi≤mn) (hq:∀c,lo≤c→c<hi→c≤pn∧mn≤pn-c∧pn-c<bn):∀(k f i j:Nat),j-i≤k→k<f→i≤j→lo≤i→j≤hi →
  (∀c x y,lo≤c→c<i→d[c]? = some x→d[pn-c]? = some y→key x≤key y)→(∀c x y,j≤c→c<hi→d[c]? = some x→d[pn-c]? = some y→key y<key x) →
  ∃r:Nat,k0e n f (d,a,m,b,cmp,mid,n_,(i:Int),(j:Int),p,())=some (.inl (d,a,m,b,cmp,mid,n_,(r:Int),()))∧lo≤r∧r≤hi ∧
   (∀c x y,lo≤c→c<r→d[c]? = some x→d[pn-c]? = some y→key x≤key y)∧(∀c x y,r≤c→c<hi→d[c]? = some x→d[pn-c]? = some y→key y<key x):=by
 subst hp;have le1:∀ {i j x y},an≤i→i≤j→j<mn→d[i]? = some x→d[j]? = some y→key x≤key y:=by
  intro i j x y q1 q2 q3 hx hy;rcases Nat.lt_or_eq_of_le q2 with q | q
  ·exact h1 i j x y q1 q q3 hx hy
  ·subst q;rw[hx] at hy;injection hy with hy;subst hy;exact Int.le_refl _
 have le2:∀ {i j x y},mn≤i→i≤j→j<bn→d[i]? = some x→d[j]? = some y→key x≤key y:=by
  intro i j x y q1 q2 q3 hx hy;rcases Nat.lt_or_eq_of_le q2 with q | q
  ·exact h2 i j x y q1 q q3 hx hy
  ·subst q;rw[hx] at hy;injection hy with hy;subst hy;exact Int.le_refl _
 intro k;induction k with
 | zero =>
  intro f i j hk hf hij hi' hj g1 g2;obtain ⟨f,rfl⟩:∃g,f=g+1:=⟨f-1,by omega⟩;rw[w0g];simp only[tfd,if_neg (show ¬((i:Int)<(j:Int)) by omega)];have e:i=j:=by omega
  subst e;exact ⟨i,rfl,hi',hj,g1,g2⟩
 | succ k ih =>
  intro f i j hk hf hij hi' hj g1 g2;obtain ⟨f,rfl⟩:∃g,f=g+1:=⟨f-1,by omega⟩;rw[w0g];by_cases lt:i<j
  ·generalize hcc:(i+j) / 2=c;have hq':=hq c (by omega) (by omega);have e1:=o0u i j (by omega);rw[hcc] at e1;have e2:IntKind.wrap .i64 ((pn:Int)-(c:Int))=((pn-c:Nat):Int):=wn (by omega) (by omega);obtain ⟨v,hcm,hlt⟩:=hc d[pn-c] d[c];have gc:d[c]? = some d[c]:=List.getElem?_eq_getElem (by omega);have gp:d[pn-c]? = some d[pn-c]:=List.getElem?_eq_getElem (by omega);simp only[tfn,tfd,if_pos (show ((i:Int)<(j:Int)) by omega),e1,e2,m0c,Int.toNat_natCast,gc,gp,obs,hcm];by_cases hlt':v<0
   ·have kl:=hlt.1 hlt';simp only[if_pos hlt'];refine ih f i c (by omega) (by omega) (by omega) hi' (by omega) g1 (fun q x y p1 p2 hx hy => ?_);have hq2:=hq q (by omega) (by omega);have:=le1 (i:=c) (j:=q) (by omega) p1 (by omega) gc hx;have:=le2 (i:=pn-q) (j:=pn-c) (by omega) (by omega) (by omega) hy gp;omega
   ·have kl:key d[c]≤key d[pn-c]:=by have:=mt hlt.2 hlt';omega
    simp only[if_neg hlt'];rw[wn (x:=(c:Int)+1) (k:=c+1) (by omega) (by omega)];refine ih f (c+1) j (by omega) (by omega) (by omega) (by omega) hj (fun q x y p1 p2 hx hy => ?_) g2;have hq2:=hq q (by omega) (by omega);have:=le1 (i:=q) (j:=c) (by omega) (by omega) (by omega) hx gc;have:=le2 (i:=pn-c) (j:=pn-q) (by omega) (by omega) (by omega) gp hy;omega
  ·simp only[tfd,if_neg (show ¬((i:Int)<(j:Int)) by omega)];have e:i=j:=by omega
   subst e;exact ⟨i,rfl,hi',hj,g1,g2⟩
theorem f1o:∀(dd n:Nat) (a m b:Int) (an mn bn:Nat) (d:List a0f),a=an→m=mn→b=bn→an<mn→mn<bn→bn≤d.length→d.length≤1000000000000→bn-an≤2^dd→Srt key d an mn→Srt key d mn bn →
  ∃d',b0v (n+dd+2) d a m b cmp=some d'∧Mv d d' an bn∧Srt key d' an bn:=by
 intro dd;induction dd with
 | zero=>intro n a m b an mn bn d ha hm hb h1 h2 hl hL hd;simp at hd;omega
 | succ dd ih =>
  intro n a m b an mn bn d ha hm hb h1 h2 hl hL hd s1 s2;subst ha hm hb;rw[show n+(dd+1)+2=(n+dd+2)+1 by omega,g2n];rw[wn (x:=(mn:Int)-an) (k:=mn-an) (by omega) (by omega),wn (x:=(bn:Int)-mn) (k:=bn-mn) (by omega) (by omega)];simp only[j2y];simp only[tfd];have gm:d[mn]? = some d[mn]:=List.getElem?_eq_getElem (by omega);have ga:d[an]? = some d[an]:=List.getElem?_eq_getElem (by omega);by_cases c1:((mn-an:Nat):Int)=1
  ·rw[if_pos c1];have e:mn=an+1:=by omega
   obtain ⟨r,r1,r2,r3,r4,r5⟩:=sym_l3 hc (n+dd+2) (an:Int) an rfl d d[an] ga hL mn bn s2 hl (bn-mn) a0d mn bn (by omega) (by unfold a0d;omega) (by omega) (by omega) (by omega) (fun p y p1 p2=>by omega) (fun p y p1 p2=>by omega);rw[r1];simp only[obs,a0n];obtain ⟨d',t1,t2,t3⟩:=sym_l9 (key:=key) (n+dd+2) an bn r d[an] (r-an-1) a0d an d (by omega) (by unfold a0d;omega) (by omega) r3 hl hL ga
    (fun p q x y p1 p2 p3 p4 p5 hx hy=>s2 p q x y (by omega) p2 p3 hx hy)
    ⟨fun p z p1 p2 p3 hz=>Int.le_of_lt (r4 p z (by omega) p2 hz),fun p z p1 p2 p3 hz=>r5 p z p1 p2 hz⟩
   rw[t1];exact ⟨d',by simp,t2,t3⟩
  rw[if_neg c1];by_cases c2:((bn-mn:Nat):Int)=1
  ·rw[if_pos c2];obtain ⟨r,r1,r2,r3,r4,r5⟩:=sym_l15 hc (n+dd+2) (mn:Int) mn rfl d d[mn] gm hL an mn s1 (by omega) (mn-an) a0d an mn (by omega) (by unfold a0d;omega) (by omega) (by omega) (by omega) (fun p y p1 p2=>by omega) (fun p y p1 p2=>by omega);rw[r1];simp only[obs,a0n];obtain ⟨d',t1,t2,t3⟩:=sym_l21 (key:=key) (n+dd+2) an bn r d[mn] (mn-r) a0d mn d (by omega) (by unfold a0d;omega) (by omega) (by omega) hl hL gm
    (fun p q x y p1 p2 p3 p4 p5 hx hy=>s1 p q x y (by omega) p2 (by omega) hx hy)
    ⟨fun p z p1 p2 p3 hz=>r4 p z p1 p2 hz,fun p z p1 p2 p3 hz=>Int.le_of_lt (r5 p z p1 (by omega) hz)⟩
   rw[t1];exact ⟨d',by simp,t2,t3⟩
  rw[if_neg c2,o0u an bn (by omega)];generalize hmid:(an+bn) / 2=mid;have hpow:2^(dd+1)=2^dd*2:=Nat.pow_succ 2 dd;generalize 2^dd=P at *
  rw[wn (x:=(mid:Int)+mn) (k:=mid+mn) (by omega) (by omega)];have fin:∀s:Nat,an≤s→s≤mn→mn≤mid+mn-s→mid+mn-s≤bn→s≤mid →
    (∀x y,an<s→mid+mn-s<bn→d[s-1]? = some x→d[mid+mn-s]? = some y→key x≤key y) →
    (∀x y,s<mn→mn<mid+mn-s→d[mid+mn-s-1]? = some x→d[s]? = some y→key x≤key y) →
    ∃d',(if (s:Int)<(mn:Int)∧(mn:Int)<((mid+mn-s:Nat):Int) then
      a0b (f1t (n+dd+2) d (s:Int) (mn:Int) ((mid+mn-s:Nat):Int) cmp) fun r14 =>
       if (an:Int)<(s:Int)∧(s:Int)<(mid:Int) then
        a0b (b0v (n+dd+2) r14 (an:Int) (s:Int) (mid:Int) cmp) fun r15 =>
         if (mid:Int)<((mid+mn-s:Nat):Int)∧((mid+mn-s:Nat):Int)<(bn:Int) then a0b (b0v (n+dd+2) r15 (mid:Int) ((mid+mn-s:Nat):Int) (bn:Int) cmp) fun r16=>some r16
         else some r15
       else if (mid:Int)<((mid+mn-s:Nat):Int)∧((mid+mn-s:Nat):Int)<(bn:Int) then a0b (b0v (n+dd+2) r14 (mid:Int) ((mid+mn-s:Nat):Int) (bn:Int) cmp) fun r17=>some r17
        else some r14
     else if (an:Int)<(s:Int)∧(s:Int)<(mid:Int) then
       a0b (b0v (n+dd+2) d (an:Int) (s:Int) (mid:Int) cmp) fun r15 =>
        if (mid:Int)<((mid+mn-s:Nat):Int)∧((mid+mn-s:Nat):Int)<(bn:Int) then a0b (b0v (n+dd+2) r15 (mid:Int) ((mid+mn-s:Nat):Int) (bn:Int) cmp) fun r16=>some r16
        else some r15
       else if (mid:Int)<((mid+mn-s:Nat):Int)∧((mid+mn-s:Nat):Int)<(bn:Int) then a0b (b0v (n+dd+2) d (mid:Int) ((mid+mn-s:Nat):Int) (bn:Int) cmp) fun r17=>some r17
        else some d)=some d'∧Mv d d' an bn∧Srt key d' an bn:=by
   intro s k1 k2 k3 k4 k5 q1 q2;generalize he:mid+mn-s=e at *
   have tail : ∀ d1, Turned d d1 s mn e → ∃ d', (if (an : Int) < (s : Int) ∧ (s : Int) < (mid : Int) then
             a0b (b0v (n+dd+2) d1 (an:Int) (s:Int) (mid:Int) cmp) fun r15 =>
              if (mid:Int)<((e:Nat):Int)∧((e:Nat):Int)<(bn:Int) then a0b (b0v (n+dd+2) r15 (mid:Int) ((e:Nat):Int) (bn:Int) cmp) fun r16=>some r16
              else some r15
     else if (mid:Int)<((e:Nat):Int)∧((e:Nat):Int)<(bn:Int) then a0b (b0v (n+dd+2) d1 (mid:Int) ((e:Nat):Int) (bn:Int) cmp) fun r17=>some r17
      else some d1)=some d'∧Mv d d' an bn∧Srt key d' an bn:=by
    intro d1 t;obtain ⟨⟨w1,w2,w3,w4⟩,cr⟩:=halves (a:=an) (b:=bn) (mid:=mid) s1 s2 t k1 k2 k3 k4 (by omega) hl q1 q2;have l1:=t.mv.len;have m1:Mv d d1 an bn:=t.mv.mono k1 k4;have half1:∃d2,(((an:Int)<(s:Int)∧(s:Int)<(mid:Int))→b0v (n+dd+2) d1 (an:Int) (s:Int) (mid:Int) cmp=some d2)∧(¬((an:Int)<(s:Int)∧(s:Int)<(mid:Int))→d2=d1)∧Mv d1 d2 an mid∧Srt key d2 an mid:=by
     by_cases c:(an:Int)<(s:Int)∧(s:Int)<(mid:Int)
     ·obtain ⟨d2,t1,t2,t3⟩:=ih n (an:Int) (s:Int) (mid:Int) an s mid d1 rfl rfl rfl (by omega) (by omega) (by omega) (by omega) (by omega) w1 w2;exact ⟨d2,fun _=>t1,fun h=>absurd c h,t2,t3⟩
     ·refine ⟨d1,fun h=>absurd h c,fun _=>rfl,.refl _ _ _,?_⟩;by_cases c':an<s
      ·have:s=mid:=by omega
       subst this;exact w1
      ·have:s=an:=by omega
       subst this;exact w2
    obtain ⟨d2,u1,u2,u3,u4⟩:=half1;have l2:=u3.len;have w3':=w3.keep u3 (.inr (Nat.le_refl _));have w4':=w4.keep u3 (.inr (by omega));have cr2:=t1l cr (.inl u3);have half2:∃d3,(((mid:Int)<(e:Int)∧(e:Int)<(bn:Int))→b0v (n+dd+2) d2 (mid:Int) (e:Int) (bn:Int) cmp=some d3)∧(¬((mid:Int)<(e:Int)∧(e:Int)<(bn:Int))→d3=d2)∧Mv d2 d3 mid bn∧Srt key d3 mid bn:=by
     by_cases c:(mid:Int)<(e:Int)∧(e:Int)<(bn:Int)
     ·obtain ⟨d3,t1,t2,t3⟩:=ih n (mid:Int) (e:Int) (bn:Int) mid e bn d2 rfl rfl rfl (by omega) (by omega) (by omega) (by omega) (by omega) w3' w4';exact ⟨d3,fun _=>t1,fun h=>absurd c h,t2,t3⟩
     ·refine ⟨d2,fun h=>absurd h c,fun _=>rfl,.refl _ _ _,?_⟩;by_cases c':mid<e
      ·have:e=bn:=by omega
       rw[this] at w3';exact w3'
      ·have:e=mid:=by omega
       rw[this] at w4';exact w4'
    obtain ⟨d3,v1,v2,v3,v4⟩:=half2;have fin3:Mv d d3 an bn∧Srt key d3 an bn :=
     ⟨(m1.trans (u3.mono (Nat.le_refl _) (by omega))).trans (v3.mono (by omega) (Nat.le_refl _)),Srt.join (u4.keep v3 (.inl (Nat.le_refl _))) v4 (t1l cr2 (.inr v3))⟩
    refine ⟨d3,?_,fin3⟩;by_cases c:(an:Int)<(s:Int)∧(s:Int)<(mid:Int)
    ·rw[if_pos c,u1 c,obs];by_cases c':(mid:Int)<(e:Int)∧(e:Int)<(bn:Int)
     ·rw[if_pos c',v1 c',obs]
     ·rw[if_neg c',v2 c']
    ·rw[if_neg c];obtain rfl:=u2 c;by_cases c':(mid:Int)<(e:Int)∧(e:Int)<(bn:Int)
     ·rw[if_pos c',v1 c',obs]
     ·rw[if_neg c',v2 c']
   by_cases c:(s:Int)<(mn:Int)∧(mn:Int)<(e:Int)
   ·obtain ⟨d1,t1,t2⟩:=k2w (cmp:=cmp) (n+dd) (s:Int) (mn:Int) (e:Int) s mn e rfl rfl rfl d (by omega) (by omega) (by omega) hL;rw[if_pos c,t1,obs];exact tail d1 t2
   ·rw[if_neg c];exact tail d (turned_refl d (by omega))
  by_cases c3:(mid:Int)<(mn:Int)
  ·rw[if_pos c3,wn (x:=((mid+mn:Nat):Int)-bn) (k:=mid+mn-bn) (by omega) (by omega),wn (x:=((mid+mn:Nat):Int)-1) (k:=mid+mn-1) (by omega) (by omega)];obtain ⟨r,r1,r2,r3,r4,r5⟩:=k2e hc (n+dd+2) (an:Int) (bn:Int) (mid:Int) ((mid+mn:Nat):Int) (mn:Int) ((mid+mn-1:Nat):Int) mn bn (mid+mn-1) an rfl d hL s1 s2 hl (mid+mn-bn) mid (by omega) (by omega)
    (fun c h1 h2=>by omega) (mid-(mid+mn-bn)) a0d (mid+mn-bn) mid (by omega) (by unfold a0d;omega) (by omega) (by omega) (by omega) (fun c x y h1 h2=>by omega) (fun c x y h1 h2=>by omega)
   rw[r1];simp only[obs,a0n,wn (x:=((mid+mn:Nat):Int)-(r:Int)) (k:=mid+mn-r) (by omega) (by omega)];refine fin r (by omega) (by omega) (by omega) (by omega) (by omega) (fun x y h1 h2 hx hy => ?_) (fun x y h1 h2 hx hy => ?_)
   ·refine r4 (r-1) x y (by omega) (by omega) hx ?_;rw[show mid+mn-1-(r-1)=mid+mn-r by omega];exact hy
   ·refine Int.le_of_lt (r5 r y x (by omega) (by omega) hy ?_);rw[show mid+mn-1-r=mid+mn-r-1 by omega];exact hx
  ·rw[if_neg c3,wn (x:=((mid+mn:Nat):Int)-1) (k:=mid+mn-1) (by omega) (by omega)];obtain ⟨r,r1,r2,r3,r4,r5⟩:=k2e hc (n+dd+2) (an:Int) (bn:Int) (mid:Int) ((mid+mn:Nat):Int) (mn:Int) ((mid+mn-1:Nat):Int) mn bn (mid+mn-1) an rfl d hL s1 s2 hl an mn (by omega) (by omega)
    (fun c h1 h2=>by omega) (mn-an) a0d an mn (by omega) (by unfold a0d;omega) (by omega) (by omega) (by omega) (fun c x y h1 h2=>by omega) (fun c x y h1 h2=>by omega)
   rw[r1];simp only[obs,a0n,wn (x:=((mid+mn:Nat):Int)-(r:Int)) (k:=mid+mn-r) (by omega) (by omega)];refine fin r (by omega) (by omega) (by omega) (by omega) (by omega) (fun x y h1 h2 hx hy => ?_) (fun x y h1 h2 hx hy => ?_)
   ·refine r4 (r-1) x y (by omega) (by omega) hx ?_;rw[show mid+mn-1-(r-1)=mid+mn-r by omega];exact hy
   ·refine Int.le_of_lt (r5 r y x (by omega) (by omega) hy ?_);rw[show mid+mn-1-r=mid+mn-r-1 by omega];exact hx
end
def Runs (key:a0f→Int) (d:List a0f) (B N:Nat):Prop:=∀c,B ∣ c→Srt key d c (min (c+B) N)
theorem e0n {B a c:Nat} (ha:B ∣ a) (hc:B ∣ c) (h:a<c):a+B≤c:=by
 obtain ⟨x,rfl⟩:=ha;obtain ⟨y,rfl⟩:=hc;have:x<y:=Nat.lt_of_mul_lt_mul_left h
 calc B*x+B=B*(x+1):=by rw[Nat.mul_succ]
  _≤B*y:=Nat.mul_le_mul_left B this
section
variable {cmp:(a0f×(a0f×Unit))→Option Int} {key:a0f→Int} (hc:Cmp cmp key)
include hc
theorem k2l (n:Nat) (N:Nat) (n_:Int) (hn:n_=N):∀(k f a:Nat) (d:List a0f),N-a≤k→k<f→20 ∣ a→a≤N→N=d.length→d.length≤100000000000→(∀c,20 ∣ c→c<a→Srt key d c (min (c+20) N)) →
  ∃d' a',p0t (n+1) f (d,n_,cmp,(20:Int),(a:Int),((a+20:Nat):Int),())=some (.inl (d',n_,cmp,(20:Int),((a':Nat):Int),()))∧20 ∣ a'∧a'≤N∧N<a'+20∧Mv d d' 0 N ∧
   (∀c,20 ∣ c→c<a'→Srt key d' c (min (c+20) N)):=by
 subst hn;intro k;induction k with
 | zero =>
  intro f a d hk hf h20 haN hN hL hs;obtain ⟨f,rfl⟩:∃g,f=g+1:=⟨f-1,by omega⟩;rw[y0w];simp only[tfd,if_neg (show ¬(((a+20:Nat):Int)≤(N:Int)) by omega)];exact ⟨d,a,rfl,h20,haN,by omega,.refl _ _ _,hs⟩
 | succ k ih =>
  intro f a d hk hf h20 haN hN hL hs;obtain ⟨f,rfl⟩:∃g,f=g+1:=⟨f-1,by omega⟩;rw[y0w];by_cases hle:a+20≤N
  ·obtain ⟨d1,r1,r2,r3⟩:=ins_ok hc n (a:Int) ((a+20:Nat):Int) a (a+20) rfl rfl d (by omega) (by omega) (by omega);have l1:=r2.len;simp only[tfd,if_pos (show (((a+20:Nat):Int)≤(N:Int)) by omega),r1,obs];rw[wn (x:=((a+20:Nat):Int)+20) (k:=a+20+20) (by omega) (by omega)];obtain ⟨d',a',s1,s2,s3,s4,s5,s6⟩:=ih f (a+20) d1 (by omega) (by omega) (by omega) (by omega) (by omega) (by omega) (fun c c1 c2=>by
    by_cases e:c<a
    ·have:=e0n c1 h20 e;exact (hs c c1 e).keep r2 (.inl (by omega))
    ·have:c=a:=by
      rcases Nat.lt_or_eq_of_le (Nat.le_of_not_lt e) with h | h
      ·have:=e0n h20 c1 h;omega
      ·exact h.symm
     subst this;rw[Nat.min_eq_left (by omega)]
     exact r3)
   exact ⟨d',a',s1,s2,s3,s4,(r2.mono (by omega) (by omega)).trans s5,s6⟩
  ·simp only[tfd,if_neg (show ¬(((a+20:Nat):Int)≤(N:Int)) by omega)];exact ⟨d,a,rfl,h20,haN,by omega,.refl _ _ _,hs⟩
theorem k2j (n dd:Nat) (N B:Nat) (n_:Int) (hn:n_=N) (hB:0<B) (hBN:B<N) (hdd:N≤2^dd):∀(k f a:Nat) (d:List a0f),N-a≤k→k<f→2*B ∣ a→a≤N→N=d.length→d.length≤100000000000 →
  (∀c,2*B ∣ c→c<a→Srt key d c (min (c+2*B) N))→(∀c,B ∣ c→a≤c→Srt key d c (min (c+B) N)) →
  ∃d' a',v0f (n+dd+2) f (d,n_,cmp,(B:Int),(a:Int),((a+2*B:Nat):Int),())=some (.inl (d',n_,cmp,(B:Int),((a':Nat):Int),()))∧2*B ∣ a'∧a'≤N∧N<a'+2*B∧Mv d d' 0 N ∧
   (∀c,2*B ∣ c→c<a'→Srt key d' c (min (c+2*B) N))∧(∀c,B ∣ c→a'≤c→Srt key d' c (min (c+B) N)):=by
 subst hn;have dB:B ∣ 2*B:=⟨2,by omega⟩;intro k;induction k with
 | zero =>
  intro f a d hk hf h20 haN hN hL hs hs';obtain ⟨f,rfl⟩:∃g,f=g+1:=⟨f-1,by omega⟩;rw[y0u];simp only[tfd,if_neg (show ¬(((a+2*B:Nat):Int)≤(N:Int)) by omega)];exact ⟨d,a,rfl,h20,haN,by omega,.refl _ _ _,hs,hs'⟩
 | succ k ih =>
  intro f a d hk hf h20 haN hN hL hs hs';obtain ⟨f,rfl⟩:∃g,f=g+1:=⟨f-1,by omega⟩;rw[y0u];by_cases hle:a+2*B≤N
  ·have ba:B ∣ a:=Nat.dvd_trans dB h20;have q1:=hs' a ba (Nat.le_refl _);have q2:=hs' (a+B) (Nat.dvd_add ba (Nat.dvd_refl _)) (by omega);rw[Nat.min_eq_left (by omega)] at q1 q2;rw[wn (x:=(a:Int)+B) (k:=a+B) (by omega) (by omega)];obtain ⟨d1,r1,r2,r3⟩:=f1o hc dd n (a:Int) ((a+B:Nat):Int) ((a+2*B:Nat):Int) a (a+B) (a+2*B) d rfl rfl rfl (by omega) (by omega) (by omega) (by omega) (by omega) q1 (q2.mono (by omega) (by omega));have l1:=r2.len;simp only[tfd,if_pos (show (((a+2*B:Nat):Int)≤(N:Int)) by omega),r1,obs]
   rw[wn (x:=2*(B:Int)) (k:=2*B) (by omega) (by omega),wn (x:=((a+2*B:Nat):Int)+((2*B:Nat):Int)) (k:=a+2*B+2*B) (by omega) (by omega)];obtain ⟨d',a',s1,s2,s3,s4,s5,s6,s7⟩:=ih f (a+2*B) d1 (by omega) (by omega) (Nat.dvd_add h20 (Nat.dvd_refl _)) (by omega) (by omega) (by omega) (fun c c1 c2=>by
    by_cases e:c<a
    ·have:=e0n c1 h20 e;exact (hs c c1 e).keep r2 (.inl (by omega))
    ·have:c=a:=by
      rcases Nat.lt_or_eq_of_le (Nat.le_of_not_lt e) with h | h
      ·have:=e0n h20 c1 h;omega
      ·exact h.symm
     subst this;rw[Nat.min_eq_left (by omega)]
     exact r3)
    (fun c c1 c2=>(hs' c c1 (by omega)).keep r2 (.inr (by omega)))
   exact ⟨d',a',s1,s2,s3,s4,(r2.mono (by omega) (by omega)).trans s5,s6,s7⟩
  ·simp only[tfd,if_neg (show ¬(((a+2*B:Nat):Int)≤(N:Int)) by omega)];exact ⟨d,a,rfl,h20,haN,by omega,.refl _ _ _,hs,hs'⟩
theorem k2k (n dd:Nat) (N:Nat) (n_:Int) (hn:n_=N) (hdd:N≤2^dd):∀(k f B:Nat) (d:List a0f),N-B≤k→k<f→0<B→B≤200000000000→N=d.length→d.length≤100000000000→Runs key d B N →
  ∃d',m0n (n+dd+2) f (d,n_,cmp,(B:Int),())=some (.inl (d',()))∧Mv d d' 0 N∧Srt key d' 0 N:=by
 subst hn;intro k;induction k with
 | zero =>
  intro f B d hk hf hB hBl hN hL hs;obtain ⟨f,rfl⟩:∃g,f=g+1:=⟨f-1,by omega⟩;rw[y0v];simp only[tfd,if_neg (show ¬((B:Int)<(N:Int)) by omega)];have:=hs 0 (Nat.dvd_zero _);rw[Nat.min_eq_right (by omega)] at this;exact ⟨d,rfl,.refl _ _ _,this⟩
 | succ k ih =>
  intro f B d hk hf hB hBl hN hL hs;obtain ⟨f,rfl⟩:∃g,f=g+1:=⟨f-1,by omega⟩;rw[y0v];by_cases hlt:B<N
  ·obtain ⟨d1,a,r1,r2,r3,r4,r5,r6,r7⟩:=k2j hc n dd N B (N:Int) rfl hB hlt hdd N a0d 0 d (by omega) (by unfold a0d;omega) (Nat.dvd_zero _) (by omega) hN hL (fun c _ h=>by omega) (fun c h _=>hs c h);have l1:=r5.len;rw[Nat.zero_add] at r1;simp only[tfd,if_pos (show ((B:Int)<(N:Int)) by omega),wn (x:=2*(B:Int)) (k:=2*B) (by omega) (by omega)];rw[show ((0:Int))=((0:Nat):Int) from rfl,r1];simp only[obs,a0n,wn (x:=(a:Int)+B) (k:=a+B) (by omega) (by omega),wn (x:=(B:Int)*2) (k:=2*B) (by omega) (by omega)];have dB:B ∣ 2*B:=⟨2,by omega⟩;have ba:B ∣ a:=Nat.dvd_trans dB r2
   by_cases hm:a+B<N
   ·have q1:=r7 a ba (Nat.le_refl _);have q2:=r7 (a+B) (Nat.dvd_add ba (Nat.dvd_refl _)) (by omega);rw[Nat.min_eq_left (by omega)] at q1;rw[Nat.min_eq_right (by omega)] at q2;obtain ⟨d2,t1,t2,t3⟩:=f1o hc dd n (a:Int) ((a+B:Nat):Int) (N:Int) a (a+B) N d1 rfl rfl rfl (by omega) (by omega) (by omega) (by omega) (by omega) q1 q2;have l2:=t2.len;simp only[if_pos (show (((a+B:Nat):Int)<(N:Int)) by omega),t1,obs];obtain ⟨d3,u1,u2,u3⟩:=ih f (2*B) d2 (by omega) (by omega) (by omega) (by omega) (by omega) (by omega) (fun c hcd=>by
     by_cases e:c<a
     ·have:=e0n hcd r2 e;exact (r6 c hcd e).keep t2 (.inl (by omega))
     ·by_cases e':c=a
      ·subst e';exact t3.mono (Nat.le_refl _) (by omega)
      ·have:=e0n r2 hcd (by omega)
       exact Srt.one _ _ (by omega))
    exact ⟨d3,u1,(r5.trans (t2.mono (by omega) (by omega))).trans u2,u3⟩
   ·simp only[if_neg (show ¬(((a+B:Nat):Int)<(N:Int)) by omega)];obtain ⟨d3,u1,u2,u3⟩:=ih f (2*B) d1 (by omega) (by omega) (by omega) (by omega) (by omega) (by omega) (fun c hcd=>by
     by_cases e:c<a
     ·exact r6 c hcd e
     ·by_cases e':c=a
      ·subst e';have q1:=r7 c ba (Nat.le_refl _);exact q1.mono (Nat.le_refl _) (by omega)
      ·have:=e0n r2 hcd (by omega)
       exact Srt.one _ _ (by omega))
    exact ⟨d3,u1,r5.trans u2,u3⟩
  ·simp only[tfd,if_neg (show ¬((B:Int)<(N:Int)) by omega)];have:=hs 0 (Nat.dvd_zero _);rw[Nat.min_eq_right (by omega)] at this;exact ⟨d,rfl,.refl _ _ _,this⟩
theorem q1i (n dd:Nat) (d:List a0f) (hL:d.length≤2^dd) (hL':d.length≤100000000000) :
  ∃d',g0e (n+dd+4) d cmp=some d'∧d'.Perm d∧Srt key d' 0 d.length:=by
 rw[p0e,g2p];obtain ⟨d1,a,r1,r2,r3,r4,r5,r6⟩:=k2l hc (n+dd+1) d.length (d.length:Int) rfl d.length a0d 0 d (by omega) (by unfold a0d;omega) (Nat.dvd_zero _) (by omega) rfl hL' (fun c _ h=>by omega);have l1:=r5.len;obtain ⟨d2,s1,s2,s3⟩:=ins_ok hc (n+dd+1) (a:Int) (d.length:Int) a d.length rfl rfl d1 r3 (by omega) (by omega);have l2:=s2.len;obtain ⟨d3,t1,t2,t3⟩:=k2k hc n dd d.length (d.length:Int) rfl hL d.length a0d 20 d2 (by omega) (by unfold a0d;omega) (by omega) (by omega) (by omega) (by omega) (fun c hcd=>by
  by_cases e:c<a
  ·have:=e0n hcd r2 e;exact (r6 c hcd e).keep s2 (.inl (by omega))
  ·by_cases e':c=a
   ·subst e';exact s3.mono (Nat.le_refl _) (by omega)
   ·have:=e0n r2 hcd (by omega)
    exact Srt.one _ _ (by omega))
 have r1':p0t (n+dd+2) a0d (d,((d.length:Nat):Int),cmp,(20:Int),(0:Int),(20:Int),())=_:=r1;rw[r1'];simp only[obs,a0n,s1];have t1':m0n (n+dd+2) a0d (d2,((d.length:Nat):Int),cmp,(20:Int),())=_:=t1;rw[t1'];exact ⟨d3,by simp,(t2.perm.trans s2.perm).trans r5.perm,t3⟩
end
end Go.Proofs.YtgkpkajaepphjaaGreatDoor

namespace Go.Plim
set_option linter.unusedVariables false
abbrev Slo:=Int×Cel
instance decSlo:DecidableEq Slo := @instDecidableEqProd _ _ _ decCel
def s0:Slo:=(0,z0)
structure FitsP (c:Cel) (w i:Int):Prop where
 n:CellN c
 w0:1≤w
 w1:w≤1099511627776
 f:c.2.1.1 / w=i
 l:c.2.2.1.1 / w=i
theorem FitsP.i0 {c:Cel} {w i:Int} (h:FitsP c w i):0≤i∧i<35184372088832:=by
 obtain ⟨n,w0,w1,f,l⟩:=h;have h1:=n.f.t0;have h2:=n.f.t1;have:0≤c.2.1.1 / w:=Int.ediv_nonneg h1 (by omega);have:c.2.1.1 / w≤c.2.1.1:=Int.ediv_le_self _ h1;omega
structure TierOk (l:List Slo) (w:Int):Prop where
 l0:1≤l.length
 l1:l.length≤4096
 w0:1≤w
 w1:w≤1099511627776
 s:∀(j:Nat) s,l[j]? = some s→s=s0∨(s.1 % (l.length:Int)=j∧FitsP s.2 w s.1)
noncomputable instance (c w i):Decidable (FitsP c w i):=Classical.propDecidable _
noncomputable instance (l w):Decidable (TierOk l w):=Classical.propDecidable _
def tget (l:List Slo) (i:Int):Cel :=
 if i<0 then z0 else match l[(i % (l.length:Int)).toNat]? with | some s=>if s.1=i then s.2 else z0 | none=>z0
def Up (l:List Slo):Prop:=l.Pairwise fun a b=>a.1<b.1
theorem up_perm:∀ {a b:List Slo},Up a→Up b→a.Perm b→a=b:=by
 intro a;induction a with
 | nil=>intro b _ _ h;exact h.nil_eq
 | cons x a ih =>
  intro b ha hb h;cases b with
  | nil=>exact absurd h.length_eq (by simp)
  | cons y b =>
   unfold Up at *
   rw[List.pairwise_cons] at ha hb;have hx:x∈y::b:=h.subset (by simp);have hy:y∈x::a:=h.symm.subset (by simp);have e:x=y:=by
    rcases List.mem_cons.1 hx with e | hx
    ·exact e
    ·rcases List.mem_cons.1 hy with e | hy
     ·exact e.symm
     ·have:=hb.1 x hx;have:=ha.1 y hy;omega
   subst e;rw[ih ha.2 hb.2 (List.Perm.cons_inv h)]
def i0q (l:List Slo):List Slo:=l.filter fun s=>decide (s≠s0)
theorem TierOk.apart {l:List Slo} {w:Int} (h:TierOk l w):(i0q l).Pairwise fun a b=>a.1≠b.1:=by
 have key:∀(m:List Slo) (k:Nat),(∀(j:Nat) s,m[j]? = some s→s=s0∨s.1 % (l.length:Int)=((k+j:Nat):Int))→(i0q m).Pairwise fun a b=>a.1≠b.1:=by
  intro m;induction m with
  | nil=>intro k _;exact .nil
  | cons x m ih =>
   intro k hm;have ih':=ih (k+1) (fun j s hs=>by
    have:=hm (j+1) s hs
    rwa [show k+(j+1)=k+1+j by omega] at this)
   unfold i0q at *
   by_cases hx:x=s0
   ·rw[List.filter_cons_of_neg (by simp[hx])];exact ih'
   ·rw[List.filter_cons_of_pos (by simp[hx])];refine List.pairwise_cons.2 ⟨fun y hy => ?_,ih'⟩;have hy':=List.mem_filter.1 hy;obtain ⟨j,hj⟩:=List.getElem?_of_mem hy'.1;have h1:=(hm 0 x rfl).resolve_left hx;have h2:=(hm (j+1) y hj).resolve_left (by simpa using hy'.2);intro e;rw[e,h2] at h1;omega
 exact key l 0 (fun j s hs=>by
  rcases h.s j s hs with e | e
  ·exact .inl e
  ·exact .inr (by rw[e.1,Nat.zero_add]))
def tall (l:List Slo):List Slo:=(i0q l).mergeSort fun a b=>decide (a.1≤b.1)
theorem y0l (l:List Slo):(tall l).Perm (i0q l):=List.mergeSort_perm _ _
theorem up_of {l:List Slo} (h:l.Pairwise fun a b=>a.1≤b.1) (h':l.Pairwise fun a b=>a.1≠b.1):Up l:=by
 have:=h.and h';exact this.imp (fun {a b} k=>by have:=k.1;have:=k.2;omega)
theorem q1d {l:List Slo} {w:Int} (h:TierOk l w):Up (tall l):=by
 refine up_of ?_ ((y0l l).pairwise_iff (fun {a b} k=>k.symm) |>.2 h.apart);have:=List.pairwise_mergeSort (le:=fun a b:Slo=>decide (a.1≤b.1)) (fun a b c h1 h2=>by simp at *;omega) (fun a b=>by simp;omega) (i0q l);exact this.imp (fun {a b} k=>by simpa using k)
theorem k2d {l r:List Slo} {w:Int} (h:TierOk l w) (hp:r.Perm (i0q l)) (hs:r.Pairwise fun a b=>a.1≤b.1):r=tall l:=by
 refine up_perm (up_of hs (hp.pairwise_iff (fun {a b} k=>k.symm) |>.2 h.apart)) (q1d h) (hp.trans (y0l l).symm)
theorem s1e {l:List Slo} {s:Slo}:s∈tall l↔s∈l∧s≠s0:=by
 rw[(y0l l).mem_iff];simp[i0q]
theorem n0m {l:List Slo} {w:Int} (h:TierOk l w) {s:Slo} (hs:s∈tall l):FitsP s.2 w s.1∧l[(s.1 % (l.length:Int)).toNat]? = some s:=by
 obtain ⟨h1,h2⟩:=s1e.1 hs;obtain ⟨j,hj⟩:=List.getElem?_of_mem h1;obtain ⟨h3,h4⟩:=(h.s j s hj).resolve_left h2;refine ⟨h4,?_⟩;rw[h3];exact hj
theorem tget_mem {l:List Slo} {w:Int} (h:TierOk l w) {s:Slo} (hs:s∈tall l):tget l s.1=s.2:=by
 obtain ⟨h1,h2⟩:=n0m h hs;unfold tget;rw[if_neg (by have:=h1.i0;omega),h2];simp
def within (l:List Slo) (i k:Int):List Cel:=((tall l).filter fun s=>decide (i≤s.1∧s.1<k)).map (·.2)
def h0x (l:List Slo) (i k:Int):Cel×Int:=if i<0∨k<i then (z0,1) else allE z0 (within l i k)
end Go.Plim
