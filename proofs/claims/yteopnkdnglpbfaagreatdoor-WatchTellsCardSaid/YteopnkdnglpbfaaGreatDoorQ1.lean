/-
 Plain proofs about the functions of this seat, part 1 of 4.
-/
import Derived.IntWalk
import Derived.Test.YteopnkdnglpbfaaGreatDoorTr
import Derived.Test.YteopnkdnglpbfaaGreatDoorFlatM4
open Go.IntKind (wrap)
namespace Go.Plim
set_option linter.unusedVariables false
theorem mod_half {a b:Nat} (h:0<b) (hab:b<=a):2*(a % b)<a:=by
 have h1:=Nat.mod_lt a h;have h2:=Nat.div_add_mod a b;have h3:1<=a / b:=(Nat.le_div_iff_mul_le h).2 (by omega);have h4:b*1<=b*(a / b):=Nat.mul_le_mul_left b h3;omega
def tz:Nat->Nat->Nat
 | 0,_=>0
 | k+1,x=>if x % 2=1 then 0 else tz k (x / 2)+1
theorem tz_odd (k x:Nat) (h:x % 2=1):tz k x=0:=by cases k<;>simp[tz,h]
theorem u0z:∀(k x:Nat),0<x->x<2^k->tz k x<k/\x=2^tz k x*(x / 2^tz k x)/\(x / 2^tz k x) % 2=1:=by
 intro k;induction k with
 | zero=>intro x h0 h1;simp at h1;omega
 | succ k ih =>
  intro x h0 h1;by_cases h:x % 2=1
  ·rw[tz_odd (k+1) x h];simp[h]
  ·have e:tz (k+1) x=tz k (x / 2)+1:=by simp[tz,h]
   rw[Nat.pow_succ] at h1;obtain ⟨a1,a2,a3⟩:=ih (x / 2) (by omega) (by omega);rw[e,Nat.pow_succ,Nat.mul_comm (2^tz k (x / 2)) 2,<-Nat.div_div_eq_div_mul];refine ⟨by omega,?_,a3⟩;rw[Nat.mul_assoc,<-a2];omega
theorem c1w {k x t:Nat} (h0:0<x) (h1:x<2^k) (h:x % 2^t=0) (ho:(x / 2^t) % 2=1):tz k x=t:=by
 obtain ⟨a1,a2,a3⟩:=u0z k x h0 h1;have b2:x=2^t*(x / 2^t):=by have:=Nat.div_add_mod x (2^t);omega
 generalize tz k x=s at *
 generalize hy:x / 2^s=y at *
 generalize hz:x / 2^t=z at *
 have e:2^s*y=2^t*z:=by omega
 have one:∀(s t y z:Nat),2^s*y=2^t*z->y % 2=1->z % 2=1->s<t->False:=by
  intro s t y z e hy hz hlt;obtain ⟨d,rfl⟩:∃d,t=s+(d+1):=⟨t-s-1,by omega⟩;rw[Nat.pow_add,Nat.mul_assoc] at e;have:=Nat.eq_of_mul_eq_mul_left (Nat.two_pow_pos s) e;rw[this,Nat.pow_succ,Nat.mul_comm (2^d) 2,Nat.mul_assoc,Nat.mul_mod_right] at hy;cases hy
 rcases Nat.lt_trichotomy s t with q | q | q
 ·exact (one s t y z e a3 ho q).elim
 ·exact q
 ·exact (one t s z y e.symm ho a3 q).elim
theorem z1h {a b:Nat} (ha:a % 2=1) (t:Nat):Nat.gcd a (2^t*b)=Nat.gcd a b:=by
 have hc:Nat.Coprime 2 a:=by
  unfold Nat.Coprime;rw[Nat.gcd_rec,ha];simp
 exact Nat.Coprime.gcd_mul_left_cancel_right b (Nat.Coprime.pow_left t hc)
theorem c1m {a b:Nat} (h:a<=b):Nat.gcd a (b-a)=Nat.gcd a b:=by
 have:=Nat.gcd_add_self_right (m:=a) (n:=b-a);rw[Nat.sub_add_cancel h] at this;exact this.symm
theorem k2i {x y s t a b:Nat} (hx:x=2^s*a) (hy:y=2^t*b) (ha:a % 2=1) (hb:b % 2=1):Nat.gcd x y=2^(min s t)*Nat.gcd a b:=by
 subst hx hy;rcases Nat.le_total s t with h | h
 ·rw[Nat.min_eq_left h];obtain ⟨d,rfl⟩:∃d,t=s+d:=⟨t-s,by omega⟩;rw[Nat.pow_add,Nat.mul_assoc,Nat.gcd_mul_left,z1h ha]
 ·rw[Nat.min_eq_right h];obtain ⟨d,rfl⟩:∃d,s=t+d:=⟨s-t,by omega⟩;rw[Nat.pow_add,Nat.mul_assoc,Nat.gcd_mul_left,Nat.gcd_comm (2^d*a),z1h hb,Nat.gcd_comm b a]
def bl:Nat->Nat->Nat
 | 0,_=>0
 | k+1,x=>if x=0 then 0 else bl k (x / 2)+1
theorem a1h (k:Nat):bl k 0=0:=by cases k<;>simp[bl]
theorem i0x:∀(k x:Nat),x<2^k->x<2^bl k x/\(0<x->0<bl k x/\2^(bl k x-1)<=x)/\bl k x<=k:=by
 intro k;induction k with
 | zero=>intro x h;simp[bl] at *;omega
 | succ k ih =>
  intro x h;by_cases h0:x=0
  ·subst h0;rw[a1h];simp
  ·have e:bl (k+1) x=bl k (x / 2)+1:=by simp[bl,h0]
   rw[Nat.pow_succ] at h;obtain ⟨a1,a2,a3⟩:=ih (x / 2) (by omega);rw[e];refine ⟨by rw[Nat.pow_succ];omega,fun _=>⟨by omega,?_⟩,by omega⟩;rw[Nat.add_sub_cancel];by_cases h1:x / 2=0
   ·rw[h1,a1h];simp;omega
   ·obtain ⟨b1,b2⟩:=a2 (by omega);have:2^bl k (x / 2)=2^(bl k (x / 2)-1)*2:=by rw[<-Nat.pow_succ];congr 1;omega
    omega
theorem v1o {k x b:Nat} (h:x<2^k) (h0:0<x) (h1:2^b<=x) (h2:x<2^(b+1)):bl k x=b+1:=by
 obtain ⟨a1,a2,_⟩:=i0x k x h;obtain ⟨c1,c2⟩:=a2 h0;have d1:b<bl k x:=by
  rcases Nat.lt_or_ge b (bl k x) with q | q
  ·exact q
  ·have:=Nat.pow_le_pow_right (show 0<2 by decide) q;omega
 have d2:bl k x-1<b+1:=by
  rcases Nat.lt_or_ge (bl k x-1) (b+1) with q | q
  ·exact q
  ·have:=Nat.pow_le_pow_right (show 0<2 by decide) q;omega
 omega
theorem div_step {A D L i q r:Nat} (hD:0<D) (h:A / 2^(i+1)=D*q+r) (hr:r<D) :
  (D<=2*r+A / 2^i % 2->A / 2^i=D*(2*q+1)+(2*r+A / 2^i % 2-D)/\2*r+A / 2^i % 2-D<D) /\
  (2*r+A / 2^i % 2<D->A / 2^i=D*(2*q)+(2*r+A / 2^i % 2)):=by
 rw[Nat.pow_succ,<-Nat.div_div_eq_div_mul] at h;have h1:=Nat.div_add_mod (A / 2^i) 2;rw[h] at h1;have e1:2*(D*q+r)=D*(2*q)+2*r:=by rw[Nat.mul_add,Nat.mul_left_comm]
 have e2:D*(2*q+1)=D*(2*q)+D:=by rw[Nat.mul_add,Nat.mul_one]
 generalize D*(2*q)=Z at *
 constructor
 ·intro k;rw[e2];omega
 ·intro k;omega
end Go.Plim

namespace Go.Plim
set_option linter.unusedVariables false
abbrev Wd:=Int×Int
abbrev Ev:=Int×(Int×(Int×Bool))
abbrev Cel:=Int×(Ev×(Ev×(Wd×(Int×(Int×Int)))))
instance decWd:DecidableEq Wd:=inferInstanceAs (DecidableEq (Int×Int))
instance decEv:DecidableEq Ev:=inferInstanceAs (DecidableEq (Int×(Int×(Int×Bool))))
instance decCel:DecidableEq Cel := @instDecidableEqProd _ _ _ (@instDecidableEqProd _ _ decEv (@instDecidableEqProd _ _ decEv (@instDecidableEqProd _ _ decWd inferInstance)))
def wv (a:Wd):Int:=a.1*18446744073709551616+a.2
structure WdOk (a:Wd):Prop where
 hi:0<=a.1/\a.1<=18446744073709551615
 lo:0<=a.2/\a.2<=18446744073709551615
def mkW (v:Int):Wd:=(v / 18446744073709551616,v % 18446744073709551616)
theorem k1y {a:Wd} (h:WdOk a):mkW (wv a)=a:=by
 obtain ⟨h1,h2⟩:=h;obtain ⟨x,y⟩:=a;simp only[mkW,wv] at *
 exact Prod.ext (by simp only;omega) (by simp only;omega)
theorem t0s (v:Int):wv (mkW v)=v:=by
 simp only[mkW,wv];omega
theorem x0y {v:Int} (h:0<=v) (h':v<340282366920938463463374607431768211456):WdOk (mkW v):=by
 constructor<;>simp only[mkW]<;>omega
theorem e0t {a:Wd} (h:WdOk a):0<=wv a/\wv a<340282366920938463463374607431768211456:=by
 obtain ⟨h1,h2⟩:=h;simp only[wv];omega
theorem c1r:wv (0,0)=0:=rfl
theorem wv_lo (x:Int):wv (0,x)=x:=by simp[wv]
def addW (a b:Wd):Wd×Int:=if wv a+wv b<340282366920938463463374607431768211456 then (mkW (wv a+wv b),0) else ((0,0),1)
def e0:Ev:=(0,(0,(0,false)))
structure EvOk (e:Ev):Prop where
 t0:0<=e.1
 t1:e.1<35184372088832
 v0:0<=e.2.1
 v1:e.2.1<=18446744073709551615
 c0:0<=e.2.2.1
 c1:e.2.2.1<=e.1
 st:e.2.2.2=true->e.2.1=0/\e.2.2.1=0
theorem evOk_iff (e:Ev):EvOk e↔(0<=e.1/\e.1<35184372088832/\0<=e.2.1/\e.2.1<=18446744073709551615/\0<=e.2.2.1/\e.2.2.1<=e.1/\(e.2.2.2=true->e.2.1=0/\e.2.2.1=0)) :=
 ⟨fun ⟨a,b,c,d,f,g,h⟩=>⟨a,b,c,d,f,g,h⟩,fun ⟨a,b,c,d,f,g,h⟩=>⟨a,b,c,d,f,g,h⟩⟩
instance (e:Ev):Decidable (EvOk e):=decidable_of_iff _ (evOk_iff e).symm
def btw (p c:Ev):Int×(Int×(Int×Int)) :=
 if c.2.2.2=true then (0,0,0,0)
 else if p.1<c.2.2.1 then (c.2.1,1,0,c.1-c.2.2.1)
 else if p.2.2.2=true then (0,0,1,0)
 else if c.2.1<p.2.1 then (c.2.1,1,0,c.1-p.1)
 else (c.2.1-p.2.1,0,0,c.1-p.1)
structure DlOk (d:Int×(Int×(Int×Int))) (s:Int):Prop where
 i:0<=d.1/\d.1<=18446744073709551615
 r:0<=d.2.1
 g:0<=d.2.2.1
 rg:d.2.1+d.2.2.1<=1
 s:0<=d.2.2.2/\d.2.2.2<=s
theorem c2b {p c:Ev} (hp:EvOk p) (hc:EvOk c) (h:p.1<c.1):DlOk (btw p c) (c.1-p.1):=by
 obtain ⟨a1,a2,a3,a4,a5,a6,a7⟩:=hp;obtain ⟨b1,b2,b3,b4,b5,b6,b7⟩:=hc;unfold btw;by_cases k1:c.2.2.2=true
 ·rw[q0z k1];constructor<;>simp only<;>omega
 rw[q0n k1];by_cases k2:p.1<c.2.2.1
 ·rw[q0z k2];constructor<;>simp only<;>omega
 rw[q0n k2];by_cases k3:p.2.2.2=true
 ·rw[q0z k3];constructor<;>simp only<;>omega
 rw[q0n k3];by_cases k4:c.2.1<p.2.1
 ·rw[q0z k4];constructor<;>simp only<;>omega
 rw[q0n k4];constructor<;>simp only<;>omega
def z0:Cel:=(0,(e0,(e0,((0,0),(0,(0,0))))))
structure CellN (c:Cel):Prop where
 n1:1<=c.1
 f:EvOk c.2.1
 l:EvOk c.2.2.1
 one:c.1=1->c.2.1=c.2.2.1
 more:1<c.1->c.2.1.1<c.2.2.1.1
 n2:c.1-1<=c.2.2.1.1-c.2.1.1
 w:WdOk c.2.2.2.1
 inc:wv c.2.2.2.1<=18446744073709551615*(c.1-1)
 r:0<=c.2.2.2.2.1
 g:0<=c.2.2.2.2.2.1
 rg:c.2.2.2.2.1+c.2.2.2.2.2.1<=c.1-1
 s0:0<=c.2.2.2.2.2.2
 s1:c.2.2.2.2.2.2<=c.2.2.1.1-c.2.1.1
theorem wdOk_iff (a:Wd):WdOk a↔(0<=a.1/\a.1<=18446744073709551615)/\(0<=a.2/\a.2<=18446744073709551615) :=
 ⟨fun ⟨a,b⟩=>⟨a,b⟩,fun ⟨a,b⟩=>⟨a,b⟩⟩
instance (a:Wd):Decidable (WdOk a):=decidable_of_iff _ (wdOk_iff a).symm
theorem l2j (c:Cel):CellN c↔(1<=c.1/\EvOk c.2.1/\EvOk c.2.2.1/\(c.1=1->c.2.1=c.2.2.1)/\(1<c.1->c.2.1.1<c.2.2.1.1)/\c.1-1<=c.2.2.1.1-c.2.1.1/\WdOk c.2.2.2.1 /\
  wv c.2.2.2.1<=18446744073709551615*(c.1-1)/\0<=c.2.2.2.2.1/\0<=c.2.2.2.2.2.1/\c.2.2.2.2.1+c.2.2.2.2.2.1<=c.1-1/\0<=c.2.2.2.2.2.2/\c.2.2.2.2.2.2<=c.2.2.1.1-c.2.1.1) :=
 ⟨fun ⟨a,b,c,d,e,f,g,h,i,j,k,l,m⟩=>⟨a,b,c,d,e,f,g,h,i,j,k,l,m⟩,fun ⟨a,b,c,d,e,f,g,h,i,j,k,l,m⟩=>⟨a,b,c,d,e,f,g,h,i,j,k,l,m⟩⟩
instance (c:Cel):Decidable (CellN c):=decidable_of_iff _ (l2j c).symm
def c0g (c:Cel):Prop:=c=z0\/CellN c
instance (c:Cel):Decidable (c0g c):=by unfold c0g;infer_instance
theorem CellN.ne {c:Cel} (h:CellN c):c≠z0:=by
 intro e;have:=h.n1;rw[e] at this;simp[z0] at this
theorem CellN.ok {c:Cel} (h:CellN c):c0g c := .inr h
theorem x0t:c0g z0 := .inl rfl
theorem c0g.n {c:Cel} (h:c0g c) (hz:c≠z0):CellN c:=h.resolve_left hz
theorem c0g.count {c:Cel} (h:c0g c):(c.1=0↔c=z0)/\0<=c.1:=by
 rcases h with rfl | h
 ·exact ⟨⟨fun _=>rfl,fun _=>rfl⟩,by simp[z0]⟩
 ·have:=h.n1;exact ⟨⟨fun e=>by omega,fun e=>absurd e h.ne⟩,by omega⟩
theorem CellN.ft {c:Cel} (h:CellN c):c.2.1.1<=c.2.2.1.1:=by have:=h.n1;have:=h.n2;omega
theorem CellN.small {c:Cel} (h:CellN c):c.1<=35184372088832:=by
 have:=h.n2;have:=h.f.t0;have:=h.l.t1;omega
def mrg (a b:Cel):Cel :=
 if a=z0 then b else if b=z0 then a else
  (a.1+b.1,(a.2.1,(b.2.2.1,(mkW (wv a.2.2.2.1+(btw a.2.2.1 b.2.1).1+wv b.2.2.2.1),
   (a.2.2.2.2.1+(btw a.2.2.1 b.2.1).2.1+b.2.2.2.2.1,(a.2.2.2.2.2.1+(btw a.2.2.1 b.2.1).2.2.1+b.2.2.2.2.2.1,a.2.2.2.2.2.2+(btw a.2.2.1 b.2.1).2.2.2+b.2.2.2.2.2.2))))))
def Ahead (a b:Cel):Prop:=a=z0\/b=z0\/a.2.2.1.1<b.2.1.1
instance (a b:Cel):Decidable (Ahead a b):=by unfold Ahead;infer_instance
theorem j2d (a:Cel):mrg a z0=a:=by
 unfold mrg;split
 ·rename_i h;exact h.symm
 ·simp
theorem q1j (a:Cel):mrg z0 a=a:=by unfold mrg;simp
theorem mrg_n {a b:Cel} (ha:CellN a) (hb:CellN b):mrg a b=(a.1+b.1,(a.2.1,(b.2.2.1,(mkW (wv a.2.2.2.1+(btw a.2.2.1 b.2.1).1+wv b.2.2.2.1),
  (a.2.2.2.2.1+(btw a.2.2.1 b.2.1).2.1+b.2.2.2.2.1,(a.2.2.2.2.2.1+(btw a.2.2.1 b.2.1).2.2.1+b.2.2.2.2.2.1,a.2.2.2.2.2.2+(btw a.2.2.1 b.2.1).2.2.2+b.2.2.2.2.2.2)))))):=by
 unfold mrg;rw[q0n ha.ne,q0n hb.ne]
theorem mrg_N {a b:Cel} (ha:CellN a) (hb:CellN b) (h:a.2.2.1.1<b.2.1.1):CellN (mrg a b):=by
 have d:=c2b ha.l hb.f h;have a1:=ha.n1;have b1:=hb.n1;have a2:=ha.ft;have b2:=hb.ft;have a3:=ha.inc;have b3:=hb.inc;have a4:=e0t ha.w;have b4:=e0t hb.w;have a5:=ha.small;have b5:=hb.small;rw[mrg_n ha hb];generalize btw a.2.2.1 b.2.1=x at *
 obtain ⟨d1,d2,d3,d4,d5⟩:=d;have e:18446744073709551615*(a.1+b.1-1)=18446744073709551615*(a.1-1)+18446744073709551615+18446744073709551615*(b.1-1):=by omega
 constructor<;>simp only
 ·omega
 ·exact ha.f
 ·exact hb.l
 ·intro h;omega
 ·intro _;omega
 ·have:=ha.n2;have:=hb.n2;omega
 ·exact x0y (by omega) (by omega)
 ·rw[t0s];omega
 ·have:=ha.r;have:=hb.r;omega
 ·have:=ha.g;have:=hb.g;omega
 ·have:=ha.rg;have:=hb.rg;omega
 ·have:=ha.s0;have:=hb.s0;omega
 ·have:=ha.s1;have:=hb.s1;omega
theorem u1b {a b:Cel} (ha:c0g a) (hb:c0g b) (h:Ahead a b):c0g (mrg a b):=by
 by_cases k:a=z0
 ·rw[k,q1j];exact hb
 by_cases k':b=z0
 ·rw[k',j2d];exact ha
 exact .inr (mrg_N (ha.n k) (hb.n k') ((h.resolve_left k).resolve_left k'))
def evCell (e:Ev):Cel:=(1,(e,(e,((0,0),(0,(0,0))))))
def cellOf (l:List Ev):Cel:=l.foldl (fun c e=>mrg c (evCell e)) z0
structure Foll (l:List Ev):Prop where
 ok:∀e∈l,EvOk e
 inc:l.Pairwise fun a b=>a.1<b.1
theorem Foll.nil:Foll []:=⟨by simp,.nil⟩
theorem q0i {l m:List Ev}:Foll (l++m)↔Foll l/\Foll m/\∀x∈l,∀y∈m,x.1<y.1:=by
 constructor
 ·rintro ⟨h1,h2⟩;rw[List.pairwise_append] at h2;exact ⟨⟨fun x hx=>h1 x (by simp[hx]),h2.1⟩,⟨fun x hx=>h1 x (by simp[hx]),h2.2.1⟩,h2.2.2⟩
 ·rintro ⟨h1,h2,h3⟩;refine ⟨fun x hx => ?_,List.pairwise_append.2 ⟨h1.inc,h2.inc,h3⟩⟩;rcases q2n.1 hx with hx | hx
  ·exact h1.ok x hx
  ·exact h2.ok x hx
theorem Foll.sub {l m:List Ev} (h:Foll l) (s:m.Sublist l):Foll m:=⟨fun e he=>h.ok e (s.subset he),h.inc.sublist s⟩
structure Has (l:List Ev) (c:Cel):Prop where
 n:CellN c
 cnt:c.1=l.length
 first:l.head? = some c.2.1
 last:l.getLast? = some c.2.2.1
def mrgE (a b:Cel):Cel×Int:=if c0g a/\c0g b then (if Ahead a b then (mrg a b,0) else (z0,9)) else (z0,2)
def allE:Cel->List Cel->Cel×Int
 | c,[]=>(c,0)
 | c,x::r=>if (mrgE c x).2=0 then allE (mrgE c x).1 r else (z0,(mrgE c x).2)
end Go.Plim

namespace Go.Plim
set_option linter.unusedVariables false
def ofN (x:Nat):Wd:=(((x / 18446744073709551616:Nat):Int),((x % 18446744073709551616:Nat):Int))
theorem z0t (x:Nat):mkW (x:Int)=ofN x:=by
 unfold mkW ofN;rw[Prod.mk.injEq];constructor<;>omega
theorem ofN_of {a:Wd} (h:WdOk a):∃x:Nat,x<340282366920938463463374607431768211456/\a=ofN x/\wv a=x:=by
 obtain ⟨h1,h2⟩:=e0t h;obtain ⟨x,hx⟩:=Int.eq_ofNat_of_zero_le h1;exact ⟨x,by omega,by rw[<-k1y h,hx,z0t],hx⟩
theorem t0r (x:Nat):wv (ofN x)=x:=by rw[<-z0t,t0s]
theorem h0b {x:Nat} (h:x<340282366920938463463374607431768211456):WdOk (ofN x):=by rw[<-z0t];exact x0y (by omega) (by omega)
theorem q0e (x:Nat):(decide ((ofN x).1=(0:Int))&&decide ((ofN x).2=(0:Int)))=decide (x=0):=by
 rw[<-Bool.decide_and];apply q2r.2;unfold ofN;simp only;omega
def od (x:Nat):Nat:=x / 2^tz 128 x
theorem n0j {x:Nat} (h0:0<x) (h1:x<340282366920938463463374607431768211456):tz 128 x<128/\x=2^tz 128 x*od x/\od x % 2=1 :=
 u0z 128 x h0 h1
theorem j2b {x:Nat} (h0:0<x) (h1:x<340282366920938463463374607431768211456):0<od x:=by
 have:=(n0j h0 h1).2.2;rcases Nat.eq_zero_or_pos (od x) with q | q
 ·rw[q] at this;cases this
 ·exact q
theorem od_le (x:Nat):od x<=x:=q3s _ _
theorem od_even {x:Nat} (h0:0<x) (h1:x<340282366920938463463374607431768211456) (he:x % 2=0):2*od x<=x:=by
 obtain ⟨_,a2,a3⟩:=n0j h0 h1;have ht:1<=tz 128 x:=by
  rcases Nat.eq_zero_or_pos (tz 128 x) with q | q
  ·rw[q] at a2;simp at a2;omega
  ·exact q
 have:2^1<=2^tz 128 x:=Nat.pow_le_pow_right (by decide) ht;have:=q3q (od x) this;omega
theorem k2j {a x:Nat} (ha:a % 2=1) (h0:0<x) (h1:x<340282366920938463463374607431768211456):Nat.gcd a (od x)=Nat.gcd a x:=by
 obtain ⟨_,a2,_⟩:=n0j h0 h1;have:=z1h (b:=od x) ha (tz 128 x);rw[<-a2] at this;exact this.symm
theorem k2h {x y:Nat} (hx:0<x) (hx':x<340282366920938463463374607431768211456) (hy:0<y) (hy':y<340282366920938463463374607431768211456) :
  Nat.gcd x y=Nat.gcd (od x) y*2^(min (tz 128 x) (tz 128 y)):=by
 obtain ⟨_,a2,a3⟩:=n0j hx hx';obtain ⟨_,b2,b3⟩:=n0j hy hy';rw[k2i a2 b2 a3 b3,k2j a3 hy hy',Nat.mul_comm]
theorem or_pow {q k:Nat} (h:2^(k+1) ∣ q):q ||| 2^k=q+2^k:=by
 obtain ⟨m,rfl⟩:=h;exact (Nat.two_pow_add_eq_or_of_lt (i:=k+1) (b:=2^k) (by rw[Nat.pow_succ];have:=Nat.two_pow_pos k;omega) m).symm
theorem div_part {a d k q:Nat} (hd:0<d) (h:d*2^k<=a):q+2^k+(a-d*2^k) / d=q+a / d:=by
 have e:a=(a-d*2^k)+d*2^k:=by omega
 have:a / d=(a-d*2^k) / d+2^k:=by
  conv=>lhs;rw[e]
  rw[Nat.add_mul_div_left _ _ hd]
 omega
theorem half_up {x k:Nat} (hk:k<64) (h:x*2^k<340282366920938463463374607431768211456) :
  x / 18446744073709551616*2^k+x % 18446744073709551616 / 2^(64-k)=x*2^k / 18446744073709551616/\x % 18446744073709551616 / 2^(64-k)<2^k /\
  x % 18446744073709551616*2^k % 18446744073709551616=x*2^k % 18446744073709551616:=by
 have e:18446744073709551616=2^(64-k)*2^k:=by rw[<-Nat.pow_add,show 64-k+k=64 by omega]
 have hp:=Nat.two_pow_pos k;have hq:=Nat.two_pow_pos (64-k);have h0:=Nat.div_add_mod x 18446744073709551616;have h1:=Nat.mod_lt x (show 0<18446744073709551616 by decide);generalize x / 18446744073709551616=H at *
 generalize x % 18446744073709551616=L at *
 subst h0;have e1:(18446744073709551616*H+L)*2^k=L*2^k+18446744073709551616*(H*2^k):=by rw[q3p,Nat.mul_assoc];omega
 have e2:L*2^k / 18446744073709551616=L / 2^(64-k):=by
  conv=>lhs;rw[e]
  exact Nat.mul_div_mul_right _ _ hp
 refine ⟨?_,?_,?_⟩
 ·rw[e1,Nat.add_mul_div_left _ _ (by decide),e2];omega
 ·exact Nat.div_lt_of_lt_mul (by rw[<-e];exact h1)
 ·rw[e1,Nat.add_mul_mod_self_left]
theorem k2g {x k:Nat} (hk:k<64) (h:x<340282366920938463463374607431768211456) :
  x / 18446744073709551616 / 2^k=x / 2^k / 18446744073709551616 /\
  x % 18446744073709551616 / 2^k+x / 18446744073709551616*2^(64-k) % 18446744073709551616=x / 2^k % 18446744073709551616/\x % 18446744073709551616 / 2^k<2^(64-k) /\
  ∃m,x / 18446744073709551616*2^(64-k) % 18446744073709551616=2^(64-k)*m:=by
 have e:18446744073709551616=2^k*2^(64-k):=by rw[<-Nat.pow_add,show k+(64-k)=64 by omega]
 have hp:=Nat.two_pow_pos k;have hq:=Nat.two_pow_pos (64-k);have c1:x / 18446744073709551616 / 2^k=x / 2^k / 18446744073709551616:=by rw[Nat.div_div_eq_div_mul,Nat.div_div_eq_div_mul,Nat.mul_comm]
 have h0:=Nat.div_add_mod x 18446744073709551616;have h1:=Nat.mod_lt x (show 0<18446744073709551616 by decide);have hm0:∀H:Nat,H*2^(64-k) % 18446744073709551616=2^(64-k)*(H % 2^k):=by
  intro H
  conv=>lhs;rw[e]
  rw[Nat.mul_mod_mul_right,Nat.mul_comm]
 have hm:=hm0 (x / 18446744073709551616);have c3:x % 18446744073709551616 / 2^k<2^(64-k):=Nat.div_lt_of_lt_mul (by rw[<-e];exact h1);refine ⟨c1,?_,c3,_,hm⟩;rw[hm];generalize x / 18446744073709551616=H at *
 generalize x % 18446744073709551616=L at *
 subst h0;have e1:(18446744073709551616*H+L) / 2^k=L / 2^k+2^(64-k)*H:=by
  conv=>lhs;rw[e]
  rw[Nat.mul_assoc,Nat.add_comm,Nat.add_mul_div_left _ _ hp]
 have h2:=Nat.div_add_mod H (2^k);have e2:2^(64-k)*H=18446744073709551616*(H / 2^k)+2^(64-k)*(H % 2^k):=by
  conv=>lhs;rw[<-h2]
  rw[Nat.mul_add,<-Nat.mul_assoc,Nat.mul_comm (2^(64-k)),<-e]
 rw[e1,e2];have hlt:L / 2^k+2^(64-k)*(H % 2^k)<18446744073709551616:=by
  have h3:=Nat.mod_lt H hp;have h4:2^(64-k)*(H % 2^k+1)<=2^(64-k)*2^k:=Nat.mul_le_mul_left _ h3;rw[Nat.mul_comm (2^(64-k)) (2^k),<-e,Nat.mul_add,Nat.mul_one] at h4;omega
 omega
end Go.Plim

namespace Go.Plim
set_option linter.unusedVariables false
theorem l2f:∀(k a b:Nat),a+b+1=2^k->a &&& b=0:=by
 intro k;induction k with
 | zero => intro a b h; have : a = 0 := by simp at h; omega
           rw[this];simp
 | succ k ih =>
  intro a b h;rw[Nat.pow_succ] at h;have h1:(a &&& b) % 2≠1:=by rw[ne_eq,Nat.and_mod_two_eq_one];omega
  have h2:(a &&& b) / 2=0:=by rw[Nat.and_div_two];exact ih _ _ (by omega)
  omega
theorem low_bit {x:Nat} (h0:0<x) (h:x<18446744073709551616):x &&& (18446744073709551616-x)=2^tz 64 x:=by
 obtain ⟨a1,a2,a3⟩:=u0z 64 x h0 h;generalize hs:tz 64 x=s at *
 generalize x / 2^s=o at *
 have e:18446744073709551616=2^s*2^(64-s):=by rw[<-Nat.pow_add,show s+(64-s)=64 by omega]
 have hp:=Nat.two_pow_pos s;have e1:18446744073709551616-x=2^s*(2^(64-s)-o):=by rw[Nat.mul_sub,<-e,<-a2]
 have ho:o<2^(64-s):=by
  rcases Nat.lt_or_ge o (2^(64-s)) with q | q
  ·exact q
  ·have:=Nat.mul_le_mul_left (2^s) q;rw[<-e,<-a2] at this;omega
 obtain ⟨c,hc⟩:∃c,2^(64-s)=2*2^c:=⟨63-s,by rw[show 64-s=(63-s)+1 by omega,Nat.pow_succ,Nat.mul_comm]⟩;have e2:o &&& (2^(64-s)-o)=1:=by
  have h1:(o &&& (2^(64-s)-o)) % 2=1:=by rw[Nat.and_mod_two_eq_one];omega
  have h2:(o &&& (2^(64-s)-o)) / 2=0:=by rw[Nat.and_div_two];exact l2f c _ _ (by omega)
  omega
 rw[e1]
 conv=>lhs;rw[a2]
 rw[Nat.mul_comm (2^s) o,Nat.mul_comm (2^s),<-Nat.shiftLeft_eq,<-Nat.shiftLeft_eq,<-Nat.shiftLeft_and_distrib,e2,Nat.shiftLeft_eq,Nat.one_mul]
theorem tz_lo {x:Nat} (h:x<340282366920938463463374607431768211456) (h0:0<x % 18446744073709551616):tz 128 x=tz 64 (x % 18446744073709551616):=by
 obtain ⟨a1,a2,a3⟩:=u0z 64 _ h0 (Nat.mod_lt x (by decide));generalize tz 64 (x % 18446744073709551616)=s at *
 have e:18446744073709551616=2^s*(2*2^(63-s)):=by rw[<-Nat.pow_succ',<-Nat.pow_add,show s+(63-s).succ=64 by omega]
 have hp:=Nat.two_pow_pos s;have h2:=Nat.div_add_mod x 18446744073709551616;generalize x % 18446744073709551616=L at *
 generalize x / 18446744073709551616=H at *
 generalize L / 2^s=o at *
 have e1:x=2^s*(2*(2^(63-s)*H)+o):=by
  rw[Nat.mul_add,<-a2,<-Nat.mul_assoc 2,<-Nat.mul_assoc (2^s),<-e];omega
 refine c1w (by omega) h ?_ ?_
 ·rw[e1,Nat.mul_mod_right]
 ·rw[e1,Nat.mul_div_cancel_left _ hp];omega
theorem tz_hi {x:Nat} (h:x<340282366920938463463374607431768211456) (h0:x % 18446744073709551616=0) (hx:0<x):tz 128 x=64+tz 64 (x / 18446744073709551616):=by
 have hH:0<x / 18446744073709551616:=by omega
 obtain ⟨a1,a2,a3⟩:=u0z 64 _ hH (by omega);generalize tz 64 (x / 18446744073709551616)=s at *
 have h2:=Nat.div_add_mod x 18446744073709551616;generalize x / 18446744073709551616=H at *
 generalize H / 2^s=o at *
 have hp:=Nat.two_pow_pos (64+s);have e1:x=2^(64+s)*o:=by
  rw[Nat.pow_add,Nat.mul_assoc,<-a2];omega
 refine c1w hx h ?_ ?_
 ·rw[e1,Nat.mul_mod_right]
 ·rw[e1,Nat.mul_div_cancel_left _ hp];exact a3
theorem c2d {k x s:Nat} (h:x<2^k) (hs:2^s<=x):bl k x=s+bl k (x / 2^s):=by
 have hp:=Nat.two_pow_pos s;have h0:0<x / 2^s:=Nat.div_pos hs hp;have h1:x / 2^s<2^k:=q3n (q3s _ _) h;obtain ⟨a1,a2,a3⟩:=i0x k (x / 2^s) h1;obtain ⟨b1,b2⟩:=a2 h0;obtain ⟨c,hc⟩:∃c,bl k (x / 2^s)=c+1:=⟨bl k (x / 2^s)-1,by omega⟩;rw[hc] at a1 b2 ⊢;rw[Nat.add_sub_cancel] at b2;rw[<-q3k];refine v1o h (by omega) ?_ ?_
 ·rw[Nat.pow_add,Nat.mul_comm];exact (Nat.le_div_iff_mul_le hp).1 b2
 ·rw[q3k,Nat.pow_add,Nat.mul_comm];exact (Nat.div_lt_iff_lt_mul hp).1 a1
theorem c2c {k m x:Nat} (h:x<2^k) (h':x<2^m):bl k x=bl m x:=by
 rcases Nat.eq_zero_or_pos x with q | q
 ·subst q;rw[a1h,a1h]
 ·obtain ⟨a1,a2,_⟩:=i0x m x h';obtain ⟨b1,b2⟩:=a2 q;obtain ⟨c,hc⟩:∃c,bl m x=c+1:=⟨bl m x-1,by omega⟩;rw[hc] at a1 b2 ⊢;rw[Nat.add_sub_cancel] at b2;exact v1o h q b2 a1
theorem bl_up {a d k:Nat} (ha:a<2^128) (hd:d<2^128) (hk:bl 128 d+k<=bl 128 a) (h0:0<a):d*2^k<2^128:=by
 obtain ⟨a1,a2,a3⟩:=i0x 128 a ha;obtain ⟨d1,d2,d3⟩:=i0x 128 d hd;have h1:d*2^k<2^bl 128 d*2^k:=Nat.mul_lt_mul_of_pos_right d1 (Nat.two_pow_pos k);rw[<-Nat.pow_add] at h1;exact q3m h1 (Nat.pow_le_pow_right (by decide) (by omega))
theorem bl_over {a d:Nat} (ha:a<2^128) (hd:d<2^128) (h0:0<d):a<d*2^(bl 128 a-bl 128 d+1):=by
 obtain ⟨a1,a2,a3⟩:=i0x 128 a ha;obtain ⟨d1,d2,d3⟩:=i0x 128 d hd;obtain ⟨b1,b2⟩:=d2 h0;have h1:2^(bl 128 d-1)*2^(bl 128 a-bl 128 d+1)<=d*2^(bl 128 a-bl 128 d+1):=q3q _ b2;rw[<-Nat.pow_add] at h1;have h2:2^bl 128 a<=2^(bl 128 d-1+(bl 128 a-bl 128 d+1)):=Nat.pow_le_pow_right (by decide) (by omega);omega
theorem bl_less {a d:Nat} (ha:a<2^128) (hd:d<2^128) (h:bl 128 a<bl 128 d):a<d:=by
 obtain ⟨a1,a2,a3⟩:=i0x 128 a ha;obtain ⟨d1,d2,d3⟩:=i0x 128 d hd;rcases Nat.eq_zero_or_pos d with q | q
 ·subst q;rw[a1h] at h;omega
 ·obtain ⟨b1,b2⟩:=d2 q;have:2^bl 128 a<=2^(bl 128 d-1):=Nat.pow_le_pow_right (by decide) (by omega);omega
def byt (v j:Nat):Nat:=v / 256^j % 256
theorem byt_or {v i:Nat} (h:2^(i+1) ∣ v) (j:Nat):byt (v+2^i) j=if i / 8=j then byt v j ||| 2^(i % 8) else byt v j:=by
 unfold byt;have e:(256:Nat)^j=2^(8*j):=by rw[Nat.pow_mul]
 rw[<-or_pow h,e,Nat.or_div_two_pow,show (256:Nat)=2^8 from rfl,Nat.or_mod_two_pow];have e2:2^i / 2^(8*j) % 2^8=if i / 8=j then 2^(i % 8) else 0:=by
  rcases Nat.lt_or_ge i (8*j) with q | q
  ·rw[Nat.div_eq_of_lt (Nat.pow_lt_pow_right (by decide) q),q0n (by omega)]
  ·rw[Nat.pow_div q (by decide)];split
   ·rw[show i-8*j=i % 8 by omega];exact Nat.mod_eq_of_lt (Nat.pow_lt_pow_right (by decide) (Nat.mod_lt _ (by decide)))
   ·obtain ⟨c,hc⟩:∃c,i-8*j=8+c:=⟨i-8*j-8,by omega⟩;rw[hc,Nat.pow_add,Nat.mul_mod_right]
 rw[e2];split
 ·rfl
 ·rw[Nat.or_zero]
theorem l1l (v j:Nat):byt v j<256:=Nat.mod_lt _ (by decide)
theorem bit_byt (v i:Nat):byt v (i / 8) / 2^(i % 8) % 2=v / 2^i % 2:=by
 unfold byt;have e:(256:Nat)^(i / 8)=2^(8*(i / 8)):=by rw[Nat.pow_mul]
 obtain ⟨c,hc⟩:∃c,(256:Nat)=2^(i % 8)*(2*2^c):=⟨7-i % 8,by rw[<-Nat.pow_succ',<-Nat.pow_add,show i % 8+(7-i % 8).succ=8 by have:=Nat.mod_lt i (show 0<8 by decide);omega]⟩;rw[e];generalize hw:v / 2^(8*(i / 8))=w;have e1:v / 2^i=w / 2^(i % 8):=by
  rw[<-hw,Nat.div_div_eq_div_mul,<-Nat.pow_add,show 8*(i / 8)+i % 8=i by omega]
 rw[e1]
 conv=>lhs;rw[hc]
 rw[Nat.mod_mul_right_div_self,Nat.mod_mul_right_mod]
end Go.Plim

namespace Go.Proofs.YteopnkdnglpbfaaGreatDoor
open Go.Flat Go.Plim
set_option linter.unusedVariables false
set_option linter.unusedSimpArgs false
theorem n0e (x:Int) (k:Nat) (hk:k<=64):shrI .u64 x (k:Int)=x / 2^k:=by
 unfold shrI;rw[show min (k:Int).toNat IntKind.u64.bits=k from by show min (k:Int).toNat 64=k;omega];exact Int.fdiv_eq_ediv_of_nonneg _ (Int.le_of_lt (Int.pow_pos (by decide)))
theorem c2f (x:Int) (k:Nat) (hk:k<=63) (h:0<=x) (h':x<=18446744073709551615):andI .u64 x ((2^k-1:Nat):Int)=x % ((2^k:Nat):Int):=by
 obtain ⟨a,rfl⟩:=Int.eq_ofNat_of_zero_le h;have hp:2^k<=2^63:=Nat.pow_le_pow_right (by decide) hk;have h63:(2:Nat)^63=9223372036854775808:=by decide
 unfold andI;have e:(BitVec.ofInt IntKind.u64.bits (a:Int) &&& BitVec.ofInt IntKind.u64.bits ((2^k-1:Nat):Int)).toNat=a % 2^k:=by
  show (BitVec.ofInt 64 (a:Int) &&& BitVec.ofInt 64 ((2^k-1:Nat):Int)).toNat=_;rw[BitVec.toNat_and,BitVec.ofInt_natCast,BitVec.ofInt_natCast,BitVec.toNat_ofNat,BitVec.toNat_ofNat,Nat.mod_eq_of_lt (a:=a) (by omega),Nat.mod_eq_of_lt (a:=2^k-1) (by omega),Nat.and_two_pow_sub_one_eq_mod]
 rw[e];have:a % 2^k<2^k:=Nat.mod_lt _ (Nat.pow_pos (by decide));rw[wu64 (by omega) (by omega)];simp
theorem k0b (a x:Int) (k:Nat) (hk:k<=56) (ha:0<=a) (ha':a<((2^k:Nat):Int)) (hx:0<=x) (hx':x<=255) :
  orI .u64 a (shlI .u64 (wrap .u64 x) (k:Int))=a+x*((2^k:Nat):Int):=by
 obtain ⟨a,rfl⟩:=Int.eq_ofNat_of_zero_le ha;obtain ⟨c,rfl⟩:=Int.eq_ofNat_of_zero_le hx;have hp:2^k<=2^56:=Nat.pow_le_pow_right (by decide) hk;have h56:(2:Nat)^56=72057594037927936:=by decide
 have hc:c*2^k<=255*2^k:=q3q _ (by omega);have e1:shlI .u64 (wrap .u64 (c:Int)) (k:Int)=((c*2^k:Nat):Int):=by
  rw[wu64 (by omega) (by omega)];show wrap .u64 ((c:Int)*2^(min (k:Int).toNat 64))=_;rw[show min (k:Int).toNat 64=k by omega];have:(c:Int)*2^k=((c*2^k:Nat):Int):=by simp
  rw[this,wu64 (by omega) (by omega)]
 rw[e1];unfold orI;have e2:(BitVec.ofInt IntKind.u64.bits (a:Int) ||| BitVec.ofInt IntKind.u64.bits ((c*2^k:Nat):Int)).toNat=c*2^k+a:=by
  show (BitVec.ofInt 64 (a:Int) ||| BitVec.ofInt 64 ((c*2^k:Nat):Int)).toNat=_;rw[BitVec.toNat_or,BitVec.ofInt_natCast,BitVec.ofInt_natCast,BitVec.toNat_ofNat,BitVec.toNat_ofNat,Nat.mod_eq_of_lt (by omega),Nat.mod_eq_of_lt (by omega)];have:=Nat.two_pow_add_eq_or_of_lt (i:=k) (b:=a) (by omega) c;rw[Nat.mul_comm c (2^k),this,Nat.or_comm]
 rw[e2,wu64 (by omega) (by omega)];simp[Int.add_comm]
theorem or_zero (a b:Int) (ha:0<=a/\a<=18446744073709551615) (hb:0<=b/\b<=18446744073709551615):orI .u64 a b=0↔a=0/\b=0:=by
 obtain ⟨a,rfl⟩:=Int.eq_ofNat_of_zero_le ha.1;obtain ⟨b,rfl⟩:=Int.eq_ofNat_of_zero_le hb.1;unfold orI;have e2:(BitVec.ofInt IntKind.u64.bits (a:Int) ||| BitVec.ofInt IntKind.u64.bits (b:Int)).toNat=a ||| b:=by
  show (BitVec.ofInt 64 (a:Int) ||| BitVec.ofInt 64 (b:Int)).toNat=_;rw[BitVec.toNat_or,BitVec.ofInt_natCast,BitVec.ofInt_natCast,BitVec.toNat_ofNat,BitVec.toNat_ofNat,Nat.mod_eq_of_lt (by omega),Nat.mod_eq_of_lt (by omega)]
 rw[e2];have:a ||| b<2^64:=Nat.or_lt_two_pow (by omega) (by omega)
 rw[wu64 (by omega) (by omega)];have h3:a ||| b=0↔a=0/\b=0:=Nat.or_eq_zero_iff
 omega
theorem y0q (n:Nat) (x:Int):q0u (n+1) x=some (0,x):=c2n n x
theorem k0e (n:Nat) (a:Wd) (o:Int):q0t (n+1) a o=some (if o=0 then (a,0) else ((0,0),1)):=by
 rw[q1l];by_cases h:o=0<;>simp[h]
theorem wide_add (n:Nat) {a b:Wd} (ha:WdOk a) (hb:WdOk b):l1u (n+2) a b=some (addW a b):=by
 obtain ⟨h1,h2⟩:=ha;obtain ⟨h3,h4⟩:=hb;obtain ⟨ah,al⟩:=a;obtain ⟨bh,bl⟩:=b;simp only at h1 h2 h3 h4;rw[v1u];simp only[c1z,tfd,q0z h2.1,q0z h4.1,q0z h1.1,q0z h3.1,tft,q0z (show (0:Int)<=(al+bl+0) / 18446744073709551616 by omega),q0z (show (al+bl+0) / 18446744073709551616<=(1:Int) by omega),k0e,obs];unfold addW;have ea:wv (ah,al)=ah*18446744073709551616+al:=rfl;have eb:wv (bh,bl)=bh*18446744073709551616+bl:=rfl;generalize wv (ah,al)=va at *
 generalize wv (bh,bl)=vb at *
 by_cases hc:va+vb<340282366920938463463374607431768211456
 ·rw[q0z hc,q0z (by omega)];simp only[mkW];congr 2;exact Prod.ext (by simp only;omega) (by simp only;omega)
 ·rw[q0n hc,q0n (by omega)]
theorem q1m (n:Nat) {a b:Wd} (ha:WdOk a) (hb:WdOk b):j0f (n+1) a b=some (decide (wv a<wv b)):=by
 obtain ⟨h1,h2⟩:=ha;obtain ⟨h3,h4⟩:=hb;obtain ⟨ah,al⟩:=a;obtain ⟨bh,bl⟩:=b;simp only at h1 h2 h3 h4;rw[q1o];have ea:wv (ah,al)=ah*18446744073709551616+al:=rfl;have eb:wv (bh,bl)=bh*18446744073709551616+bl:=rfl;generalize wv (ah,al)=va at *
 generalize wv (bh,bl)=vb at *
 simp only[tfd];by_cases c1:ah<bh
 ·rw[q0z c1,q2a (by omega)]
 ·rw[q0n c1];by_cases c2:ah=bh
  ·rw[q0z c2];congr 1;exact q2r.2 (by omega)
  ·rw[q0n c2,q1z (by omega)]
theorem mul64 (n:Nat) (x y:Int) (hx:0<=x/\x<=18446744073709551615) (hy:0<=y/\y<=18446744073709551615):i0a (n+1) x y=some (x*y / 18446744073709551616,x*y % 18446744073709551616):=by
 rw[x0z];have sh:∀z:Int,shrI .u64 z (32:Int)=z / 4294967296:=fun z=>n0e z 32 (by decide)
 have an:∀z:Int,0<=z->z<=18446744073709551615->andI .u64 z (4294967295:Int)=z % 4294967296:=fun z h h'=>c2f z 32 (by decide) h h'
 rw[an x hx.1 hx.2,an y hy.1 hy.2];simp only[sh];have b1:0<=x / 4294967296/\x / 4294967296<=4294967295:=by omega
 have b2:0<=y / 4294967296/\y / 4294967296<=4294967295:=by omega
 have b3:0<=x % 4294967296/\x % 4294967296<=4294967295:=by omega
 have b4:0<=y % 4294967296/\y % 4294967296<=4294967295:=by omega
 have ex:x=x / 4294967296*4294967296+x % 4294967296:=by omega
 have ey:y=y / 4294967296*4294967296+y % 4294967296:=by omega
 generalize hx1:x / 4294967296=x1 at *
 generalize hx0:x % 4294967296=x0 at *
 generalize hy1:y / 4294967296=y1 at *
 generalize hy0:y % 4294967296=y0 at *
 have bound:∀ {u v:Int},0<=u/\u<=4294967295->0<=v/\v<=4294967295->0<=u*v/\u*v<=18446744065119617025:=fun {u v} hu hv =>
  ⟨Int.mul_nonneg hu.1 hv.1,Int.le_trans (Int.mul_le_mul hu.2 hv.2 hv.1 (by decide)) (by decide)⟩
 have p11:=bound b1 b2;have p10:=bound b1 b4;have p01:=bound b3 b2;have p00:=bound b3 b4;have exy:x*y=x1*y1*18446744073709551616+(x1*y0+x0*y1)*4294967296+x0*y0:=by
  rw[ex,ey];simp only[Int.add_mul,Int.mul_add];have q1:x1*4294967296*(y1*4294967296)=x1*y1*18446744073709551616:=by
   rw[Int.mul_assoc,Int.mul_left_comm 4294967296 y1,<-Int.mul_assoc];rfl
  have q2:x0*(y1*4294967296)=x0*y1*4294967296:=by rw[Int.mul_assoc]
  have q3:x1*4294967296*y0=x1*y0*4294967296:=by rw[Int.mul_assoc,Int.mul_comm 4294967296 y0,<-Int.mul_assoc]
  rw[q1,q2,q3];omega
 rw[exy];generalize x1*y1=a11 at *
 generalize x1*y0=a10 at *
 generalize x0*y1=a01 at *
 generalize x0*y0=a00 at *
 rw[wu64 (x:=a00) (by omega) (by omega),wu64 (x:=a11) (by omega) (by omega),wu64 (x:=a10) (by omega) (by omega),wu64 (x:=a01) (by omega) (by omega)];rw[wu64 (x:=a10+a00 / 4294967296) (by omega) (by omega),an _ (by omega) (by omega)];rw[wu64 (x:=a11+(a10+a00 / 4294967296) / 4294967296) (by omega) (by omega),wu64 (x:=(a10+a00 / 4294967296) % 4294967296+a01) (by omega) (by omega),wu64 (by omega) (by omega)];have wm:∀z:Int,wrap .u64 z=z % 18446744073709551616:=fun z=>IntKind.wrap_u64 z
 rw[wm];congr 2;omega
def t0v (a:Wd) (k:Int):Wd×Int:=if wv a*k<340282366920938463463374607431768211456 then (mkW (wv a*k),0) else ((0,0),1)
theorem s0s (n:Nat) {a:Wd} (ha:WdOk a) (k:Int) (hk:0<=k/\k<=18446744073709551615):k0q (n+2) a k=some (t0v a k):=by
 obtain ⟨h1,h2⟩:=ha;obtain ⟨ah,al⟩:=a;simp only at h1 h2;rw[l1r,mul64 n al k h2 hk,mul64 n ah k h1 hk];simp only[obs];have bd:∀ {u:Int},0<=u/\u<=18446744073709551615->0<=u*k/\u*k<=340282366920938463426481119284349108225:=fun {u} hu =>
  ⟨Int.mul_nonneg hu.1 hk.1,Int.le_trans (Int.mul_le_mul hu.2 hk.2 hk.1 (by decide)) (by decide)⟩
 have b1:=bd h1;have b2:=bd h2;unfold t0v;have e:wv (ah,al)*k=ah*k*18446744073709551616+al*k:=by
  simp only[wv];rw[Int.add_mul,Int.mul_assoc,Int.mul_comm 18446744073709551616 k,<-Int.mul_assoc]
 rw[e];generalize ah*k=p at *
 generalize al*k=q at *
 simp only[c1z,tfd,tft,q0z (show (0:Int)<=p % 18446744073709551616 by omega),q0z (show (0:Int)<=q / 18446744073709551616 by omega),k0e,obs];have ho:=or_zero (p / 18446744073709551616) ((p % 18446744073709551616+q / 18446744073709551616+0) / 18446744073709551616) (by omega) (by omega);by_cases hc:p*18446744073709551616+q<340282366920938463463374607431768211456
 ·rw[q0z hc,q0z (ho.2 (by omega))];simp only[mkW];congr 2;exact Prod.ext (by simp only;omega) (by simp only;omega)
 ·rw[q0n hc,q0n (fun h=>by have:=ho.1 h;omega)]
abbrev B16:=(Int×(Int×(Int×(Int×(Int×(Int×(Int×(Int×(Int×(Int×(Int×(Int×(Int×(Int×(Int×Int)))))))))))))))
def Byt (x:Int):Prop:=0<=x/\x<=255
theorem bytes8 (v:Int) (h:0<=v/\v<=18446744073709551615):∃x0 x1 x2 x3 x4 x5 x6 x7:Int,(Byt x0/\Byt x1/\Byt x2/\Byt x3/\Byt x4/\Byt x5/\Byt x6/\Byt x7)/\v=x0+x1*256+x2*65536+x3*16777216+x4*4294967296+x5*1099511627776+x6*281474976710656+x7*72057594037927936 /\
  v % 256=x0/\v / 256 % 256=x1/\v / 65536 % 256=x2/\v / 16777216 % 256=x3/\v / 4294967296 % 256=x4/\v / 1099511627776 % 256=x5/\v / 281474976710656 % 256=x6/\v / 72057594037927936 % 256=x7:=by
 refine ⟨v % 256,v / 256 % 256,v / 65536 % 256,v / 16777216 % 256,v / 4294967296 % 256,v / 1099511627776 % 256,v / 281474976710656 % 256,v / 72057594037927936 % 256,?_,?_,rfl,rfl,rfl,rfl,rfl,rfl,rfl,rfl⟩
 ·simp only[Byt];omega
 ·have e2:v / 65536=v / 256 / 256:=by omega
  have e3:v / 16777216=v / 65536 / 256:=by omega
  have e4:v / 4294967296=v / 16777216 / 256:=by omega
  have e5:v / 1099511627776=v / 4294967296 / 256:=by omega
  have e6:v / 281474976710656=v / 1099511627776 / 256:=by omega
  have e7:v / 72057594037927936=v / 281474976710656 / 256:=by omega
  have e8:v / 72057594037927936 / 256=0:=by omega
  omega
theorem o0g (n:Nat) {a:Wd} (ha:WdOk a):∃x0 x1 x2 x3 x4 x5 x6 x7 x8 x9 x10 x11 x12 x13 x14 x15:Int,f0e (n+1) a=some (x0,x1,x2,x3,x4,x5,x6,x7,x8,x9,x10,x11,x12,x13,x14,x15)/\(Byt x0/\Byt x1/\Byt x2/\Byt x3/\Byt x4/\Byt x5/\Byt x6/\Byt x7/\Byt x8/\Byt x9/\Byt x10/\Byt x11/\Byt x12/\Byt x13/\Byt x14/\Byt x15)/\a.2=x0+x1*256+x2*65536+x3*16777216+x4*4294967296+x5*1099511627776+x6*281474976710656+x7*72057594037927936/\a.1=x8+x9*256+x10*65536+x11*16777216+x12*4294967296+x13*1099511627776+x14*281474976710656+x15*72057594037927936:=by
 obtain ⟨x0,x1,x2,x3,x4,x5,x6,x7,⟨b0,b1,b2,b3,b4,b5,b6,b7⟩,hv,e0,e1,e2,e3,e4,e5,e6,e7⟩:=bytes8 a.2 ha.lo;obtain ⟨x8,x9,x10,x11,x12,x13,x14,x15,⟨b8,b9,b10,b11,b12,b13,b14,b15⟩,hv',e8,e9,e10,e11,e12,e13,e14,e15⟩:=bytes8 a.1 ha.hi;refine ⟨x0,x1,x2,x3,x4,x5,x6,x7,x8,x9,x10,x11,x12,x13,x14,x15,?_,⟨b0,b1,b2,b3,b4,b5,b6,b7,b8,b9,b10,b11,b12,b13,b14,b15⟩,hv,hv'⟩;have an:∀z:Int,0<=z->z<=18446744073709551615->andI .u64 z (255:Int)=z % 256:=fun z h h'=>c2f z 8 (by decide) h h'
 have s0:∀z:Int,shrI .u64 z (0:Int)=z / 1:=fun z=>n0e z 0 (by decide)
 have s1:∀z:Int,shrI .u64 z (8:Int)=z / 256:=fun z=>n0e z 8 (by decide)
 have s2:∀z:Int,shrI .u64 z (16:Int)=z / 65536:=fun z=>n0e z 16 (by decide)
 have s3:∀z:Int,shrI .u64 z (24:Int)=z / 16777216:=fun z=>n0e z 24 (by decide)
 have s4:∀z:Int,shrI .u64 z (32:Int)=z / 4294967296:=fun z=>n0e z 32 (by decide)
 have s5:∀z:Int,shrI .u64 z (40:Int)=z / 1099511627776:=fun z=>n0e z 40 (by decide)
 have s6:∀z:Int,shrI .u64 z (48:Int)=z / 281474976710656:=fun z=>n0e z 48 (by decide)
 have s7:∀z:Int,shrI .u64 z (56:Int)=z / 72057594037927936:=fun z=>n0e z 56 (by decide)
 have h1:=ha.lo;have h2:=ha.hi;rw[t1g];simp only[s0,s1,s2,s3,s4,s5,s6,s7,Int.ediv_one];rw[an (a.2) (by omega) (by omega),e0,w64 (x:=x0) (by have:=b0.1;omega) (by have:=b0.2;omega)];rw[an (a.2 / 256) (by omega) (by omega),e1,w64 (x:=x1) (by have:=b1.1;omega) (by have:=b1.2;omega)];rw[an (a.2 / 65536) (by omega) (by omega),e2,w64 (x:=x2) (by have:=b2.1;omega) (by have:=b2.2;omega)];rw[an (a.2 / 16777216) (by omega) (by omega),e3,w64 (x:=x3) (by have:=b3.1;omega) (by have:=b3.2;omega)]
 rw[an (a.2 / 4294967296) (by omega) (by omega),e4,w64 (x:=x4) (by have:=b4.1;omega) (by have:=b4.2;omega)];rw[an (a.2 / 1099511627776) (by omega) (by omega),e5,w64 (x:=x5) (by have:=b5.1;omega) (by have:=b5.2;omega)];rw[an (a.2 / 281474976710656) (by omega) (by omega),e6,w64 (x:=x6) (by have:=b6.1;omega) (by have:=b6.2;omega)];rw[an (a.2 / 72057594037927936) (by omega) (by omega),e7,w64 (x:=x7) (by have:=b7.1;omega) (by have:=b7.2;omega)];rw[an (a.1) (by omega) (by omega),e8,w64 (x:=x8) (by have:=b8.1;omega) (by have:=b8.2;omega)]
 rw[an (a.1 / 256) (by omega) (by omega),e9,w64 (x:=x9) (by have:=b9.1;omega) (by have:=b9.2;omega)];rw[an (a.1 / 65536) (by omega) (by omega),e10,w64 (x:=x10) (by have:=b10.1;omega) (by have:=b10.2;omega)];rw[an (a.1 / 16777216) (by omega) (by omega),e11,w64 (x:=x11) (by have:=b11.1;omega) (by have:=b11.2;omega)];rw[an (a.1 / 4294967296) (by omega) (by omega),e12,w64 (x:=x12) (by have:=b12.1;omega) (by have:=b12.2;omega)];rw[an (a.1 / 1099511627776) (by omega) (by omega),e13,w64 (x:=x13) (by have:=b13.1;omega) (by have:=b13.2;omega)]
 rw[an (a.1 / 281474976710656) (by omega) (by omega),e14,w64 (x:=x14) (by have:=b14.1;omega) (by have:=b14.2;omega)];rw[an (a.1 / 72057594037927936) (by omega) (by omega),e15,w64 (x:=x15) (by have:=b15.1;omega) (by have:=b15.2;omega)]
theorem r01_of (n:Nat) {x0 x1 x2 x3 x4 x5 x6 x7 x8 x9 x10 x11 x12 x13 x14 x15:Int} (b0:Byt x0) (b1:Byt x1) (b2:Byt x2) (b3:Byt x3) (b4:Byt x4) (b5:Byt x5) (b6:Byt x6) (b7:Byt x7) (b8:Byt x8) (b9:Byt x9) (b10:Byt x10) (b11:Byt x11) (b12:Byt x12) (b13:Byt x13) (b14:Byt x14) (b15:Byt x15):a1x (n+1) (x0,x1,x2,x3,x4,x5,x6,x7,x8,x9,x10,x11,x12,x13,x14,x15)=some (x8+x9*256+x10*65536+x11*16777216+x12*4294967296+x13*1099511627776+x14*281474976710656+x15*72057594037927936,x0+x1*256+x2*65536+x3*16777216+x4*4294967296+x5*1099511627776+x6*281474976710656+x7*72057594037927936):=by
 rw[i2k];simp only[Byt] at *
 have q0:orI .u64 (0:Int) (shlI .u64 (wrap .u64 x0) (0:Int))=(0:Int)+x0*1:=k0b _ _ 0 (by decide) (by omega) (by show _<(1:Int);omega) b0.1 b0.2;have q1:orI .u64 ((0:Int)+x0*1) (shlI .u64 (wrap .u64 x1) (8:Int))=(0:Int)+x0*1+x1*256:=k0b _ _ 8 (by decide) (by omega) (by show _<(256:Int);omega) b1.1 b1.2;have q2:orI .u64 ((0:Int)+x0*1+x1*256) (shlI .u64 (wrap .u64 x2) (16:Int))=(0:Int)+x0*1+x1*256+x2*65536:=k0b _ _ 16 (by decide) (by omega) (by show _<(65536:Int);omega) b2.1 b2.2
 have q3:orI .u64 ((0:Int)+x0*1+x1*256+x2*65536) (shlI .u64 (wrap .u64 x3) (24:Int))=(0:Int)+x0*1+x1*256+x2*65536+x3*16777216:=k0b _ _ 24 (by decide) (by omega) (by show _<(16777216:Int);omega) b3.1 b3.2;have q4:orI .u64 ((0:Int)+x0*1+x1*256+x2*65536+x3*16777216) (shlI .u64 (wrap .u64 x4) (32:Int))=(0:Int)+x0*1+x1*256+x2*65536+x3*16777216+x4*4294967296:=k0b _ _ 32 (by decide) (by omega) (by show _<(4294967296:Int);omega) b4.1 b4.2
 have q5:orI .u64 ((0:Int)+x0*1+x1*256+x2*65536+x3*16777216+x4*4294967296) (shlI .u64 (wrap .u64 x5) (40:Int))=(0:Int)+x0*1+x1*256+x2*65536+x3*16777216+x4*4294967296+x5*1099511627776:=k0b _ _ 40 (by decide) (by omega) (by show _<(1099511627776:Int);omega) b5.1 b5.2;have q6:orI .u64 ((0:Int)+x0*1+x1*256+x2*65536+x3*16777216+x4*4294967296+x5*1099511627776) (shlI .u64 (wrap .u64 x6) (48:Int))=(0:Int)+x0*1+x1*256+x2*65536+x3*16777216+x4*4294967296+x5*1099511627776+x6*281474976710656:=k0b _ _ 48 (by decide) (by omega) (by show _<(281474976710656:Int);omega) b6.1 b6.2
 have q7:orI .u64 ((0:Int)+x0*1+x1*256+x2*65536+x3*16777216+x4*4294967296+x5*1099511627776+x6*281474976710656) (shlI .u64 (wrap .u64 x7) (56:Int))=(0:Int)+x0*1+x1*256+x2*65536+x3*16777216+x4*4294967296+x5*1099511627776+x6*281474976710656+x7*72057594037927936:=k0b _ _ 56 (by decide) (by omega) (by show _<(72057594037927936:Int);omega) b7.1 b7.2;have q8:orI .u64 (0:Int) (shlI .u64 (wrap .u64 x8) (0:Int))=(0:Int)+x8*1:=k0b _ _ 0 (by decide) (by omega) (by show _<(1:Int);omega) b8.1 b8.2
 have q9:orI .u64 ((0:Int)+x8*1) (shlI .u64 (wrap .u64 x9) (8:Int))=(0:Int)+x8*1+x9*256:=k0b _ _ 8 (by decide) (by omega) (by show _<(256:Int);omega) b9.1 b9.2;have q10:orI .u64 ((0:Int)+x8*1+x9*256) (shlI .u64 (wrap .u64 x10) (16:Int))=(0:Int)+x8*1+x9*256+x10*65536:=k0b _ _ 16 (by decide) (by omega) (by show _<(65536:Int);omega) b10.1 b10.2;have q11:orI .u64 ((0:Int)+x8*1+x9*256+x10*65536) (shlI .u64 (wrap .u64 x11) (24:Int))=(0:Int)+x8*1+x9*256+x10*65536+x11*16777216:=k0b _ _ 24 (by decide) (by omega) (by show _<(16777216:Int);omega) b11.1 b11.2
 have q12:orI .u64 ((0:Int)+x8*1+x9*256+x10*65536+x11*16777216) (shlI .u64 (wrap .u64 x12) (32:Int))=(0:Int)+x8*1+x9*256+x10*65536+x11*16777216+x12*4294967296:=k0b _ _ 32 (by decide) (by omega) (by show _<(4294967296:Int);omega) b12.1 b12.2;have q13:orI .u64 ((0:Int)+x8*1+x9*256+x10*65536+x11*16777216+x12*4294967296) (shlI .u64 (wrap .u64 x13) (40:Int))=(0:Int)+x8*1+x9*256+x10*65536+x11*16777216+x12*4294967296+x13*1099511627776:=k0b _ _ 40 (by decide) (by omega) (by show _<(1099511627776:Int);omega) b13.1 b13.2
 have q14:orI .u64 ((0:Int)+x8*1+x9*256+x10*65536+x11*16777216+x12*4294967296+x13*1099511627776) (shlI .u64 (wrap .u64 x14) (48:Int))=(0:Int)+x8*1+x9*256+x10*65536+x11*16777216+x12*4294967296+x13*1099511627776+x14*281474976710656:=k0b _ _ 48 (by decide) (by omega) (by show _<(281474976710656:Int);omega) b14.1 b14.2
 have q15:orI .u64 ((0:Int)+x8*1+x9*256+x10*65536+x11*16777216+x12*4294967296+x13*1099511627776+x14*281474976710656) (shlI .u64 (wrap .u64 x15) (56:Int))=(0:Int)+x8*1+x9*256+x10*65536+x11*16777216+x12*4294967296+x13*1099511627776+x14*281474976710656+x15*72057594037927936:=k0b _ _ 56 (by decide) (by omega) (by show _<(72057594037927936:Int);omega) b15.1 b15.2;rw[q8,q9,q10,q11,q12,q13,q14,q15,q0,q1,q2,q3,q4,q5,q6,q7];congr 2
 ·omega
 ·omega
theorem a2o (n:Nat) {a b:Wd} (ha:WdOk a) (hb:WdOk b):k0i (n+2) a b=some (decide (wv a<wv b)):=by
 obtain ⟨x0,x1,x2,x3,x4,x5,x6,x7,x8,x9,x10,x11,x12,x13,x14,x15,hx,⟨b0,b1,b2,b3,b4,b5,b6,b7,b8,b9,b10,b11,b12,b13,b14,b15⟩,va,va'⟩:=o0g n ha;obtain ⟨y0,y1,y2,y3,y4,y5,y6,y7,y8,y9,y10,y11,y12,y13,y14,y15,hy,⟨d0,d1,d2,d3,d4,d5,d6,d7,d8,d9,d10,d11,d12,d13,d14,d15⟩,vb,vb'⟩:=o0g n hb;rw[y1m,hx,hy];simp only[obs,tfn,tfd];simp only[Byt] at *
 have ea:wv a=a.1*18446744073709551616+a.2:=rfl;have eb:wv b=b.1*18446744073709551616+b.2:=rfl;rw[va,va'] at ea;rw[vb,vb'] at eb;clear va va' vb vb' hx hy ha hb;generalize wv a=va at *
 generalize wv b=vb at *
 by_cases c15:x15=y15
 case neg=>rw[q0n c15];congr 1;exact q2r.2 (by omega)
 rw[q0z c15];subst c15;by_cases c14:x14=y14
 case neg=>rw[q0n c14];congr 1;exact q2r.2 (by omega)
 rw[q0z c14];subst c14;by_cases c13:x13=y13
 case neg=>rw[q0n c13];congr 1;exact q2r.2 (by omega)
 rw[q0z c13];subst c13;by_cases c12:x12=y12
 case neg=>rw[q0n c12];congr 1;exact q2r.2 (by omega)
 rw[q0z c12];subst c12;by_cases c11:x11=y11
 case neg=>rw[q0n c11];congr 1;exact q2r.2 (by omega)
 rw[q0z c11];subst c11;by_cases c10:x10=y10
 case neg=>rw[q0n c10];congr 1;exact q2r.2 (by omega)
 rw[q0z c10];subst c10;by_cases c9:x9=y9
 case neg=>rw[q0n c9];congr 1;exact q2r.2 (by omega)
 rw[q0z c9];subst c9;by_cases c8:x8=y8
 case neg=>rw[q0n c8];congr 1;exact q2r.2 (by omega)
 rw[q0z c8];subst c8;by_cases c7:x7=y7
 case neg=>rw[q0n c7];congr 1;exact q2r.2 (by omega)
 rw[q0z c7];subst c7;by_cases c6:x6=y6
 case neg=>rw[q0n c6];congr 1;exact q2r.2 (by omega)
 rw[q0z c6];subst c6;by_cases c5:x5=y5
 case neg=>rw[q0n c5];congr 1;exact q2r.2 (by omega)
 rw[q0z c5];subst c5;by_cases c4:x4=y4
 case neg=>rw[q0n c4];congr 1;exact q2r.2 (by omega)
 rw[q0z c4];subst c4;by_cases c3:x3=y3
 case neg=>rw[q0n c3];congr 1;exact q2r.2 (by omega)
 rw[q0z c3];subst c3;by_cases c2:x2=y2
 case neg=>rw[q0n c2];congr 1;exact q2r.2 (by omega)
 rw[q0z c2];subst c2;by_cases c1:x1=y1
 case neg=>rw[q0n c1];congr 1;exact q2r.2 (by omega)
 rw[q0z c1];subst c1;by_cases c0:x0=y0
 case neg=>rw[q0n c0];congr 1;exact q2r.2 (by omega)
 rw[q0z c0];subst c0;rw[q1z (by omega)]
def cN (x y m:Int):Int:=wrap .i64 (Int.tdiv (wrap .i64 ((wrap .i64 (x+y))+m)) (256:Int))
def dN (x y m:Int):Int:=Int.tmod (wrap .i64 ((wrap .i64 (x+y))+m)) (256:Int)
theorem digit (x y m:Int) (hx:Byt x) (hy:Byt y) (hm:0<=m/\m<=1):(0<=cN x y m/\cN x y m<=1)/\Byt (dN x y m)/\x+y+m=256*cN x y m+dN x y m:=by
 obtain ⟨h1,h2⟩:=hx;obtain ⟨h3,h4⟩:=hy;unfold cN dN Byt;rw[w64 (x:=x+y) (by omega) (by omega),w64 (x:=x+y+m) (by omega) (by omega),i0k (by omega),e0w (by omega),w64 (by omega) (by omega)];omega
theorem z0j (n:Nat) {a b:Wd} (ha:WdOk a) (hb:WdOk b):n0g (n+2) a b=some (addW a b):=by
 obtain ⟨x0,x1,x2,x3,x4,x5,x6,x7,x8,x9,x10,x11,x12,x13,x14,x15,hx,⟨b0,b1,b2,b3,b4,b5,b6,b7,b8,b9,b10,b11,b12,b13,b14,b15⟩,va,va'⟩:=o0g n ha;obtain ⟨y0,y1,y2,y3,y4,y5,y6,y7,y8,y9,y10,y11,y12,y13,y14,y15,hy,⟨d0,d1,d2,d3,d4,d5,d6,d7,d8,d9,d10,d11,d12,d13,d14,d15⟩,vb,vb'⟩:=o0g n hb;rw[e2l,hx,hy];simp only[obs]
 show tif (decide ((0:Int)<(cN x15 y15 (cN x14 y14 (cN x13 y13 (cN x12 y12 (cN x11 y11 (cN x10 y10 (cN x9 y9 (cN x8 y8 (cN x7 y7 (cN x6 y6 (cN x5 y5 (cN x4 y4 (cN x3 y3 (cN x2 y2 (cN x1 y1 (cN x0 y0 (0:Int))))))))))))))))))) (some (((0:Int),(0:Int)),(1:Int))) (a0a (a1x (n+1) (dN x0 y0 (0:Int),dN x1 y1 (cN x0 y0 (0:Int)),dN x2 y2 (cN x1 y1 (cN x0 y0 (0:Int))),dN x3 y3 (cN x2 y2 (cN x1 y1 (cN x0 y0 (0:Int)))),dN x4 y4 (cN x3 y3 (cN x2 y2 (cN x1 y1 (cN x0 y0 (0:Int))))),dN x5 y5 (cN x4 y4 (cN x3 y3 (cN x2 y2 (cN x1 y1 (cN x0 y0 (0:Int)))))),dN x6 y6 (cN x5 y5 (cN x4 y4 (cN x3 y3 (cN x2 y2 (cN x1 y1 (cN x0 y0 (0:Int))))))),dN x7 y7 (cN x6 y6 (cN x5 y5 (cN x4 y4 (cN x3 y3 (cN x2 y2 (cN x1 y1 (cN x0 y0 (0:Int)))))))),dN x8 y8 (cN x7 y7 (cN x6 y6 (cN x5 y5 (cN x4 y4 (cN x3 y3 (cN x2 y2 (cN x1 y1 (cN x0 y0 (0:Int))))))))),dN x9 y9 (cN x8 y8 (cN x7 y7 (cN x6 y6 (cN x5 y5 (cN x4 y4 (cN x3 y3 (cN x2 y2 (cN x1 y1 (cN x0 y0 (0:Int)))))))))),dN x10 y10 (cN x9 y9 (cN x8 y8 (cN x7 y7 (cN x6 y6 (cN x5 y5 (cN x4 y4 (cN x3 y3 (cN x2 y2 (cN x1 y1 (cN x0 y0 (0:Int))))))))))),dN x11 y11 (cN x10 y10 (cN x9 y9 (cN x8 y8 (cN x7 y7 (cN x6 y6 (cN x5 y5 (cN x4 y4 (cN x3 y3 (cN x2 y2 (cN x1 y1 (cN x0 y0 (0:Int)))))))))))),dN x12 y12 (cN x11 y11 (cN x10 y10 (cN x9 y9 (cN x8 y8 (cN x7 y7 (cN x6 y6 (cN x5 y5 (cN x4 y4 (cN x3 y3 (cN x2 y2 (cN x1 y1 (cN x0 y0 (0:Int))))))))))))),dN x13 y13 (cN x12 y12 (cN x11 y11 (cN x10 y10 (cN x9 y9 (cN x8 y8 (cN x7 y7 (cN x6 y6 (cN x5 y5 (cN x4 y4 (cN x3 y3 (cN x2 y2 (cN x1 y1 (cN x0 y0 (0:Int)))))))))))))),dN x14 y14 (cN x13 y13 (cN x12 y12 (cN x11 y11 (cN x10 y10 (cN x9 y9 (cN x8 y8 (cN x7 y7 (cN x6 y6 (cN x5 y5 (cN x4 y4 (cN x3 y3 (cN x2 y2 (cN x1 y1 (cN x0 y0 (0:Int))))))))))))))),dN x15 y15 (cN x14 y14 (cN x13 y13 (cN x12 y12 (cN x11 y11 (cN x10 y10 (cN x9 y9 (cN x8 y8 (cN x7 y7 (cN x6 y6 (cN x5 y5 (cN x4 y4 (cN x3 y3 (cN x2 y2 (cN x1 y1 (cN x0 y0 (0:Int)))))))))))))))))) fun r2=>some (r2,(0:Int)))=_
 obtain ⟨k0,g0,z0⟩:=digit x0 y0 (0:Int) b0 d0 (by omega);generalize cN x0 y0 (0:Int)=c0 at *
 generalize dN x0 y0 (0:Int)=t0 at *
 obtain ⟨k1,g1,z1⟩:=digit x1 y1 c0 b1 d1 (by omega);generalize cN x1 y1 c0=c1 at *
 generalize dN x1 y1 c0=t1 at *
 obtain ⟨k2,g2,z2⟩:=digit x2 y2 c1 b2 d2 (by omega);generalize cN x2 y2 c1=c2 at *
 generalize dN x2 y2 c1=t2 at *
 obtain ⟨k3,g3,z3⟩:=digit x3 y3 c2 b3 d3 (by omega);generalize cN x3 y3 c2=c3 at *
 generalize dN x3 y3 c2=t3 at *
 obtain ⟨k4,g4,z4⟩:=digit x4 y4 c3 b4 d4 (by omega);generalize cN x4 y4 c3=c4 at *
 generalize dN x4 y4 c3=t4 at *
 obtain ⟨k5,g5,z5⟩:=digit x5 y5 c4 b5 d5 (by omega);generalize cN x5 y5 c4=c5 at *
 generalize dN x5 y5 c4=t5 at *
 obtain ⟨k6,g6,z6⟩:=digit x6 y6 c5 b6 d6 (by omega);generalize cN x6 y6 c5=c6 at *
 generalize dN x6 y6 c5=t6 at *
 obtain ⟨k7,g7,z7⟩:=digit x7 y7 c6 b7 d7 (by omega);generalize cN x7 y7 c6=c7 at *
 generalize dN x7 y7 c6=t7 at *
 obtain ⟨k8,g8,z8⟩:=digit x8 y8 c7 b8 d8 (by omega);generalize cN x8 y8 c7=c8 at *
 generalize dN x8 y8 c7=t8 at *
 obtain ⟨k9,g9,z9⟩:=digit x9 y9 c8 b9 d9 (by omega);generalize cN x9 y9 c8=c9 at *
 generalize dN x9 y9 c8=t9 at *
 obtain ⟨k10,g10,z10⟩:=digit x10 y10 c9 b10 d10 (by omega);generalize cN x10 y10 c9=c10 at *
 generalize dN x10 y10 c9=t10 at *
 obtain ⟨k11,g11,z11⟩:=digit x11 y11 c10 b11 d11 (by omega);generalize cN x11 y11 c10=c11 at *
 generalize dN x11 y11 c10=t11 at *
 obtain ⟨k12,g12,z12⟩:=digit x12 y12 c11 b12 d12 (by omega);generalize cN x12 y12 c11=c12 at *
 generalize dN x12 y12 c11=t12 at *
 obtain ⟨k13,g13,z13⟩:=digit x13 y13 c12 b13 d13 (by omega);generalize cN x13 y13 c12=c13 at *
 generalize dN x13 y13 c12=t13 at *
 obtain ⟨k14,g14,z14⟩:=digit x14 y14 c13 b14 d14 (by omega);generalize cN x14 y14 c13=c14 at *
 generalize dN x14 y14 c13=t14 at *
 obtain ⟨k15,g15,z15⟩:=digit x15 y15 c14 b15 d15 (by omega);generalize cN x15 y15 c14=c15 at *
 generalize dN x15 y15 c14=t15 at *
 rw[r01_of n g0 g1 g2 g3 g4 g5 g6 g7 g8 g9 g10 g11 g12 g13 g14 g15];simp only[tfd,obs];have e:wv a+wv b=c15*340282366920938463463374607431768211456+((t8+t9*256+t10*65536+t11*16777216+t12*4294967296+t13*1099511627776+t14*281474976710656+t15*72057594037927936)*18446744073709551616+(t0+t1*256+t2*65536+t3*16777216+t4*4294967296+t5*1099511627776+t6*281474976710656+t7*72057594037927936)):=by
  simp only[wv];omega
 have r1:0<=t8+t9*256+t10*65536+t11*16777216+t12*4294967296+t13*1099511627776+t14*281474976710656+t15*72057594037927936/\t8+t9*256+t10*65536+t11*16777216+t12*4294967296+t13*1099511627776+t14*281474976710656+t15*72057594037927936<=18446744073709551615:=by simp only[Byt] at *;omega
 have r2:0<=t0+t1*256+t2*65536+t3*16777216+t4*4294967296+t5*1099511627776+t6*281474976710656+t7*72057594037927936/\t0+t1*256+t2*65536+t3*16777216+t4*4294967296+t5*1099511627776+t6*281474976710656+t7*72057594037927936<=18446744073709551615:=by simp only[Byt] at *;omega
 generalize t8+t9*256+t10*65536+t11*16777216+t12*4294967296+t13*1099511627776+t14*281474976710656+t15*72057594037927936=hi at *
 generalize t0+t1*256+t2*65536+t3*16777216+t4*4294967296+t5*1099511627776+t6*281474976710656+t7*72057594037927936=lo at *
 clear va va' vb vb';unfold addW;by_cases hc:(0:Int)<c15
 ·rw[q0z hc,q0n (by omega)]
 ·rw[q0n hc,q0z (by omega)];simp only[mkW];refine congrArg (fun z=>some (z,(0:Int))) (Prod.ext ?_ ?_)
  ·simp only;omega
  ·simp only;omega
theorem wrapN (x:Nat):wrap .u64 (x:Int)=((x % 18446744073709551616:Nat):Int):=by
 rw[IntKind.wrap_u64];omega
theorem shlN (x k:Nat) (hk:k<=64):shlI .u64 (x:Int) (k:Int)=((x*2^k % 18446744073709551616:Nat):Int):=by
 show wrap .u64 ((x:Int)*2^(min (k:Int).toNat 64))=_;rw[show min (k:Int).toNat 64=k by omega,<-wrapN];congr 1
theorem shrN (x k:Nat) (hk:k<=64):shrI .u64 (x:Int) (k:Int)=((x / 2^k:Nat):Int):=by
 rw[n0e _ _ hk];simp
theorem orN {x y:Nat} (hx:x<18446744073709551616) (hy:y<18446744073709551616):orI .u64 (x:Int) (y:Int)=((x ||| y:Nat):Int):=by
 unfold orI;have e2:(BitVec.ofInt IntKind.u64.bits (x:Int) ||| BitVec.ofInt IntKind.u64.bits (y:Int)).toNat=x ||| y:=by
  show (BitVec.ofInt 64 (x:Int) ||| BitVec.ofInt 64 (y:Int)).toNat=_;rw[BitVec.toNat_or,BitVec.ofInt_natCast,BitVec.ofInt_natCast,BitVec.toNat_ofNat,BitVec.toNat_ofNat,Nat.mod_eq_of_lt (by omega),Nat.mod_eq_of_lt (by omega)]
 rw[e2];have:x ||| y<2^64:=Nat.or_lt_two_pow (by omega) (by omega)
 exact wu64 (by omega) (by omega)
theorem andN {x y:Nat} (hx:x<18446744073709551616) (hy:y<18446744073709551616):andI .u64 (x:Int) (y:Int)=((x &&& y:Nat):Int):=by
 unfold andI;have e2:(BitVec.ofInt IntKind.u64.bits (x:Int) &&& BitVec.ofInt IntKind.u64.bits (y:Int)).toNat=x &&& y:=by
  show (BitVec.ofInt 64 (x:Int) &&& BitVec.ofInt 64 (y:Int)).toNat=_;rw[BitVec.toNat_and,BitVec.ofInt_natCast,BitVec.ofInt_natCast,BitVec.toNat_ofNat,BitVec.toNat_ofNat,Nat.mod_eq_of_lt (by omega),Nat.mod_eq_of_lt (by omega)]
 rw[e2];have:x &&& y<=x:=Nat.and_le_left;exact wu64 (by omega) (by omega)
theorem a2v {H L k:Nat} (h:L<2^k):H*2^k ||| L=H*2^k+L:=by
 rw[Nat.mul_comm];exact (Nat.two_pow_add_eq_or_of_lt h H).symm
end Go.Proofs.YteopnkdnglpbfaaGreatDoor
namespace Go.Proofs.YteopnkdnglpbfaaGreatDoor
open Go.Flat Go.Plim
set_option linter.unusedVariables false
def lenT:List UInt8 :=
 g0f
theorem f2b (n:Nat) (x:Int):d0q (n+1) x =
 tif (decide ((4294967296:Int)<=x)) (
 tif (decide ((65536:Int)<=(shrI .u64 x (32:Int)))) (
 tif (decide ((256:Int)<=(shrI .u64 (shrI .u64 x (32:Int)) (16:Int)))) (
 a0a (at? lenT (wrap .u8 (shrI .u64 (shrI .u64 (shrI .u64 x (32:Int)) (16:Int)) (8:Int)))) fun r0 =>
 some (wrap .i64 ((56:Int)+(wrap .i64 (((UInt8.toNat r0):Nat):Int))))) (
 a0a (at? lenT (wrap .u8 (shrI .u64 (shrI .u64 x (32:Int)) (16:Int)))) fun r1 =>
 some (wrap .i64 ((48:Int)+(wrap .i64 (((UInt8.toNat r1):Nat):Int)))))) (
 tif (decide ((256:Int)<=(shrI .u64 x (32:Int)))) (
 a0a (at? lenT (wrap .u8 (shrI .u64 (shrI .u64 x (32:Int)) (8:Int)))) fun r2 =>
 some (wrap .i64 ((40:Int)+(wrap .i64 (((UInt8.toNat r2):Nat):Int))))) (
 a0a (at? lenT (wrap .u8 (shrI .u64 x (32:Int)))) fun r3 =>
 some (wrap .i64 ((32:Int)+(wrap .i64 (((UInt8.toNat r3):Nat):Int))))))) (
 tif (decide ((65536:Int)<=x)) (
 tif (decide ((256:Int)<=(shrI .u64 x (16:Int)))) (
 a0a (at? lenT (wrap .u8 (shrI .u64 (shrI .u64 x (16:Int)) (8:Int)))) fun r4 =>
 some (wrap .i64 ((24:Int)+(wrap .i64 (((UInt8.toNat r4):Nat):Int))))) (
 a0a (at? lenT (wrap .u8 (shrI .u64 x (16:Int)))) fun r5 =>
 some (wrap .i64 ((16:Int)+(wrap .i64 (((UInt8.toNat r5):Nat):Int)))))) (
 tif (decide ((256:Int)<=x)) (
 a0a (at? lenT (wrap .u8 (shrI .u64 x (8:Int)))) fun r6 =>
 some (wrap .i64 ((8:Int)+(wrap .i64 (((UInt8.toNat r6):Nat):Int))))) (
 a0a (at? lenT (wrap .u8 x)) fun r7 =>
 some (wrap .i64 ((0:Int)+(wrap .i64 (((UInt8.toNat r7):Nat):Int))))))):=y0a n x
theorem lenT_all:((List.range 256).all fun z=>match lenT[z]? with | some r=>decide (r.toNat=bl 64 z) | none=>false)=true:=by decide +kernel
end Go.Proofs.YteopnkdnglpbfaaGreatDoor
namespace Go.Proofs.YteopnkdnglpbfaaGreatDoor
open Go.Flat Go.Plim
set_option linter.unusedVariables false
set_option linter.unusedSimpArgs false
theorem e0d (n x:Nat):i0q (n+1) (ofN x)=some (decide (x=0)):=by
 rw[m1y,q0e]
theorem up_small {x k:Nat} (hk:k<=128) (h:x*2^k<340282366920938463463374607431768211456):x<2^(128-k):=by
 have e:340282366920938463463374607431768211456=2^(128-k)*2^k:=by rw[<-Nat.pow_add,show 128-k+k=128 by omega]
 rw[e] at h;exact Nat.lt_of_mul_lt_mul_right h
theorem r0g (n x k:Nat) (hk:k<128) (h:x*2^k<340282366920938463463374607431768211456):w0p (n+1) (ofN x) (k:Int)=some (ofN (x*2^k)):=by
 rw[x1a];simp only[tfd];by_cases c:64<=k
 ·have e:(k:Int)-64=((k-64:Nat):Int):=by omega
  have hx:x<18446744073709551616:=q3m (up_small (by omega) h) (show 2^(128-k)<=2^64 from Nat.pow_le_pow_right (by decide) (by omega));have e2:x*2^k=18446744073709551616*(x*2^(k-64)):=by
   rw[show (18446744073709551616:Nat)=2^64 from rfl,Nat.mul_left_comm,<-Nat.pow_add,show 64+(k-64)=k by omega]
  rw[q0z (by omega),w64 (by omega) (by omega),q0n (by omega),e];show some (shlI .u64 ((x % 18446744073709551616:Nat):Int) _,_)=some (((x*2^k / 18446744073709551616:Nat):Int),((x*2^k % 18446744073709551616:Nat):Int));rw[shlN _ _ (by omega),Nat.mod_eq_of_lt hx,e2,Nat.mul_div_cancel_left _ (by decide),Nat.mul_mod_right];rw[e2] at h;have:x*2^(k-64)<18446744073709551616:=Nat.lt_of_mul_lt_mul_left (show 18446744073709551616*(x*2^(k-64))<18446744073709551616*18446744073709551616 from h);rw[Nat.mod_eq_of_lt this];rfl
 ·have e:(64:Int)-k=((64-k:Nat):Int):=by omega
  obtain ⟨a1,a2,a3⟩:=half_up (show k<64 by omega) h;rw[q0n (by omega),q0n (by omega),w64 (by omega) (by omega),q0n (by omega),q0n (by omega),e];show some (orI .u64 (shlI .u64 ((x / 18446744073709551616:Nat):Int) _) (shrI .u64 ((x % 18446744073709551616:Nat):Int) _),shlI .u64 ((x % 18446744073709551616:Nat):Int) _)=some (((x*2^k / 18446744073709551616:Nat):Int),((x*2^k % 18446744073709551616:Nat):Int));have hq:x*2^k / 18446744073709551616<18446744073709551616:=Nat.div_lt_of_lt_mul h
  have h1:x / 18446744073709551616*2^k<18446744073709551616:=q3n (by rw[<-a1];exact Nat.le_add_right _ _) hq;have h2:x % 18446744073709551616 / 2^(64-k)<18446744073709551616:=q3n (q3s _ _) (Nat.mod_lt _ (by decide));rw[shlN _ _ (by omega),shrN _ _ (by omega),shlN _ _ (by omega),Nat.mod_eq_of_lt h1,orN h1 h2,a2v a2,a1,a3]
theorem u0c (n x k:Nat) (hk:k<128) (h:x<340282366920938463463374607431768211456):t0c (n+1) (ofN x) (k:Int)=some (ofN (x / 2^k)):=by
 rw[n1d];simp only[tfd];have hq:x / 18446744073709551616<18446744073709551616:=Nat.div_lt_of_lt_mul h;by_cases c:64<=k
 ·have e:(k:Int)-64=((k-64:Nat):Int):=by omega
  rw[q0z (by omega),w64 (by omega) (by omega),q0n (by omega),e];show some (_,shrI .u64 ((x / 18446744073709551616:Nat):Int) _)=some (((x / 2^k / 18446744073709551616:Nat):Int),((x / 2^k % 18446744073709551616:Nat):Int));have e2:x / 2^k=x / 18446744073709551616 / 2^(k-64):=by
   rw[Nat.div_div_eq_div_mul,show (18446744073709551616:Nat)=2^64 from rfl,<-Nat.pow_add,show 64+(k-64)=k by omega]
  have hlt:x / 18446744073709551616 / 2^(k-64)<18446744073709551616:=q3n (q3s _ _) hq;rw[shrN _ _ (by omega),e2,Nat.div_eq_of_lt hlt,Nat.mod_eq_of_lt hlt];rfl
 ·have e:(64:Int)-k=((64-k:Nat):Int):=by omega
  obtain ⟨a1,a2,a3,m,a4⟩:=k2g (show k<64 by omega) h;rw[q0n (by omega),q0n (by omega),q0n (by omega),w64 (by omega) (by omega),q0n (by omega),e];show some (shrI .u64 ((x / 18446744073709551616:Nat):Int) _,orI .u64 (shrI .u64 ((x % 18446744073709551616:Nat):Int) _) (shlI .u64 ((x / 18446744073709551616:Nat):Int) _))=some (((x / 2^k / 18446744073709551616:Nat):Int),((x / 2^k % 18446744073709551616:Nat):Int));have h3:x % 18446744073709551616 / 2^k<18446744073709551616:=q3n (q3s _ _) (Nat.mod_lt _ (by decide))
  have h4:x / 18446744073709551616*2^(64-k) % 18446744073709551616<18446744073709551616:=Nat.mod_lt _ (by decide);rw[shrN _ _ (by omega),shrN _ _ (by omega),shlN _ _ (by omega),orN h3 h4,Nat.or_comm];have a4':x / 18446744073709551616*2^(64-k) % 18446744073709551616=m*2^(64-k):=by rw[Nat.mul_comm m];exact a4
  rw[a4',a2v a3,<-a4',Nat.add_comm];rw[show x % 18446744073709551616 / 2^k+x / 18446744073709551616*2^(64-k) % 18446744073709551616=x / 2^k % 18446744073709551616 from a2,show x / 18446744073709551616 / 2^k=x / 2^k / 18446744073709551616 from a1]
theorem wide_sub (n:Nat) {x y:Nat} (hx:x<340282366920938463463374607431768211456) (h:y<=x):l1t (n+2) (ofN x) (ofN y)=some (ofN (x-y),0):=by
 rw[v1t];have h1:x / 18446744073709551616<18446744073709551616:=Nat.div_lt_of_lt_mul hx;have h2:y / 18446744073709551616<18446744073709551616:=Nat.div_lt_of_lt_mul (q3n h hx);have h3:x % 18446744073709551616<18446744073709551616:=Nat.mod_lt _ (by decide);have h4:y % 18446744073709551616<18446744073709551616:=Nat.mod_lt _ (by decide);have e:∀z:Nat,ofN z=(((z / 18446744073709551616:Nat):Int),((z % 18446744073709551616:Nat):Int)):=fun _=>rfl
 rw[e x,e y,e (x-y)];have ex:=Nat.div_add_mod x 18446744073709551616;have ey:=Nat.div_add_mod y 18446744073709551616;have ez:=Nat.div_add_mod (x-y) 18446744073709551616;have h5:(x-y) % 18446744073709551616<18446744073709551616:=Nat.mod_lt _ (by decide);generalize x / 18446744073709551616=a at *
 generalize x % 18446744073709551616=b at *
 generalize y / 18446744073709551616=c at *
 generalize y % 18446744073709551616=d at *
 generalize (x-y) / 18446744073709551616=p at *
 generalize (x-y) % 18446744073709551616=q at *
 simp only[c1z,tfd,tft];by_cases hb:b<d
 ·have hb':(b:Int)<(d:Int)+0:=by omega
  rw[q0z (by omega),q0z (by omega),q0z (by omega),q0z (by omega),q0z (by omega),q0z (by omega),q0z hb',q0z (by omega),q0z (by omega),q0n (by omega),k0e,obs,q0z rfl];congr 3<;>omega
 ·have hb':¬(b:Int)<(d:Int)+0:=by omega
  rw[q0z (by omega),q0z (by omega),q0z (by omega),q0z (by omega),q0z (by omega),q0z (by omega),q0n hb',q0z (by omega),q0z (by omega),q0n (by omega),k0e,obs,q0z rfl];congr 3<;>omega
theorem n0f (n:Nat) {x y:Nat} (hx:x<340282366920938463463374607431768211456) (h:y<=x):i0r (n+3) (ofN x) (ofN y)=some (ofN (x-y)):=by
 rw[n1a,wide_sub n hx h];rfl
theorem y0r (n:Nat) {x y:Nat} (hx:x<340282366920938463463374607431768211456) (hy:y<340282366920938463463374607431768211456):j0f (n+1) (ofN x) (ofN y)=some (decide (x<y)):=by
 rw[q1m n (h0b hx) (h0b hy),t0r,t0r];congr 1;exact q2r.2 (by omega)
theorem tz_pow (n:Nat):((List.range 64).all fun t=>match j0s (n+1) ((2^t:Nat):Int) with | some r=>decide (r=(t:Int)) | none=>false)=true:=by kernel_rfl
theorem tz_at (n t:Nat) (ht:t<64):j0s (n+1) ((2^t:Nat):Int)=some (t:Int):=by
 have h:=List.all_eq_true.1 (tz_pow n) t (List.mem_range.2 ht);split at h
 ·rename_i r hr;rw[hr,of_decide_eq_true h]
 ·cases h
theorem b2d {x:Nat} (h0:0<x) (h:x<18446744073709551616):andI .u64 (x:Int) (wrap .u64 ((0:Int)-x))=((2^tz 64 x:Nat):Int):=by
 rw[show wrap .u64 ((0:Int)-x)=((18446744073709551616-x:Nat):Int) by rw[IntKind.wrap_u64];omega,andN h (by omega)];exact congrArg Int.ofNat (low_bit h0 h)
theorem tz_val (n:Nat) {x:Nat} (h0:0<x) (h:x<18446744073709551616):j0s (n+1) (x:Int)=some ((tz 64 x:Nat):Int):=by
 have ht:=(u0z 64 x h0 h).1;have hp:=Nat.two_pow_pos (tz 64 x);have hp2:2^tz 64 x<18446744073709551616:=Nat.pow_lt_pow_right (a:=2) (by decide) ht;rw[<-tz_at n _ ht];have e:tz 64 (2^tz 64 x)=tz 64 x:=c1w hp hp2 (Nat.mod_self _) (by rw[Nat.div_self hp]);rw[b1j,b1j,b2d h0 h,b2d hp hp2,e,q1z (show ¬((x:Int)=0) by omega),q1z (show ¬(((2^tz 64 x:Nat):Int)=0) by omega)]
theorem v0f (n:Nat) {x:Nat} (h0:0<x) (h:x<340282366920938463463374607431768211456):g0d (n+2) (ofN x)=some ((tz 128 x:Nat):Int):=by
 rw[b1s];show tif (decide (((x % 18446744073709551616:Nat):Int)=0)) (a0a (j0s (n+1) ((x / 18446744073709551616:Nat):Int)) fun r0=>some (wrap .i64 (64+r0))) (a0a (j0s (n+1) ((x % 18446744073709551616:Nat):Int)) fun r1=>some r1)=_;rw[tfd];by_cases c:x % 18446744073709551616=0
 ·have h1:0<x / 18446744073709551616:=by omega
  have h2:x / 18446744073709551616<18446744073709551616:=Nat.div_lt_of_lt_mul h;have ht:=(u0z 64 _ h1 h2).1;rw[q0z (by omega),tz_val n h1 h2,obs,w64 (by omega) (by omega),tz_hi h c h0];congr 1
 ·rw[q0n (by omega),tz_val n (by omega) (Nat.mod_lt _ (by decide)),obs,tz_lo h (by omega)]
theorem lenT_at {z:Nat} (h:z<256):∃r,at? lenT (z:Int)=some r/\r.toNat=bl 64 z:=by
 have h1:=List.all_eq_true.1 lenT_all z (List.mem_range.2 h);split at h1
 ·rename_i r hr;refine ⟨r,?_,of_decide_eq_true h1⟩;unfold at?;rw[q2a (by omega)];exact hr
 ·cases h1
theorem m0p {x s K:Nat} {I S:Int} (hK:K=2^s) (hI:I=((x / K:Nat):Int)) (hS:S=s) (h2:x / K<256) (h1:K<=x\/s=0) (hx:x<18446744073709551616) (hs:s<=56) :
  (a0a (at? lenT (wrap .u8 I)) fun r=>some (wrap .i64 (S+wrap .i64 (((UInt8.toNat r):Nat):Int))))=some ((bl 64 x:Nat):Int):=by
 obtain ⟨r,hr,hb⟩:=lenT_at h2;have hle:=(i0x 64 (x / K) (q3n (q3s _ _) hx)).2.2;have e:bl 64 x=s+bl 64 (x / K):=by
  rcases h1 with h1 | rfl
  ·rw[hK] at h1 ⊢;exact c2d hx h1
  ·subst hK;simp
 rw[hI,e];generalize x / K=z at *
 rw[wu8 (by omega) (by omega),hr,obs,hb,w64 (x:=((bl 64 z:Nat):Int)) (by omega) (by omega),hS,w64 (by omega) (by omega)];congr 1
theorem u1e (n:Nat) {x:Nat} (h:x<18446744073709551616):d0q (n+1) (x:Int)=some ((bl 64 x:Nat):Int):=by
 have s32:∀z:Nat,shrI .u64 (z:Int) (32:Int)=((z / 4294967296:Nat):Int):=fun z=>shrN z 32 (by decide)
 have s16:∀z:Nat,shrI .u64 (z:Int) (16:Int)=((z / 65536:Nat):Int):=fun z=>shrN z 16 (by decide)
 have s8:∀z:Nat,shrI .u64 (z:Int) (8:Int)=((z / 256:Nat):Int):=fun z=>shrN z 8 (by decide)
 have h':=h;rw[f2b];simp only[s32,s16,s8,tfd];by_cases c5:4294967296<=x
 ·rw[q0z (by omega)];by_cases c4:65536<=x / 4294967296
  ·rw[q0z (by omega)];by_cases c3:256<=x / 4294967296 / 65536
   ·rw[q0z (by omega)];exact m0p (s:=56) (K:=72057594037927936) rfl (by omega) rfl (by omega) (.inl (by omega)) h (by decide)
   ·rw[q0n (by omega)];exact m0p (s:=48) (K:=281474976710656) rfl (by omega) rfl (by omega) (.inl (by omega)) h (by decide)
  ·rw[q0n (by omega)];by_cases c3:256<=x / 4294967296
   ·rw[q0z (by omega)];exact m0p (s:=40) (K:=1099511627776) rfl (by omega) rfl (by omega) (.inl (by omega)) h (by decide)
   ·rw[q0n (by omega)];exact m0p (s:=32) (K:=4294967296) rfl (by omega) rfl (by omega) (.inl (by omega)) h (by decide)
 ·rw[q0n (by omega)];by_cases c4:65536<=x
  ·rw[q0z (by omega)];by_cases c3:256<=x / 65536
   ·rw[q0z (by omega)];exact m0p (s:=24) (K:=16777216) rfl (by omega) rfl (by omega) (.inl (by omega)) h (by decide)
   ·rw[q0n (by omega)];exact m0p (s:=16) (K:=65536) rfl (by omega) rfl (by omega) (.inl (by omega)) h (by decide)
  ·rw[q0n (by omega)];by_cases c3:256<=x
   ·rw[q0z (by omega)];exact m0p (s:=8) (K:=256) rfl (by omega) rfl (by omega) (.inl (by omega)) h (by decide)
   ·rw[q0n (by omega)];exact m0p (s:=0) (K:=1) rfl (by omega) rfl (by omega) (.inr rfl) h (by decide)
theorem b2f (n:Nat) {x:Nat} (h:x<340282366920938463463374607431768211456):t0b (n+2) (ofN x)=some ((bl 128 x:Nat):Int):=by
 rw[m1z];show tif (!decide (((x / 18446744073709551616:Nat):Int)=0)) (a0a (d0q (n+1) ((x / 18446744073709551616:Nat):Int)) fun r0=>some (wrap .i64 (64+r0))) (a0a (d0q (n+1) ((x % 18446744073709551616:Nat):Int)) fun r1=>some r1)=_;have hq:x / 18446744073709551616<18446744073709551616:=Nat.div_lt_of_lt_mul h;rw[tfn,tfd];by_cases c:x / 18446744073709551616=0
 ·have hx:x<18446744073709551616:=by omega
  rw[q0z (by omega),u1e n (Nat.mod_lt _ (by decide)),obs,Nat.mod_eq_of_lt hx,c2c (k:=64) (m:=128) hx h]
 ·have hle:=(i0x 64 (x / 18446744073709551616) hq).2.2;rw[q0n (by omega),u1e n hq,obs,w64 (by omega) (by omega),c2d (k:=128) (s:=64) h (by omega)];rw[<-c2c (k:=128) (m:=64) (x:=x / 18446744073709551616) (q3m hq (by decide)) hq];congr 1
theorem or_ofN {x y:Nat} (hx:x<340282366920938463463374607431768211456) (hy:y<340282366920938463463374607431768211456):((orI .u64 (ofN x).1 (ofN y).1,orI .u64 (ofN x).2 (ofN y).2):Wd)=ofN (x ||| y):=by
 show ((orI .u64 ((x / 18446744073709551616:Nat):Int) ((y / 18446744073709551616:Nat):Int),orI .u64 ((x % 18446744073709551616:Nat):Int) ((y % 18446744073709551616:Nat):Int)):Wd)=((((x ||| y) / 18446744073709551616:Nat):Int),(((x ||| y) % 18446744073709551616:Nat):Int));have e1:(x ||| y) / 18446744073709551616=x / 18446744073709551616 ||| y / 18446744073709551616:=Nat.or_div_two_pow (n:=64)
 have e2:(x ||| y) % 18446744073709551616=x % 18446744073709551616 ||| y % 18446744073709551616:=Nat.or_mod_two_pow (n:=64)
 rw[e1,e2,orN (Nat.div_lt_of_lt_mul hx) (Nat.div_lt_of_lt_mul hy),orN (Nat.mod_lt _ (by decide)) (Nat.mod_lt _ (by decide))]
theorem one_ofN:((0,1):Wd)=ofN 1:=rfl
theorem a2b:((0,0):Wd)=ofN 0:=rfl
theorem whole_l3 (n:Nat) {d A:Nat} (hd:0<d) (hA:A<340282366920938463463374607431768211456) (hdM:d<340282366920938463463374607431768211456) (s4:Wd):∀(k f a q:Nat),q+a / d=A / d->a<=A->a<d*2^k->2^k ∣ q->(k=0\/d*2^(k-1)<340282366920938463463374607431768211456)->k<=128->k<f ->
  g0o (n+3) f (ofN a,ofN d,s4,ofN q,(k:Int)-1,())=some (.inl (s4,ofN (A / d),())):=by
 intro k;induction k with
 | zero =>
  intro f a q h1 h2 h3 h4 h5 h6 hf;obtain ⟨f,rfl⟩:∃g,f=g+1:=⟨f-1,by omega⟩;rw[i0p,q1z (by omega),tff];rw[Nat.pow_zero,Nat.mul_one] at h3;rw[Nat.div_eq_of_lt h3,Nat.add_zero] at h1;rw[h1]
 | succ k ih =>
  intro f a q h1 h2 h3 h4 h5 h6 hf;obtain ⟨f,rfl⟩:∃g,f=g+1:=⟨f-1,by omega⟩;have h5':d*2^k<340282366920938463463374607431768211456:=by
   rcases h5 with h | h
   ·cases h
   ·exact h
  have hk5:k=0\/d*2^(k-1)<340282366920938463463374607431768211456:=by
   rcases Nat.eq_zero_or_pos k with e | e
   ·exact .inl e
   ·refine .inr (q3n (Nat.mul_le_mul_left d (Nat.pow_le_pow_right (by decide) (Nat.sub_le _ _))) h5')
  have hpk:2^k<340282366920938463463374607431768211456:=q3m (Nat.pow_lt_pow_right (a:=2) (n:=128) (by decide) (by omega)) (by decide);have eb:((k+1:Nat):Int)-1=(k:Int):=by omega
  have hq2:2^k ∣ q:=Nat.dvd_trans (Nat.pow_dvd_pow 2 (Nat.le_succ k)) h4;rw[i0p,eb,q2a (by omega),tft,r0g (n+2) d k (by omega) h5',obs,y0r (n+2) (by omega) h5',obs,w64 (by omega) (by omega),tfd];by_cases hlt:a<d*2^k
  ·rw[q0z hlt];exact ih f a q h1 h2 hlt hq2 hk5 (by omega) (by omega)
  ·rw[q0n hlt,n0f n (by omega) (by omega),obs,y0q,obs,one_ofN,r0g (n+2) 1 k (by omega) (by rw[Nat.one_mul];exact hpk),obs,Nat.one_mul];have hqA:q<=A / d:=by rw[<-h1];exact Nat.le_add_right _ _
   have hqM:q<340282366920938463463374607431768211456:=q3n (Nat.le_trans hqA (q3s _ _)) hA;rw[or_ofN hqM hpk,or_pow h4];refine ih f (a-d*2^k) (q+2^k) ?_ (by omega) ?_ (Nat.dvd_add hq2 (Nat.dvd_refl _)) hk5 (by omega) (by omega)
   ·rw[div_part hd (by omega)];exact h1
   ·rw[Nat.pow_succ,<-Nat.mul_assoc] at h3;omega
theorem r0f (n:Nat) {a d:Nat} (ha:a<340282366920938463463374607431768211456) (hd:0<d) (hdM:d<340282366920938463463374607431768211456):p0o (n+4) (ofN a) (ofN d)=some (ofN (a / d)):=by
 have la:=(i0x 128 a ha).2.2;have ld:=(i0x 128 d hdM).2;have ld1:=(ld.1 hd).1;rw[f1u,b2f (n+1) ha,obs,b2f (n+1) hdM,obs,w64 (by omega) (by omega)];by_cases h:bl 128 d<=bl 128 a
 ·have h0:0<a:=by
   rcases Nat.eq_zero_or_pos a with e | e
   ·rw[e,a1h] at h;omega
   ·exact e
  have e:((bl 128 a:Nat):Int)-((bl 128 d:Nat):Int)=((bl 128 a-bl 128 d+1:Nat):Int)-1:=by omega
  rw[e,a2b,whole_l3 n hd ha hdM _ (bl 128 a-bl 128 d+1) a0b a 0 (by omega) (q2e _) (bl_over ha hdM hd) (Nat.dvd_zero _) (.inr (by rw[Nat.add_sub_cancel];exact bl_up ha hdM (by omega) h0)) (by omega) (by unfold a0b;omega),obs,a0t]
 ·have hlt:=bl_less ha hdM (by omega);rw[show a0b=(2^70-1)+1 from rfl,i0p,q1z (by omega),tff,obs,a0t,Nat.div_eq_of_lt hlt];rfl
theorem b2n (n:Nat) {A B f:Nat} (ha0:0<A) (ha:A<340282366920938463463374607431768211456) (hb0:0<B) (hb:B<340282366920938463463374607431768211456) (s4:Wd) (tw:Int):d0k (n+3) (f+1) (ofN A,ofN B,s4,tw,()) =
  if od B<A then d0k (n+3) f (ofN (od B),ofN (A-od B),s4,tw,()) else d0k (n+3) f (ofN A,ofN (od B-A),s4,tw,()):=by
 have ht:=(n0j hb0 hb).1;have hle:od B<340282366920938463463374607431768211456:=q3n (od_le B) hb;rw[l0r,e0d,obs,tfn,q1z (by omega),tff,v0f (n+1) hb0 hb,obs,u0c (n+2) B _ ht hb,obs]
 change a0a (j0f (n+3) (ofN (od B)) (ofN A)) _=_
 rw[y0r (n+2) hle ha,obs,tfd];by_cases h:od B<A
 ·rw[q0z h,q0z h]
  change a0a (i0r (n+3) (ofN A) (ofN (od B))) _=_
  rw[n0f n ha (by omega),obs];rfl
 ·rw[q0n h,q0n h]
  change a0a (i0r (n+3) (ofN (od B)) (ofN A)) _=_
  rw[n0f n hle (by omega),obs]
theorem gcd_l5 (n:Nat) (s4:Wd) (tw:Int):∀(k f A B:Nat),0<A->A<340282366920938463463374607431768211456->A % 2=1->B<340282366920938463463374607431768211456->B % 2=0->A*B<2^k->k<f ->
  d0k (n+3) f (ofN A,ofN B,s4,tw,())=some (.inl (ofN (Nat.gcd A B),s4,tw,())):=by
 intro k;induction k with
 | zero =>
  intro f A B h1 h2 h3 h4 h5 h6 hf;obtain ⟨f,rfl⟩:∃g,f=g+1:=⟨f-1,by omega⟩;have:B=0:=by
   rcases Nat.eq_zero_or_pos B with e | e
   ·exact e
   ·have:=Nat.mul_pos h1 e;omega
  subst this;rw[l0r,e0d,obs,tfn,q2a rfl,tft,Nat.gcd_zero_right]
 | succ k ih =>
  intro f A B h1 h2 h3 h4 h5 h6 hf;obtain ⟨f,rfl⟩:∃g,f=g+1:=⟨f-1,by omega⟩;rcases Nat.eq_zero_or_pos B with e | hB
  ·subst e;rw[l0r,e0d,obs,tfn,q2a rfl,tft,Nat.gcd_zero_right]
  ·have hev:=od_even hB h4 h5;have hod:=(n0j hB h4).2.2;have hpos:=j2b hB h4;have hg:=k2j h3 hB h4;have hp:A*od B<2^k:=by
    have:A*(2*od B)<=A*B:=Nat.mul_le_mul_left A hev;rw[Nat.mul_left_comm] at this;rw[Nat.pow_succ] at h6;omega
   rw[b2n n h1 h2 hB h4];by_cases h:od B<A
   ·rw[q0z h,ih f (od B) (A-od B) hpos (by omega) hod (by omega) (by omega) (q3n (by rw[Nat.mul_comm A];exact Nat.mul_le_mul_left _ (Nat.sub_le _ _)) hp) (by omega),c1m (by omega),Nat.gcd_comm,hg]
   ·rw[q0n h,ih f A (od B-A) h1 h2 h3 (by omega) (by omega) (q3n (Nat.mul_le_mul_left _ (Nat.sub_le _ _)) hp) (by omega),c1m (by omega),hg]
theorem gcd_any (n:Nat) (s4:Wd) (tw:Int) {A B:Nat} (h1:0<A) (h2:A<340282366920938463463374607431768211456) (h3:A % 2=1) (hB:0<B) (h4:B<340282366920938463463374607431768211456):d0k (n+3) a0b (ofN A,ofN B,s4,tw,())=some (.inl (ofN (Nat.gcd A B),s4,tw,())):=by
 have hod:=(n0j hB h4).2.2;have hpos:=j2b hB h4;have hle:=od_le B;have hg:=k2j h3 hB h4;have hm:∀ {x y:Nat},x<340282366920938463463374607431768211456->y<340282366920938463463374607431768211456->x*y<2^256:=fun hx hy=>q3m (Nat.mul_lt_mul'' hx hy) (by decide)
 rw[show a0b=(2^70-1)+1 from rfl,b2n n h1 h2 hB h4];by_cases h:od B<A
 ·rw[q0z h,gcd_l5 n s4 tw 256 _ (od B) (A-od B) hpos (by omega) hod (by omega) (by omega) (hm (by omega) (by omega)) (by decide),c1m (by omega),Nat.gcd_comm,hg]
 ·rw[q0n h,gcd_l5 n s4 tw 256 _ A (od B-A) h1 h2 h3 (by omega) (by omega) (hm (by omega) (by omega)) (by decide),c1m (by omega),hg]
theorem r1x (n:Nat) {x y:Nat} (hx:x<340282366920938463463374607431768211456) (hy:y<340282366920938463463374607431768211456):w0q (n+4) (ofN x) (ofN y)=some (ofN (Nat.gcd x y)):=by
 rw[r1y,e0d,obs,or_ofN hx hy];by_cases h0:x=0
 ·subst h0;rw[q2a rfl,tft,Nat.gcd_zero_left,Nat.zero_or]
 rw[q1z h0,tff,e0d,obs];by_cases h1:y=0
 ·subst h1;rw[q2a rfl,tft,Nat.gcd_zero_right,Nat.or_zero]
 have hx0:0<x:=by omega
 have hy0:0<y:=by omega
 obtain ⟨a1,a2,a3⟩:=n0j hx0 hx;obtain ⟨b1,b2,b3⟩:=n0j hy0 hy;have hle:od x<340282366920938463463374607431768211456:=q3n (od_le x) hx;rw[q1z h1,tff,v0f (n+1) hx0 hx,obs,v0f (n+1) hy0 hy,obs,obs,u0c (n+2) x _ a1 hx,obs]
 change a0a (d0k (n+3) a0b (ofN (od x),ofN y,_,_,())) _=_
 rw[gcd_any n _ _ (j2b hx0 hx) hle a3 hy0 hy,obs,a0t];have e:(if ((tz 128 y:Nat):Int)<((tz 128 x:Nat):Int) then ((tz 128 y:Nat):Int) else ((tz 128 x:Nat):Int))=((min (tz 128 x) (tz 128 y):Nat):Int):=by
  split<;>omega
 have hg:=k2h hx0 hx hy0 hy;have hlt:Nat.gcd x y<340282366920938463463374607431768211456:=q3n (Nat.gcd_le_left y hx0) hx;simp only;rw[e,r0g (n+2) _ _ (by omega) (by rw[<-hg];exact hlt),obs,<-hg]
def bys (x:Nat):List Int:=(List.range 16).map fun j=>((byt x j:Nat):Int)
theorem q0o (x:Nat):(bys x).length=16:=by simp[bys]
theorem b1i (x:Nat) {j:Nat} (h:j<16):(bys x)[j]? = some ((byt x j:Nat):Int):=by
 unfold bys;rw[q3d,List.getElem?_range h];rfl
theorem bys_eq (x:Nat):bys x=[((x % 256:Nat):Int),((x / 256 % 256:Nat):Int),((x / 65536 % 256:Nat):Int),((x / 16777216 % 256:Nat):Int),((x / 4294967296 % 256:Nat):Int),((x / 1099511627776 % 256:Nat):Int),((x / 281474976710656 % 256:Nat):Int),((x / 72057594037927936 % 256:Nat):Int),
  ((x / 18446744073709551616 % 256:Nat):Int),((x / 4722366482869645213696 % 256:Nat):Int),((x / 1208925819614629174706176 % 256:Nat):Int),((x / 309485009821345068724781056 % 256:Nat):Int),((x / 79228162514264337593543950336 % 256:Nat):Int),((x / 20282409603651670423947251286016 % 256:Nat):Int),((x / 5192296858534827628530496329220096 % 256:Nat):Int),((x / 1329227995784915872903807060280344576 % 256:Nat):Int)]:=by
 unfold bys byt;simp[List.range,List.range.loop]
abbrev l16 (r:B16):List Int:=[r.1,r.2.1,r.2.2.1,r.2.2.2.1,r.2.2.2.2.1,r.2.2.2.2.2.1,r.2.2.2.2.2.2.1,r.2.2.2.2.2.2.2.1,r.2.2.2.2.2.2.2.2.1,r.2.2.2.2.2.2.2.2.2.1,r.2.2.2.2.2.2.2.2.2.2.1,r.2.2.2.2.2.2.2.2.2.2.2.1,r.2.2.2.2.2.2.2.2.2.2.2.2.1,r.2.2.2.2.2.2.2.2.2.2.2.2.2.1,r.2.2.2.2.2.2.2.2.2.2.2.2.2.2.1,r.2.2.2.2.2.2.2.2.2.2.2.2.2.2.2]
theorem bys_list (x:Nat):bys x=[((byt x 0:Nat):Int),((byt x 1:Nat):Int),((byt x 2:Nat):Int),((byt x 3:Nat):Int),((byt x 4:Nat):Int),((byt x 5:Nat):Int),((byt x 6:Nat):Int),((byt x 7:Nat):Int),((byt x 8:Nat):Int),((byt x 9:Nat):Int),((byt x 10:Nat):Int),((byt x 11:Nat):Int),((byt x 12:Nat):Int),((byt x 13:Nat):Int),((byt x 14:Nat):Int),((byt x 15:Nat):Int)]:=by
 unfold bys;simp[List.range,List.range.loop]
theorem l2c {v x0 x1 x2 x3 x4 x5 x6 x7:Int} (b:Byt x0/\Byt x1/\Byt x2/\Byt x3/\Byt x4/\Byt x5/\Byt x6/\Byt x7) (h:v=x0+x1*256+x2*65536+x3*16777216+x4*4294967296+x5*1099511627776+x6*281474976710656+x7*72057594037927936) :
  x0=v % 256/\x1=v / 256 % 256/\x2=v / 65536 % 256/\x3=v / 16777216 % 256/\x4=v / 4294967296 % 256/\x5=v / 1099511627776 % 256/\x6=v / 281474976710656 % 256/\x7=v / 72057594037927936 % 256:=by
 simp only[Byt] at b;obtain ⟨⟨_,_⟩,⟨_,_⟩,⟨_,_⟩,⟨_,_⟩,⟨_,_⟩,⟨_,_⟩,⟨_,_⟩,⟨_,_⟩⟩:=b;refine ⟨?_,?_,?_,?_,?_,?_,?_,?_⟩<;>omega
theorem k0s (n:Nat) {x:Nat} (h:x<340282366920938463463374607431768211456):∃r:B16,f0e (n+1) (ofN x)=some r/\l16 r=bys x:=by
 obtain ⟨x0,x1,x2,x3,x4,x5,x6,x7,x8,x9,x10,x11,x12,x13,x14,x15,hr,⟨b0,b1,b2,b3,b4,b5,b6,b7,b8,b9,b10,b11,b12,b13,b14,b15⟩,hlo,hhi⟩:=o0g n (h0b h);refine ⟨_,hr,?_⟩;obtain ⟨c0,c1,c2,c3,c4,c5,c6,c7⟩:=l2c ⟨b0,b1,b2,b3,b4,b5,b6,b7⟩ hlo;obtain ⟨d0,d1,d2,d3,d4,d5,d6,d7⟩:=l2c ⟨b8,b9,b10,b11,b12,b13,b14,b15⟩ hhi;have elo:(ofN x).2=((x % 18446744073709551616:Nat):Int):=rfl;have ehi:(ofN x).1=((x / 18446744073709551616:Nat):Int):=rfl;rw[elo] at c0 c1 c2 c3 c4 c5 c6 c7;rw[ehi] at d0 d1 d2 d3 d4 d5 d6 d7;rw[bys_eq];simp only[l16]
 clear hr hlo hhi b0 b1 b2 b3 b4 b5 b6 b7 b8 b9 b10 b11 b12 b13 b14 b15;subst c0 c1 c2 c3 c4 c5 c6 c7 d0 d1 d2 d3 d4 d5 d6 d7;simp only[List.cons.injEq,and_true];refine ⟨?_,?_,?_,?_,?_,?_,?_,?_,?_,?_,?_,?_,?_,?_,?_,?_⟩
 all_goals omega
theorem r01_ofN (n:Nat) {x:Nat} (h:x<340282366920938463463374607431768211456):a1x (n+1) (((byt x 0:Nat):Int),((byt x 1:Nat):Int),((byt x 2:Nat):Int),((byt x 3:Nat):Int),((byt x 4:Nat):Int),((byt x 5:Nat):Int),((byt x 6:Nat):Int),((byt x 7:Nat):Int),((byt x 8:Nat):Int),((byt x 9:Nat):Int),((byt x 10:Nat):Int),((byt x 11:Nat):Int),((byt x 12:Nat):Int),((byt x 13:Nat):Int),((byt x 14:Nat):Int),((byt x 15:Nat):Int))=some (ofN x):=by
 obtain ⟨r,hr,hl⟩:=k0s n h;obtain ⟨x0,x1,x2,x3,x4,x5,x6,x7,x8,x9,x10,x11,x12,x13,x14,x15,hr',hb,hlo,hhi⟩:=o0g n (h0b h);have hr':=Option.some.inj (hr.symm.trans hr');subst hr';rw[bys_list] at hl;simp only[l16,List.cons.injEq,and_true] at hl;obtain ⟨rfl,rfl,rfl,rfl,rfl,rfl,rfl,rfl,rfl,rfl,rfl,rfl,rfl,rfl,rfl,rfl⟩:=hl;obtain ⟨b0,b1,b2,b3,b4,b5,b6,b7,b8,b9,b10,b11,b12,b13,b14,b15⟩:=hb;rw[r01_of n b0 b1 b2 b3 b4 b5 b6 b7 b8 b9 b10 b11 b12 b13 b14 b15,<-hlo,<-hhi]
theorem i2j (n:Nat) {x:Nat} (h:x<340282366920938463463374607431768211456) {R:Type} (k:Wd->Option R) {l:List Int} (hl:l=bys x) :
  (a0a (l[0]?) fun r0=>a0a (l[1]?) fun r1=>a0a (l[2]?) fun r2=>a0a (l[3]?) fun r3=>a0a (l[4]?) fun r4=>a0a (l[5]?) fun r5=>a0a (l[6]?) fun r6=>a0a (l[7]?) fun r7=>a0a (l[8]?) fun r8=>a0a (l[9]?) fun r9=>a0a (l[10]?) fun r10=>a0a (l[11]?) fun r11=>a0a (l[12]?) fun r12=>a0a (l[13]?) fun r13=>a0a (l[14]?) fun r14=>a0a (l[15]?) fun r15=>a0a (a1x (n+1) (r0,(r1,(r2,(r3,(r4,(r5,(r6,(r7,(r8,(r9,(r10,(r11,(r12,(r13,(r14,r15)))))))))))))))) k)=k (ofN x):=by
 subst hl;have e:∀j:Nat,j<16->(bys x)[j]? = some ((byt x j:Nat):Int):=fun j hj=>b1i x hj
 rw[e 0 (by decide),e 1 (by decide),e 2 (by decide),e 3 (by decide),e 4 (by decide),e 5 (by decide),e 6 (by decide),e 7 (by decide),e 8 (by decide),e 9 (by decide),e 10 (by decide),e 11 (by decide),e 12 (by decide),e 13 (by decide),e 14 (by decide),e 15 (by decide)];simp only[obs,r01_ofN n h]
theorem o1c (n:Nat) {x y:Nat} (hx:x<340282366920938463463374607431768211456) (hy:y<340282366920938463463374607431768211456):n0g (n+2) (ofN x) (ofN y)=some (if x+y<340282366920938463463374607431768211456 then (ofN (x+y),0) else ((0,0),1)):=by
 rw[z0j n (h0b hx) (h0b hy)];unfold addW;rw[t0r,t0r];have e:(x:Int)+y=((x+y:Nat):Int):=by omega
 rw[e,z0t];by_cases h:x+y<340282366920938463463374607431768211456
 ·rw[q0z h,q0z (by omega)]
 ·rw[q0n h,q0n (by omega)]
theorem t1e (n:Nat) {x y:Nat} (hx:x<340282366920938463463374607431768211456) (hy:y<340282366920938463463374607431768211456):k0i (n+2) (ofN x) (ofN y)=some (decide (x<y)):=by
 rw[a2o n (h0b hx) (h0b hy),t0r,t0r];congr 1;exact q2r.2 (by omega)
def subL (A B i:Nat):List Int:=(List.range 16).map fun j=>(((if j<i then byt (A-B) j else byt A j):Nat):Int)
def owe (A B i:Nat):Nat:=if A % 256^i<B % 256^i then 1 else 0
theorem b1z (A B i:Nat):(subL A B i).length=16:=by simp[subL]
theorem w1h (A B i:Nat) {j:Nat} (h:j<16):(subL A B i)[j]? = some (((if j<i then byt (A-B) j else byt A j):Nat):Int):=by
 unfold subL;rw[q3d,List.getElem?_range h];rfl
theorem a2f (A B:Nat) {i:Nat} (h:i<16):(subL A B i).set i ((byt (A-B) i:Nat):Int)=subL A B (i+1):=by
 apply q3r;intro j;rw[List.getElem?_set,b1z];by_cases hj:j<16
 ·rw[w1h _ _ _ hj,w1h _ _ _ hj];by_cases e:i=j
  ·subst e;rw[q0z rfl,q0z h,q0z (by omega)]
  ·rw[q0n e];by_cases hlt:j<i
   ·rw[q0z hlt,q0z (by omega)]
   ·rw[q0n hlt,q0n (by omega)]
 ·rw[q0n (by omega),q2f (by rw[b1z];omega),q2f (by rw[b1z];omega)]
theorem owe_step {A B:Nat} (hle:B<=A) (i:Nat) :
  (byt A i<byt B i+owe A B i->owe A B (i+1)=1/\byt (A-B) i+byt B i+owe A B i=byt A i+256) /\
  (byt B i+owe A B i<=byt A i->owe A B (i+1)=0/\byt (A-B) i+byt B i+owe A B i=byt A i):=by
 have hp:0<256^i:=Nat.pow_pos (by decide);have ea:=Nat.div_add_mod A (256^i);have eb:=Nat.div_add_mod B (256^i);have la:=Nat.mod_lt A hp;have lb:=Nat.mod_lt B hp;have ea2:A % 256^(i+1)=256^i*(A / 256^i % 256)+A % 256^i:=by rw[Nat.pow_succ,Nat.mod_mul];omega
 have eb2:B % 256^(i+1)=256^i*(B / 256^i % 256)+B % 256^i:=by rw[Nat.pow_succ,Nat.mod_mul];omega
 unfold owe byt;rw[ea2,eb2];generalize hP:256^i=P at *
 generalize hA':A / P=A' at *
 generalize hB':B / P=B' at *
 generalize ha:A % P=a at *
 generalize hb:B % P=b at *
 have key:(A-B) / P+B'+(if a<b then 1 else 0)=A':=by
  by_cases hlt:a<b
  ·rw[q0z hlt];have hAB:B'+1<=A':=by
    rcases Nat.lt_or_ge B' A' with q | q
    ·exact q
    ·have:=Nat.mul_le_mul_left P q;omega
   obtain ⟨c,hc⟩:∃c,A'=B'+1+c:=⟨A'-(B'+1),by omega⟩;have e1:P*A'=P*B'+P+P*c:=by rw[hc,Nat.mul_add,Nat.mul_add,Nat.mul_one]
   have e2:A-B=P*c+(P+a-b):=by omega
   rw[e2,Nat.mul_add_div hp,Nat.div_eq_of_lt (by omega)];omega
  ·rw[q0n hlt];have hAB:B'<=A':=by
    rcases Nat.lt_or_ge A' B' with q | q
    ·have:=Nat.mul_le_mul_left P q;rw[Nat.mul_succ] at this;omega
    ·exact q
   obtain ⟨c,hc⟩:∃c,A'=B'+c:=⟨A'-B',by omega⟩;have e1:P*A'=P*B'+P*c:=by rw[hc,Nat.mul_add]
   have e2:A-B=P*c+(a-b):=by omega
   rw[e2,Nat.mul_add_div hp,Nat.div_eq_of_lt (by omega)];omega
 generalize (A-B) / P=D at *
 have cmp:(P*(A' % 256)+a<P*(B' % 256)+b)↔(A' % 256<B' % 256\/A' % 256=B' % 256/\a<b):=by
  rcases Nat.lt_trichotomy (A' % 256) (B' % 256) with q | q | q
  ·have:=Nat.mul_le_mul_left P q;rw[Nat.mul_succ] at this;constructor
   ·intro _;exact .inl q
   ·intro _;omega
  ·rw[q];constructor
   ·intro h;exact .inr ⟨rfl,by omega⟩
   ·rintro (h | ⟨_,h⟩)<;>omega
  ·have:=Nat.mul_le_mul_left P q;rw[Nat.mul_succ] at this;constructor
   ·intro h;omega
   ·rintro (h | ⟨h,_⟩)<;>omega
 by_cases hab:a<b
 ·simp only[q0z hab] at key ⊢;constructor
  ·intro h;rw[q0z (cmp.2 (by omega))];exact ⟨rfl,by omega⟩
  ·intro h;rw[q0n (fun q=>by have:=cmp.1 q;omega)];exact ⟨rfl,by omega⟩
 ·simp only[q0n hab] at key ⊢;constructor
  ·intro h;rw[q0z (cmp.2 (by omega))];exact ⟨rfl,by omega⟩
  ·intro h;rw[q0n (fun q=>by have:=cmp.1 q;omega)];exact ⟨rfl,by omega⟩
theorem e2i (n:Nat) {A B:Nat} (hle:B<=A) (s4:Wd):∀(k f i:Nat),i+k=16->k<f ->
  k0t n f (s4,subL A B i,bys B,((owe A B i:Nat):Int),(i:Int),())=some (.inl (s4,bys (A-B),())):=by
 intro k;induction k with
 | zero =>
  intro f i hi hf;obtain ⟨f,rfl⟩:∃g,f=g+1:=⟨f-1,by omega⟩;have:i=16:=by omega
  subst this;rw[x0k,q1z (by decide),tff];congr 3
 | succ k ih =>
  intro f i hi hf;obtain ⟨f,rfl⟩:∃g,f=g+1:=⟨f-1,by omega⟩;have hlt:i<16:=by omega
  have g1:=l1l A i;have g2:=l1l B i;have g3:=l1l (A-B) i;have g4:owe A B i<=1:=by unfold owe;split<;>omega
  obtain ⟨s1,s2⟩:=owe_step hle i;have next:=ih f (i+1) (by omega) (by omega);rw[x0k,b1z,q0o,q2i,w1h _ _ _ hlt,b1i _ hlt,q0n (Nat.lt_irrefl i)];simp only[q2a (show (i:Int)<16 by omega),q2a (show (0:Int)<=(i:Int) by omega),q2a (show (i:Int)<((16:Nat):Int) by omega),Bool.and_self,tft,obs];rw[w64 (x:=((byt A i:Nat):Int)-((byt B i:Nat):Int)) (by omega) (by omega),w64 (x:=((byt A i:Nat):Int)-((byt B i:Nat):Int)-((owe A B i:Nat):Int)) (by omega) (by omega),w64 (x:=(i:Int)+1) (by omega) (by omega),tfd]
  by_cases h:byt A i<byt B i+owe A B i
  ·obtain ⟨t1,t2⟩:=s1 h;rw[t1] at next;rw[q0z (by omega),w64 (by omega) (by omega),show ((byt A i:Nat):Int)-((byt B i:Nat):Int)-((owe A B i:Nat):Int)+256=((byt (A-B) i:Nat):Int) by omega,a2f _ _ hlt];exact next
  ·obtain ⟨t1,t2⟩:=s2 (by omega);rw[t1] at next;rw[q0n (by omega),show ((byt A i:Nat):Int)-((byt B i:Nat):Int)-((owe A B i:Nat):Int)=((byt (A-B) i:Nat):Int) by omega,a2f _ _ hlt];exact next
theorem o1b (n:Nat) {A B:Nat} (hA:A<340282366920938463463374607431768211456) (hle:B<=A):e1b (n+3) (ofN A) (ofN B)=some (ofN (A-B),0):=by
 obtain ⟨ra,ha,hla⟩:=k0s (n+1) hA;obtain ⟨rb,hb,hlb⟩:=k0s (n+1) (q3n hle hA);rw[e2k,t1e n hA (q3n hle hA),obs,q1z (by omega),tff,ha,obs,hb,obs];rw[show (decide (16=((((((((((((((((1+1)+1)+1)+1)+1)+1)+1)+1)+1)+1)+1)+1)+1)+1)+1) / 1)))=true from rfl,tft,tft];have e0:subL A B 0=bys A:=by unfold subL bys;apply List.map_congr_left;intro j _;rw[q0n (Nat.not_lt_zero j)]
 have:=e2i (n+2) hle (0,0) 16 a0b 0 rfl (by decide);rw[e0,show owe A B 0=0 by unfold owe;simp[Nat.mod_one],<-hla,<-hlb] at this
 change a0a (k0t (n+2) a0b ((0,0),l16 ra,l16 rb,((0:Nat):Int),((0:Nat):Int),())) _=_
 rw[this,obs,a0t];exact i2j (n+1) (q3n (Nat.sub_le _ _) hA) (fun r=>some (r,0)) rfl
theorem lo_ofN {b:Nat} (h:b<18446744073709551616):(((0:Int),(b:Int)):Wd)=ofN b:=by
 unfold ofN;rw[Nat.div_eq_of_lt h,Nat.mod_eq_of_lt h];rfl
theorem shr64 (v k:Nat) (hk:k<=64):shrI .i64 (v:Int) (k:Int)=((v / 2^k:Nat):Int):=shrN v k hk
theorem and1 {v:Nat} (h:v<256):andI .i64 (v:Int) (1:Int)=((v % 2:Nat):Int):=by
 unfold andI;have e2:(BitVec.ofInt IntKind.i64.bits (v:Int) &&& BitVec.ofInt IntKind.i64.bits (1:Int)).toNat=v % 2:=by
  show (BitVec.ofInt 64 (v:Int) &&& BitVec.ofInt 64 ((1:Nat):Int)).toNat=_;rw[BitVec.toNat_and,BitVec.ofInt_natCast,BitVec.ofInt_natCast,BitVec.toNat_ofNat,BitVec.toNat_ofNat,Nat.mod_eq_of_lt (by omega),Nat.mod_eq_of_lt (by omega)];exact Nat.and_one_is_mod v
 rw[e2];exact w64 (by omega) (by omega)
theorem orbit {v j:Nat} (h:v<256) (hj:j<8):orI .i64 (v:Int) (shlI .i64 (1:Int) (j:Int))=((v ||| 2^j:Nat):Int):=by
 have hp:2^j<256:=q3m (Nat.pow_lt_pow_right (a:=2) (n:=8) (by decide) hj) (by decide);have e1:shlI .i64 (1:Int) (j:Int)=((2^j:Nat):Int):=by
  show wrap .i64 ((1:Int)*2^(min (j:Int).toNat 64))=_;rw[show min (j:Int).toNat 64=j by omega,Int.one_mul];have:(2:Int)^j=((2^j:Nat):Int):=by simp
  rw[this];generalize 2^j=p at hp;exact w64 (by omega) (by omega)
 rw[e1];unfold orI;have e2:(BitVec.ofInt IntKind.i64.bits (v:Int) ||| BitVec.ofInt IntKind.i64.bits ((2^j:Nat):Int)).toNat=v ||| 2^j:=by
  show (BitVec.ofInt 64 (v:Int) ||| BitVec.ofInt 64 ((2^j:Nat):Int)).toNat=_;rw[BitVec.toNat_or,BitVec.ofInt_natCast,BitVec.ofInt_natCast,BitVec.toNat_ofNat,BitVec.toNat_ofNat,Nat.mod_eq_of_lt (by omega),Nat.mod_eq_of_lt (by omega)]
 rw[e2];have:v ||| 2^j<2^8:=Nat.or_lt_two_pow (by omega) (by omega)
 exact w64 (by omega) (by omega)
theorem bys_set {v i:Nat} (hi:i<128) (h:2^(i+1) ∣ v):(bys v).set (i / 8) ((byt v (i / 8) ||| 2^(i % 8):Nat):Int)=bys (v+2^i):=by
 apply q3r;intro j;rw[List.getElem?_set,q0o];by_cases hj:j<16
 ·rw[b1i _ hj,b1i _ hj,byt_or h];by_cases e:i / 8=j
  ·rw[q0z e,q0z e,q0z (by omega),e]
  ·rw[q0n e,q0n e]
 ·rw[q0n (by omega),q2f (by rw[q0o];omega),q2f (by rw[q0o];omega)]
theorem bit_at (A:Nat) {k:Nat}:wrap .u64 (andI .i64 (shrI .i64 ((byt A (k / 8):Nat):Int) ((k % 8:Nat):Int)) (1:Int))=((A / 2^k % 2:Nat):Int):=by
 have hb:=l1l A (k / 8);rw[shr64 _ _ (by omega),and1 (q3n (q3s _ _) hb),bit_byt,wu64 (by omega) (by omega)]
theorem s1z (n:Nat) {A D:Nat} (hA:A<340282366920938463463374607431768211456) (hD:D<340282366920938463463374607431768211456) (hD0:0<D) (s4 s5:Wd):∀(k f q r:Nat),k<=128->A / 2^k=D*q+r->r<D->k<f ->
  f0u (n+3) f (ofN D,s4,s5,bys (q*2^k),ofN r,bys A,(k:Int)-1,())=some (.inl (s4,s5,bys (A / D),ofN (A % D),())):=by
 intro k;induction k with
 | zero =>
  intro f q r hk h hr hf;obtain ⟨f,rfl⟩:∃g,f=g+1:=⟨f-1,by omega⟩;rw[Nat.pow_zero,Nat.div_one] at h;obtain ⟨e1,e2⟩:=(Nat.div_mod_unique (a:=A) (c:=r) (d:=q) hD0).2 ⟨by omega,hr⟩;rw[s0a,q1z (by omega),tff,e1,e2,Nat.pow_zero,Nat.mul_one]
 | succ k ih =>
  intro f q r hk h hr hf;obtain ⟨f,rfl⟩:∃g,f=g+1:=⟨f-1,by omega⟩;obtain ⟨d1,d2⟩:=div_step (L:=0) hD0 h hr;have e1:wrap .i64 (Int.tdiv (k:Int) 8)=((k / 8:Nat):Int):=by rw[i0k (by omega),w64 (by omega) (by omega)];omega
  have e2:Int.tmod (k:Int) 8=((k % 8:Nat):Int):=by rw[e0w (by omega)];omega
  have eb:((k+1:Nat):Int)-1=(k:Int):=by omega
  have hk8:k / 8<16:=by omega
  have hbit:A / 2^k % 2<2:=Nat.mod_lt _ (by decide);have hdvd:2^(k+1) ∣ q*2^(k+1):=Nat.dvd_mul_left _ _;have eq1:(2*q+1)*2^k=q*2^(k+1)+2^k:=by rw[Nat.pow_succ,q3p,Nat.one_mul,Nat.mul_comm 2 q,Nat.mul_assoc,Nat.mul_comm 2 (2^k)]
  have eq0:(2*q)*2^k=q*2^(k+1):=by rw[Nat.pow_succ,Nat.mul_comm 2 q,Nat.mul_assoc,Nat.mul_comm 2 (2^k)]
  have hset:=bys_set (v:=q*2^(k+1)) (i:=k) (by omega) hdvd;have hob:=orbit (v:=byt (q*2^(k+1)) (k / 8)) (j:=k % 8) (l1l _ _) (by omega);have c1:decide ((0:Int)<=((k / 8:Nat):Int))=true:=q2a (by omega);have c2:decide (((k / 8:Nat):Int)<(16:Int))=true:=q2a (by omega);have c3:decide (((k / 8:Nat):Int)<((16:Nat):Int))=true:=q2a (by omega);have c4:decide (((k % 8:Nat):Int)<(0:Int))=false:=q1z (by omega);rw[s0a,eb,q2a (by omega),tft,o1c (n+1) (by omega) (by omega),obs]
  simp only[e1,e2,q0o,c1,c2,c3,c4,Bool.and_self,tft,tff,q2i,b1i _ hk8,obs,bit_at,hob,hset];rw[w64 (x:=(k:Int)-1) (by omega) (by omega),lo_ofN (b:=A / 2^k % 2) (by omega)];generalize hb:A / 2^k % 2=b at *
  by_cases hov:r+r<340282366920938463463374607431768211456
  ·rw[q0z hov];simp only[decide_true,q2s,tff];rw[o1c (n+1) hov (by omega),obs,q0z (by omega)];simp only;rw[t1e (n+1) (by omega) hD,obs,tfn,tfd];by_cases hlt:r+r+b<D
   ·rw[q0z hlt];have:=ih f (2*q) (r+r+b) (by omega) (by rw[d2 (by omega)];omega) hlt (by omega);rw[eq0] at this;exact this
   ·obtain ⟨t1,t2⟩:=d1 (by omega);rw[q0n hlt,o1b n (by omega) (by omega),obs];have:=ih f (2*q+1) (r+r+b-D) (by omega) (by rw[t1];omega) (by omega) (by omega);rw[eq1] at this;exact this
  ·rw[q0n hov];simp only[show (decide ((1:Int)=0))=false from rfl,q3c,tft];obtain ⟨t1,t2⟩:=d1 (by omega);rw[o1b n hD (by omega),obs];simp only;rw[o1b n (by omega) (by omega),obs];simp only;rw[o1c (n+1) (by omega) (by omega),obs,q0z (by omega)];simp only;have:=ih f (2*q+1) (r-(D-r)+b) (by omega) (by rw[t1];omega) (by omega) (by omega);rw[eq1] at this;exact this
theorem x0i (n:Nat) {A D:Nat} (hA:A<340282366920938463463374607431768211456) (hD:D<340282366920938463463374607431768211456):s0b (n+4) (ofN A) (ofN D)=some (if D=0 then (ofN 0,ofN A) else (ofN (A / D),ofN (A % D))):=by
 rw[t1a,q0e,tfd];by_cases h0:D=0
 ·rw[q0z h0,q0z h0];rfl
 ·obtain ⟨ra,ha,hla⟩:=k0s (n+2) hA;rw[q0n h0,q0n h0,ha,obs];rw[show (decide (16=((((((((((((((((1+1)+1)+1)+1)+1)+1)+1)+1)+1)+1)+1)+1)+1)+1)+1) / 1)))=true from rfl,tft];have:=s1z n hA hD (by omega) (0,0) (0,0) 128 a0b 0 0 (q2e _) (by rw[Nat.mul_zero];exact Nat.div_eq_of_lt hA) (by omega) (by unfold a0b;omega);rw[Nat.zero_mul,show bys 0=List.replicate 16 (0:Int) from rfl,<-hla,show (((128:Nat):Int)-1)=127 from rfl,<-a2b] at this
  change a0a (f0u (n+3) a0b (ofN D,(0,0),(0,0),List.replicate 16 (0:Int),(0,0),l16 ra,127,())) _=_
  rw[this,obs,a0t];exact i2j (n+2) (q3n (q3s _ _) hA) (fun r=>some (r,ofN (A % D))) rfl
theorem k1q (n:Nat) (s4:Wd):∀(k f a b:Nat),a<340282366920938463463374607431768211456->b<=a->a*b<2^k->k<f->t0f (n+4) f (ofN a,ofN b,s4,())=some (.inl (ofN (Nat.gcd a b),s4,())):=by
 intro k;induction k with
 | zero =>
  intro f a b ha hb hp hf;obtain ⟨f,rfl⟩:∃g,f=g+1:=⟨f-1,by omega⟩;have:b=0:=by
   rcases Nat.eq_zero_or_pos b with e | e
   ·exact e
   ·have:=Nat.mul_pos (show 0<a by omega) e;omega
  subst this;rw[p0z,q0e,q2a rfl,q2s,tff,Nat.gcd_zero_right]
 | succ k ih =>
  intro f a b ha hb hp hf;obtain ⟨f,rfl⟩:∃g,f=g+1:=⟨f-1,by omega⟩;rw[p0z,q0e];rcases Nat.eq_zero_or_pos b with e | e
  ·subst e;rw[q2a rfl,q2s,tff,Nat.gcd_zero_right]
  ·have hm:=Nat.mod_lt a e;have hh:=mod_half e hb;have hq:b*(a % b)<2^k:=by
    have:b*(2*(a % b))<b*a:=Nat.mul_lt_mul_of_pos_left hh e;rw[Nat.mul_left_comm,Nat.mul_comm b a] at this;rw[Nat.pow_succ] at hp;omega
   rw[q1z (by omega),q3c,tft,x0i n ha (by omega),obs,q0n (by omega)];rw[ih f b (a % b) (by omega) (by omega) hq (by omega),Nat.gcd_comm b,<-Nat.gcd_rec,Nat.gcd_comm]
theorem i2h (n:Nat) {a b:Nat} (ha:a<340282366920938463463374607431768211456) (hb:b<340282366920938463463374607431768211456):o1a (n+5) (ofN a) (ofN b)=some (ofN (Nat.gcd a b)):=by
 have hm:∀ {x y:Nat},x<340282366920938463463374607431768211456->y<340282366920938463463374607431768211456->x*y<2^256:=fun hx hy=>q3m (Nat.mul_lt_mul'' hx hy) (by decide)
 rw[e2h];by_cases h:b<=a
 ·rw[k1q n (0,0) 256 a0b a b ha h (hm ha hb) (by unfold a0b;omega),obs,a0t]
 ·rw[show a0b=(2^70-1)+1 from rfl,p0z,q0e,q1z (by omega),q3c,tft,x0i n ha hb,obs,q0n (by omega),Nat.mod_eq_of_lt (by omega)];rw[k1q n (0,0) 256 _ b a hb (by omega) (hm hb ha) (by omega),obs,a0t,Nat.gcd_comm]
def redV (x y:Nat):(Wd×Wd)×Int:=if y=0 then (((0,0),(0,0)),1) else ((ofN (x / Nat.gcd x y),ofN (y / Nat.gcd x y)),0)
theorem r1w (n:Nat) {x y:Nat} (hx:x<340282366920938463463374607431768211456) (hy:y<340282366920938463463374607431768211456):r0i (n+5) (ofN x) (ofN y)=some (redV x y):=by
 rw[d1n,e0d,obs,tfd];unfold redV;by_cases h:y=0
 ·rw[q0z h,q0z h]
 ·have hg:0<Nat.gcd x y:=Nat.gcd_pos_of_pos_right x (by omega);have hl:Nat.gcd x y<340282366920938463463374607431768211456:=q3n (Nat.gcd_le_right x (by omega)) hy;rw[q0n h,q0n h,r1x n hx hy,obs,r0f n hx hg hl,obs,r0f n hy hg hl,obs]
theorem e2g (n:Nat) {x y:Nat} (hx:x<340282366920938463463374607431768211456) (hy:y<340282366920938463463374607431768211456):z0i (n+6) (ofN x) (ofN y)=some (redV x y):=by
 rw[n1x,q0e,tfd];unfold redV;by_cases h:y=0
 ·rw[q0z h,q0z h]
 ·have hg:0<Nat.gcd x y:=Nat.gcd_pos_of_pos_right x (by omega);have hl:Nat.gcd x y<340282366920938463463374607431768211456:=q3n (Nat.gcd_le_right x (by omega)) hy;rw[q0n h,q0n h,i2h n hx hy,obs,x0i (n+1) hx hl,obs,x0i (n+1) hy hl,obs,q0n (by omega),q0n (by omega)]
def n1h (a:Wd) (ms:Int):(Wd×Wd)×Int :=
 if ms=0 then (((0,0),(0,0)),12) else if wv a*1000<340282366920938463463374607431768211456 then redV (wv a*1000).toNat ms.toNat else (((0,0),(0,0)),1)
theorem k1o {a:Wd} (ha:WdOk a) {ms:Int} (hm:0<=ms/\ms<=18446744073709551615) (h:wv a*1000<340282366920938463463374607431768211456):mkW (wv a*1000)=ofN (wv a*1000).toNat/\(wv a*1000).toNat<340282366920938463463374607431768211456/\(((0:Int),ms):Wd)=ofN ms.toNat/\ms.toNat<340282366920938463463374607431768211456:=by
 obtain ⟨h1,h2⟩:=e0t ha;have e:wv a*1000=(((wv a*1000).toNat:Nat):Int):=by omega
 refine ⟨?_,by omega,?_,by omega⟩
 ·conv=>lhs;rw[e]
  exact z0t _
 ·rw[<-lo_ofN (by omega)];congr 1;omega
theorem d2q (n:Nat) {a:Wd} (ha:WdOk a) {ms:Int} (hm:0<=ms/\ms<=18446744073709551615):z0d (n+6) a ms=some (n1h a ms):=by
 rw[n1e,tfd];unfold n1h;by_cases h0:ms=0
 ·rw[q0z h0,q0z h0]
 rw[q0n h0,q0n h0,s0s (n+3) ha 1000 (by omega),obs];unfold t0v;by_cases h:wv a*1000<340282366920938463463374607431768211456
 ·obtain ⟨p1,p2,p3,p4⟩:=k1o ha hm h;rw[q0z h,q0z h];simp only[decide_true,q2s,tff];rw[y0q,obs,p1,p3,r1w n p2 p4,obs]
 ·rw[q0n h,q0n h];rfl
end Go.Proofs.YteopnkdnglpbfaaGreatDoor

namespace Go.Plim
set_option linter.unusedVariables false
def valL:List Int->Int
 | []=>0
 | x::l=>x+256*valL l
def Dig (l:List Int):Prop:=∀x∈l,0<=x/\x<=255
theorem pow256 (n:Nat):0<(256:Int)^n:=Int.pow_pos (by omega)
theorem b1y:∀(a b:List Int),valL (a++b)=valL a+256^a.length*valL b:=by
 intro a;induction a with
 | nil=>intro b;simp[valL]
 | cons x a ih =>
  intro b;simp only[List.cons_append,valL,ih,q2k];rw[Int.mul_add,<-Int.mul_assoc,<-Int.add_assoc,Int.pow_succ,Int.mul_comm 256 (256^a.length)]
theorem a2d:∀(l:List Int) (i:Nat) (v y:Int),l[i]? = some y->valL (l.set i v)=valL l+(v-y)*256^i:=by
 intro l;induction l with
 | nil=>intro i v y h;simp at h
 | cons x l ih =>
  intro i v y h;cases i with
  | zero =>
   simp at h;subst h;simp only[List.set_cons_zero,valL,Int.pow_zero,Int.mul_one];omega
  | succ i =>
   simp at h;simp only[List.set_cons_succ,valL,ih i v y h];rw[Int.mul_add,<-Int.mul_assoc,Int.mul_comm 256 (v-y),Int.mul_assoc,Int.pow_succ,Int.mul_comm 256 (256^i),Int.add_assoc]
theorem n0p:∀ {l:List Int},Dig l->0<=valL l/\valL l<256^l.length:=by
 intro l;induction l with
 | nil=>intro _;simp[valL]
 | cons x l ih =>
  intro h;obtain ⟨h1,h2⟩:=ih fun y hy=>h y (by simp[hy])
  obtain ⟨h3,h4⟩:=h x (by simp);simp only[valL,q2k,Int.pow_succ];have hp:=pow256 l.length;omega
theorem dig_app {a b:List Int}:Dig (a++b)↔Dig a/\Dig b:=by
 constructor
 ·intro h;exact ⟨fun x hx=>h x (by simp[hx]),fun x hx=>h x (by simp[hx])⟩
 ·rintro ⟨h1,h2⟩ x hx;rcases q2n.1 hx with hx | hx
  ·exact h1 x hx
  ·exact h2 x hx
theorem l2d {l:List Int} (h:Dig l) (i:Nat) {v:Int} (hv:0<=v/\v<=255):Dig (l.set i v):=by
 intro x hx;rcases List.mem_or_eq_of_mem_set hx with hx | rfl
 ·exact h x hx
 ·exact hv
theorem g2j {a c:List Int} {x y:Int} {t:List Int} (hl:a.length=c.length) (ha:Dig a) (hc:Dig c) (hxy:x<y):valL (a++x::t)<valL (c++y::t):=by
 rw[b1y,b1y,hl];obtain ⟨_,h1⟩:=n0p ha;obtain ⟨h2,_⟩:=n0p hc;rw[hl] at h1;simp only[valL];have hp:=pow256 c.length;have:(256:Int)^c.length*(x+256*valL t)+256^c.length<=256^c.length*(y+256*valL t):=by
  have e:(256:Int)^c.length*(x+256*valL t)+256^c.length=256^c.length*(x+256*valL t+1):=by rw[Int.mul_add _ (x+256*valL t) 1,Int.mul_one]
  rw[e];exact Int.mul_le_mul_of_nonneg_left (by omega) (by omega)
 omega
theorem g2i:∀ {l:List Int},Dig l->(valL l=0↔∀x∈l,x=0):=by
 intro l;induction l with
 | nil=>intro _;simp[valL]
 | cons x l ih =>
  intro h;have hl:=fun y hy=>h y (q2j x hy)
  obtain ⟨h1,_⟩:=n0p hl;obtain ⟨h3,h4⟩:=h x (by simp);simp only[valL,q2l,forall_eq_or_imp];rw[<-ih hl];omega
end Go.Plim

namespace Go.Proofs.YteopnkdnglpbfaaGreatDoor
open Go.Flat Go.Plim
set_option linter.unusedVariables false
set_option linter.unusedSimpArgs false
def FrR (x y:Nat):Prop:=y≠0/\Nat.gcd x y=1
instance (x y:Nat):Decidable (FrR x y):=inferInstanceAs (Decidable (_/\_))
def o0y (f:Wd×Wd):Prop:=FrR (wv f.1).toNat (wv f.2).toNat
instance (f:Wd×Wd):Decidable (o0y f):=inferInstanceAs (Decidable (FrR _ _))
structure FrW (f:Wd×Wd):Prop where
 n:WdOk f.1
 d:WdOk f.2
theorem FrW.nat {f:Wd×Wd} (h:FrW f):∃x y:Nat,x<340282366920938463463374607431768211456/\y<340282366920938463463374607431768211456/\f=(ofN x,ofN y):=by
 obtain ⟨x,hx,e1,_⟩:=ofN_of h.n;obtain ⟨y,hy,e2,_⟩:=ofN_of h.d;exact ⟨x,y,hx,hy,by rw[<-e1,<-e2]⟩
theorem o0p (x y:Nat):o0y (ofN x,ofN y)=FrR x y:=by
 unfold o0y;rw[t0r,t0r,q2i,q2i]
theorem u1a (g:Nat):(decide ((ofN g).1=(0:Int))&&decide ((ofN g).2=(1:Int)))=decide (g=1):=by
 rw[<-Bool.decide_and];apply q2r.2;unfold ofN;constructor
 ·rintro ⟨h1,h2⟩;simp only at h1 h2;omega
 ·rintro rfl;exact ⟨rfl,rfl⟩
theorem v0c (n:Nat) {f:Wd×Wd} (h:FrW f):e0z (n+5) f=some (if o0y f then 0 else 2):=by
 obtain ⟨x,y,hx,hy,rfl⟩:=h.nat;rw[f1w];simp only[o0p];rw[e0d,obs,tfd];by_cases hd:y=0
 ·rw[q0z hd,q0n (fun k:FrR x y=>k.1 hd)]
 rw[q0n hd,r1x n hx hy,obs,y0q,obs,tfn,u1a,tfd];by_cases hg:Nat.gcd x y=1
 ·rw[q0z hg,q0z (show FrR x y from ⟨hd,hg⟩)]
 ·rw[q0n hg,q0n (fun e:FrR x y=>hg e.2)]
def a1n (x y:Nat):Wd×Int:=if x*y<340282366920938463463374607431768211456 then (ofN (x*y),0) else ((0,0),1)
theorem j1y (x k:Nat):t0v (ofN x) (k:Int)=a1n x k:=by
 unfold t0v a1n;rw[t0r];by_cases h:x*k<340282366920938463463374607431768211456
 ·rw[q0z h,q0z (by rw[<-q3f];omega),<-q3f,z0t]
 ·rw[q0n h,q0n (by rw[<-q3f];omega)]
theorem w1a (x y:Nat):a1n x y=a1n y x:=by unfold a1n;rw[Nat.mul_comm]
theorem hi_zero (x:Nat):((ofN x).1=(0:Int))↔x<18446744073709551616:=by
 show (((x / 18446744073709551616:Nat):Int)=0)↔_;omega
theorem lo_val {x:Nat} (h:x<18446744073709551616):(ofN x).2=(x:Int):=by
 show ((x % 18446744073709551616:Nat):Int)=_;omega
theorem r0h (n:Nat) {x y:Nat} (hx:x<340282366920938463463374607431768211456) (hy:y<340282366920938463463374607431768211456):p0p (n+3) (ofN x) (ofN y)=some (a1n x y):=by
 rw[f1v];simp only[tfn,tfd,hi_zero];by_cases h1:x<18446744073709551616
 ·rw[q0z h1,q0z h1,lo_val h1,s0s n (h0b hy) _ (by omega),obs,j1y,w1a]
 rw[q0n h1];by_cases h2:y<18446744073709551616
 ·rw[q0z h2,lo_val h2,s0s n (h0b hx) _ (by omega),obs,j1y]
 ·rw[q0n h2];unfold a1n;have:18446744073709551616*18446744073709551616<=x*y:=Nat.mul_le_mul (by omega) (by omega);rw[q0n (by omega)]
def lessN (a b c d:Nat):Bool×Int :=
 if FrR a b/\FrR c d then (if a*d<340282366920938463463374607431768211456/\c*b<340282366920938463463374607431768211456 then (decide (a*d<c*b),0) else (false,1)) else (false,2)
def j1h (a b:Wd×Wd):Bool×Int:=lessN (wv a.1).toNat (wv a.2).toNat (wv b.1).toNat (wv b.2).toNat
theorem u1d (a b c d:Nat):j1h (ofN a,ofN b) (ofN c,ofN d)=lessN a b c d:=by
 unfold j1h;simp only[t0r,q2i]
theorem x1b (n:Nat) {f g:Wd×Wd} (hf:FrW f) (hg:FrW g):i0s (n+6) f g=some (j1h f g):=by
 rw[n1g,v0c n hf,obs,v0c n hg,obs];obtain ⟨a,b,ha,hb,rfl⟩:=hf.nat;obtain ⟨c,d,hc,hd,rfl⟩:=hg.nat;simp only[o0p,u1d];unfold lessN;by_cases h1:FrR a b
 case neg=>rw[q0n h1,q0n (fun e:FrR a b/\FrR c d=>h1 e.1)];rfl
 by_cases h2:FrR c d
 case neg=>rw[q0n h2,q0z h1,q0n (fun e:FrR a b/\FrR c d=>h2 e.2)];rfl
 rw[q0z h1,q0z h2,q0z ⟨h1,h2⟩];simp only[decide_true,q2s,tff];rw[r0h (n+2) ha hd,obs,r0h (n+2) hc hb,obs];unfold a1n;by_cases h3:a*d<340282366920938463463374607431768211456
 case neg=>rw[q0n h3,q0n (fun e:a*d<340282366920938463463374607431768211456/\c*b<340282366920938463463374607431768211456=>h3 e.1)];rfl
 by_cases h4:c*b<340282366920938463463374607431768211456
 case neg=>rw[q0z h3,q0n h4,q0n (fun e:a*d<340282366920938463463374607431768211456/\c*b<340282366920938463463374607431768211456=>h4 e.2)];rfl
 rw[q0z h3,q0z h4,q0z ⟨h3,h4⟩];simp only[decide_true,q2s,tff];rw[y0r (n+4) h3 h4,obs]
theorem redV_w {x y:Nat} (hx:x<340282366920938463463374607431768211456) (hy:y<340282366920938463463374607431768211456):FrW (redV x y).1/\((redV x y).2=0->o0y (redV x y).1):=by
 unfold redV;by_cases h:y=0
 ·rw[q0z h];exact ⟨⟨h0b (x:=0) (by omega),h0b (x:=0) (by omega)⟩,fun e=>by cases e⟩
 ·rw[q0n h];have hg:0<Nat.gcd x y:=Nat.gcd_pos_of_pos_right x (by omega);refine ⟨⟨h0b (q3n (q3s _ _) hx),h0b (q3n (q3s _ _) hy)⟩,fun _ => ?_⟩;simp only;rw[o0p];refine ⟨?_,Nat.gcd_div_gcd_div_gcd_of_pos_right (show 0<y by omega)⟩;have:=Nat.div_pos (Nat.gcd_le_right x (show 0<y by omega)) hg;omega
theorem rateV_w {a:Wd} (ha:WdOk a) {ms:Int} (hm:0<=ms/\ms<=18446744073709551615):FrW (n1h a ms).1/\((n1h a ms).2=0->o0y (n1h a ms).1):=by
 have hz:FrW (((0,0),(0,0)):Wd×Wd):=⟨h0b (x:=0) (by omega),h0b (x:=0) (by omega)⟩;unfold n1h;by_cases h0:ms=0
 ·rw[q0z h0];exact ⟨hz,fun e=>by cases e⟩
 rw[q0n h0];by_cases h:wv a*1000<340282366920938463463374607431768211456
 ·rw[q0z h];obtain ⟨h1,h2⟩:=e0t ha;exact redV_w (by omega) (by omega)
 ·rw[q0n h];exact ⟨hz,fun e=>by cases e⟩
theorem c0e {α:Type} {l pre rest:List α} {x:α} {i:Int} (h:l=pre++x::rest) (hi:i=pre.length):at? l i=some x:=by
 subst h hi;simp[at?]
theorem idx {α:Type} {l pre rest:List α} {x:α} {i len:Int} (h:l=pre++x::rest) (hi:i=pre.length) (hn:len=l.length):i<len:=by
 have:=congrArg List.length h;simp at this;omega
theorem idxe {α:Type} {l pre:List α} {i len:Int} (h:l=pre++[]) (hi:i=pre.length) (hn:len=l.length):¬(i<len):=by
 have:=congrArg List.length h;simp at this;omega
theorem idxw {α:Type} {l pre rest:List α} {x:α} {i:Int} (h:l=pre++x::rest) (hi:i=pre.length) (hL:l.length<=1000000000000):wrap .i64 (i+1)=i+1:=by
 have:=congrArg List.length h;simp at this;rw[w64 (by omega) (by omega)]
theorem idxs {α:Type} {pre:List α} {x:α} {i:Int} (hi:i=pre.length):i+1=((pre++[x]).length:Int):=by simp;omega
theorem idxl {α:Type} {l pre rest:List α} {x:α} (h:l=pre++x::rest):l=(pre++[x])++rest:=by rw[h];simp
theorem evEq (a b:Ev):((decide (a.1=b.1))&&((decide (a.2.1=b.2.1))&&((decide (a.2.2.1=b.2.2.1))&&(a.2.2.2==b.2.2.2))))=decide (a=b):=by
 rw[Bool.eq_iff_iff];simp[Prod.ext_iff]
theorem celEq (a b:Cel):((decide (a.1=b.1))&&((decide (a.2.1.1=b.2.1.1))&&((decide (a.2.1.2.1=b.2.1.2.1))&&((decide (a.2.1.2.2.1=b.2.1.2.2.1))&&((a.2.1.2.2.2==b.2.1.2.2.2)&&((decide (a.2.2.1.1=b.2.2.1.1))&&((decide (a.2.2.1.2.1=b.2.2.1.2.1))&&((decide (a.2.2.1.2.2.1=b.2.2.1.2.2.1))&&((a.2.2.1.2.2.2==b.2.2.1.2.2.2)&&((decide (a.2.2.2.1.1=b.2.2.2.1.1))&&((decide (a.2.2.2.1.2=b.2.2.2.1.2))&&((decide (a.2.2.2.2.1=b.2.2.2.2.1))&&((decide (a.2.2.2.2.2.1=b.2.2.2.2.2.1))&&(decide (a.2.2.2.2.2.2=b.2.2.2.2.2.2)))))))))))))))=decide (a=b):=by
 rw[Bool.eq_iff_iff];simp[Prod.ext_iff];grind
theorem celEq0 (a:Cel):((decide (a.1=(0:Int)))&&((decide (a.2.1.1=(0:Int)))&&((decide (a.2.1.2.1=(0:Int)))&&((decide (a.2.1.2.2.1=(0:Int)))&&((a.2.1.2.2.2==false)&&((decide (a.2.2.1.1=(0:Int)))&&((decide (a.2.2.1.2.1=(0:Int)))&&((decide (a.2.2.1.2.2.1=(0:Int)))&&((a.2.2.1.2.2.2==false)&&((decide (a.2.2.2.1.1=(0:Int)))&&((decide (a.2.2.2.1.2=(0:Int)))&&((decide (a.2.2.2.2.1=(0:Int)))&&((decide (a.2.2.2.2.2.1=(0:Int)))&&(decide (a.2.2.2.2.2.2=(0:Int))))))))))))))))=decide (a=z0):=celEq a z0
def I64 (x:Int):Prop := -9223372036854775808<=x/\x<=9223372036854775807
structure EvW (e:Ev):Prop where
 t:I64 e.1
 v:0<=e.2.1/\e.2.1<=18446744073709551615
 c:I64 e.2.2.1
structure CelW (c:Cel):Prop where
 n:I64 c.1
 f:EvW c.2.1
 l:EvW c.2.2.1
 w:WdOk c.2.2.2.1
 r:I64 c.2.2.2.2.1
 g:I64 c.2.2.2.2.2.1
 s:I64 c.2.2.2.2.2.2
theorem EvW.of {e:Ev} (h:EvOk e):EvW e:=by
 obtain ⟨a,b,c,d,f,g,_⟩:=h;exact ⟨by unfold I64;omega,⟨c,d⟩,by unfold I64;omega⟩
theorem CelW.ofN {c:Cel} (h:CellN c):CelW c:=by
 have:=h.small;have:=h.n1;have:=h.f.t0;have:=h.f.t1;have:=h.l.t0;have:=h.l.t1;have:=h.r;have:=h.g;have:=h.rg;have:=h.s0;have:=h.s1;exact ⟨by unfold I64;omega,.of h.f,.of h.l,h.w,by unfold I64;omega,by unfold I64;omega,by unfold I64;omega⟩
theorem v0o:CelW z0:=⟨by simp[I64,z0],⟨by simp[I64,z0,e0],by simp[z0,e0],by simp[I64,z0,e0]⟩,⟨by simp[I64,z0,e0],by simp[z0,e0],by simp[I64,z0,e0]⟩,⟨by simp[z0],by simp[z0]⟩,by simp[I64,z0],by simp[I64,z0],by simp[I64,z0]⟩
theorem CelW.of {c:Cel} (h:c0g c):CelW c:=by
 rcases h with rfl | h
 ·exact v0o
 ·exact .ofN h
def sumW (l:List Wd):Int:=(l.map wv).sum
theorem g2u {l:List Wd} (h:∀x∈l,WdOk x):0<=sumW l:=by
 induction l with
 | nil=>simp[sumW]
 | cons x l ih =>
  have:=ih fun y hy=>h y (by simp[hy])
  have:=e0t (h x (by simp));simp only[sumW,q3h,List.sum_cons] at *
  omega
theorem c2l (n:Nat) (s2:Wd) (l:List Wd) (hL:l.length<=1000000000000) (hok:∀x∈l,WdOk x):∀(rest pre:List Wd) (f:Nat) (a:Wd) (i len:Int),l=pre++rest->i=pre.length->len=l.length->rest.length<f->WdOk a->wv a+sumW rest<340282366920938463463374607431768211456 ->
  o0z (n+2) f (s2,a,l,len,i,())=some (.inl (s2,mkW (wv a+sumW rest),())):=by
 intro rest;induction rest with
 | nil =>
  intro pre f a i len hl hi hn hf ha hs;obtain ⟨f,rfl⟩:∃g,f=g+1:=⟨f-1,by simp at hf;omega⟩;rw[t0t];have:=idxe hl hi hn;simp only[tfd,q0n this,sumW,List.map_nil,List.sum_nil,Int.add_zero,k1y ha]
 | cons x rest ih =>
  intro pre f a i len hl hi hn hf ha hs;obtain ⟨f,rfl⟩:∃g,f=g+1:=⟨f-1,by simp at hf;omega⟩;rw[t0t];have hlt:=idx hl hi hn;have hxo:WdOk x:=hok x (by rw[hl];simp);have hr:=g2u (l:=rest) fun y hy=>hok y (by rw[hl];simp[hy])
  have hx:=e0t hxo;have hb:=e0t ha;have es:sumW (x::rest)=wv x+sumW rest:=by simp[sumW]
  rw[es] at hs;have ew:addW a x=(mkW (wv a+wv x),0):=q0z (by omega);simp only[tfd,tfn,q0z hlt,c0e hl hi,obs,wide_add n ha hxo,ew,q0z trivial];rw[idxw hl hi hL];rw[ih (pre++[x]) f (mkW (wv a+wv x)) (i+1) len (idxl hl) (idxs hi) hn (by simp at hf;omega) (x0y (by omega) (by omega)) (by rw[t0s];omega),t0s,es];rw[show wv a+wv x+sumW rest=wv a+(wv x+sumW rest) by omega]
theorem wide_sum (n:Nat) (l:List Wd) (hL:l.length<=1000000000000) (hok:∀x∈l,WdOk x) (hs:sumW l<340282366920938463463374607431768211456):l1s (n+3) l=some (mkW (sumW l),0):=by
 rw[v1s,c2l n (0,0) l hL hok l [] a0b (0,0) 0 l.length rfl rfl rfl (by unfold a0b;omega) ⟨by simp,by simp⟩ (by simpa [c1r] using hs)];simp[c1r]
theorem i2i (n:Nat) (s2:Wd) (l:List Wd) (hL:l.length<=1000000000000) (hok:∀x∈l,WdOk x):∀(rest pre:List Wd) (f:Nat) (a:Wd) (i len:Int),l=pre++rest->i=pre.length->len=l.length->rest.length<f->WdOk a->wv a+sumW rest<340282366920938463463374607431768211456 ->
  t0g (n+2) f (s2,a,l,len,i,())=some (.inl (s2,mkW (wv a+sumW rest),())):=by
 intro rest;induction rest with
 | nil =>
  intro pre f a i len hl hi hn hf ha hs;obtain ⟨f,rfl⟩:∃g,f=g+1:=⟨f-1,by simp at hf;omega⟩;rw[x0j];have:=idxe hl hi hn;simp only[tfd,q0n this,sumW,List.map_nil,List.sum_nil,Int.add_zero,k1y ha]
 | cons x rest ih =>
  intro pre f a i len hl hi hn hf ha hs;obtain ⟨f,rfl⟩:∃g,f=g+1:=⟨f-1,by simp at hf;omega⟩;rw[x0j];have hlt:=idx hl hi hn;have hxo:WdOk x:=hok x (by rw[hl];simp);have hr:=g2u (l:=rest) fun y hy=>hok y (by rw[hl];simp[hy])
  have hx:=e0t hxo;have hb:=e0t ha;have es:sumW (x::rest)=wv x+sumW rest:=by simp[sumW]
  rw[es] at hs;have ew:addW a x=(mkW (wv a+wv x),0):=q0z (by omega);simp only[tfd,tfn,q0z hlt,c0e hl hi,obs,z0j n ha hxo,ew,q0z trivial];rw[idxw hl hi hL];rw[ih (pre++[x]) f (mkW (wv a+wv x)) (i+1) len (idxl hl) (idxs hi) hn (by simp at hf;omega) (x0y (by omega) (by omega)) (by rw[t0s];omega),t0s,es];rw[show wv a+wv x+sumW rest=wv a+(wv x+sumW rest) by omega]
theorem r01_sum (n:Nat) (l:List Wd) (hL:l.length<=1000000000000) (hok:∀x∈l,WdOk x) (hs:sumW l<340282366920938463463374607431768211456):y1l (n+3) l=some (mkW (sumW l),0):=by
 rw[e2j,i2i n (0,0) l hL hok l [] a0b (0,0) 0 l.length rfl rfl rfl (by unfold a0b;omega) ⟨by simp,by simp⟩ (by simpa [c1r] using hs)];simp[c1r]
theorem g1f (n:Nat) (s4 out:Wd):∀(k f:Nat) (m:Int) (a:Wd),m<=k->k<f->0<m->m<=18446744073709551615->WdOk a->d0m (n+2) f (m,a,s4,out,true,())=some (.inr ((0,0),1)):=by
 intro k;induction k with
 | zero=>intro f m a h1 h2 h3;omega
 | succ k ih =>
  intro f m a h1 h2 h3 h4 ha;obtain ⟨f,rfl⟩:∃g,f=g+1:=⟨f-1,by omega⟩;rw[h0x];simp only[tfd,q0z h3,e0w (a:=m) (by omega),tft];by_cases c:m % 2=1
  ·rw[q0z c]
  ·rw[q0n c,z0j n ha ha];simp only[obs];rw[i0k (by omega),wu64 (by omega) (by omega)];exact ih f (m / 2) (addW a a).1 (by omega) (by omega) (by omega) (by omega) (by
    unfold addW;have:=e0t ha;split
    ·exact x0y (by omega) (by omega)
    ·exact ⟨by simp,by simp⟩)
theorem y1k (n:Nat) (s4:Wd):∀(k f:Nat) (m:Int) (a out:Wd),m<=k->k<f->0<=m->m<=18446744073709551615->WdOk a->WdOk out->∀p,p=wv a*m ->
  d0m (n+2) f (m,a,s4,out,false,())=some (if wv out+p<340282366920938463463374607431768211456 then .inl (s4,mkW (wv out+p),()) else .inr ((0,0),1)):=by
 intro k;induction k with
 | zero =>
  intro f m a out h1 h2 h3 h4 ha ho p hp;obtain ⟨f,rfl⟩:∃g,f=g+1:=⟨f-1,by omega⟩;obtain rfl:m=0:=by omega
  rw[h0x];have:=e0t ho;rw[Int.mul_zero] at hp;subst hp;simp only[tfd,q0n (show ¬((0:Int)<0) by omega),Int.add_zero];rw[q0z (by omega),k1y ho]
 | succ k ih =>
  intro f m a out h1 h2 h3 h4 ha ho p hp;obtain ⟨f,rfl⟩:∃g,f=g+1:=⟨f-1,by omega⟩;rw[h0x];have ra:=e0t ha;have ro:=e0t ho;by_cases h0:0<m
  ·have hp0:0<=p:=by rw[hp];exact Int.mul_nonneg ra.1 h3
   have hq:wv a*m=2*(wv a*(m / 2))+wv a*(m % 2):=by
    have e:m=2*(m / 2)+m % 2:=by omega
    conv=>lhs;rw[e,Int.mul_add,Int.mul_left_comm]
   have hq0:0<=wv a*(m / 2):=Int.mul_nonneg ra.1 (by omega);have hq1:1<=m / 2->wv a<=wv a*(m / 2):=fun h=>by
    have:=Int.mul_le_mul_of_nonneg_left h ra.1;omega
   have hz:m / 2=0->wv a*(m / 2)=0:=fun h=>by rw[h,Int.mul_zero]
   rw[<-hp] at hq;have next:∀out':Wd,WdOk out'->a0a (some (addW a a)) (fun r1=>tif false (d0m (n+2) f (wrap .u64 (Int.tdiv m 2),r1.1,s4,out',true,())) (d0m (n+2) f (wrap .u64 (Int.tdiv m 2),r1.1,s4,out',!(decide (r1.2=(0:Int))),()))) =
     some (if wv out'+2*(wv a*(m / 2))<340282366920938463463374607431768211456 then .inl (s4,mkW (wv out'+2*(wv a*(m / 2))),()) else .inr ((0,0),1)):=by
    intro out' ho';have ro':=e0t ho';rw[i0k (by omega),wu64 (by omega) (by omega)];simp only[obs,tff];by_cases hov:wv a+wv a<340282366920938463463374607431768211456
    ·have ew:addW a a=(mkW (wv a+wv a),0):=q0z hov;rw[ew];have:=ih f (m / 2) (mkW (wv a+wv a)) out' (by omega) (by omega) (by omega) (by omega) (x0y (by omega) hov) ho' (2*(wv a*(m / 2))) (by rw[t0s,<-Int.two_mul,Int.mul_assoc])
     simpa using this
    ·have ew:addW a a=((0,0),1):=q0n hov;rw[ew];by_cases hm:0<m / 2
     ·have:=g1f n s4 out' k f (m / 2) (0,0) (by omega) (by omega) hm (by omega) ⟨by simp,by simp⟩;have:=hq1 (by omega);rw[q0n (by omega)]
      simpa using by assumption
     ·obtain ⟨f,rfl⟩:∃g,f=g+1:=⟨f-1,by omega⟩;have e0:m / 2=0:=by omega
      rw[hz e0,e0,h0x];simp only[tfd,q0n (show ¬((0:Int)<0) by omega),Int.mul_zero,Int.add_zero];rw[q0z (by omega),k1y ho']
   simp only[tfd,q0z h0,e0w (a:=m) (by omega),tff];by_cases c:m % 2=1
   ·rw[q0z c,z0j n ho ha];rw[c,Int.mul_one] at hq;by_cases hov:wv out+wv a<340282366920938463463374607431768211456
    ·have ew:addW out a=(mkW (wv out+wv a),0):=q0z hov;rw[ew];have:=next (mkW (wv out+wv a)) (x0y (by omega) hov);rw[t0s] at this;rw[z0j n ha ha];simp only[tff] at this;simp only[obs,tfn,tfd,q0z trivial,tff] at this ⊢;rw[this,hq];rw[show wv out+(2*(wv a*(m / 2))+wv a)=wv out+wv a+2*(wv a*(m / 2)) by omega]
    ·have ew:addW out a=((0,0),1):=q0n hov;rw[ew];simp only[obs,tfn,tfd];rw[q0n (by decide),q0n (by omega)]
   ·rw[q0n c,z0j n ha ha];have c0:m % 2=0:=by omega
    rw[c0,Int.mul_zero,Int.add_zero] at hq;have:=next out ho;simp only[tff] at this;simp only[obs] at this ⊢;rw[this,hq]
  ·obtain rfl:m=0:=by omega
   rw[Int.mul_zero] at hp;subst hp;simp only[tfd,q0n (show ¬((0:Int)<0) by omega),Int.add_zero];rw[q0z (by omega),k1y ho]
theorem t1c (n:Nat) {a:Wd} (ha:WdOk a) (k:Int) (hk:0<=k/\k<=18446744073709551615):l0y (n+3) a k=some (t0v a k):=by
 rw[t1f,y1k n (0,0) 18446744073709551615 a0b k a (0,0) (by omega) (by unfold a0b;omega) hk.1 hk.2 ha ⟨by simp,by simp⟩ _ rfl];simp only[c1r,Int.zero_add,obs];unfold t0v;by_cases h:wv a*k<340282366920938463463374607431768211456
 ·rw[q0z h,q0z h];simp
 ·rw[q0n h,q0n h];simp
theorem v0i (n:Nat) {e:Ev} (h:EvW e):m0c (n+1) e=some (if EvOk e then 0 else 2):=by
 obtain ⟨_,hv,_⟩:=h;rw[j1o];simp only[tfd];by_cases h1:e.1<0
 ·rw[q0z h1,q0n (fun k=>by have:=k.t0;omega)]
 by_cases h2:(35184372088832:Int)<=e.1
 ·rw[q0n h1,q0z h2,q0n (fun k=>by have:=k.t1;omega)]
 by_cases h3:e.2.2.1<0
 ·rw[q0n h1,q0n h2,q0z h3,q0n (fun k=>by have:=k.c0;omega)]
 by_cases h4:e.1<e.2.2.1
 ·rw[q0n h1,q0n h2,q0n h3,q0z h4,q0n (fun k=>by have:=k.c1;omega)]
 rw[q0n h1,q0n h2,q0n h3,q0n h4];cases h5:e.2.2.2 with
 | false =>
  rw[tff,q0z ⟨by omega,by omega,hv.1,hv.2,by omega,by omega,fun k=>by rw[h5] at k;cases k⟩]
 | true =>
  rw[tft];by_cases h6:e.2.1=0/\e.2.2.1=0
  ·rw[q0z ⟨by omega,by omega,hv.1,hv.2,by omega,by omega,fun _=>h6⟩];simp[h6]
  ·rw[q0n (fun k=>h6 (k.st h5))];by_cases h7:e.2.1=0
   ·have h8:¬(e.2.2.1=0):=fun k=>h6 ⟨h7,k⟩
    simp[h7,h8]
   ·simp[h7]
theorem r0y (n:Nat) {e:Ev} (h:EvW e):l0u (n+1) e=some (if EvOk e then 0 else 2):=by
 obtain ⟨_,hv,_⟩:=h;rw[s1v];simp only[tfd,tfn];by_cases h1:e.1<0
 ·rw[q0z h1,q0n (fun k=>by have:=k.t0;omega)]
 by_cases h2:(35184372088832:Int)<=e.1
 ·rw[q0n h1,q0z h2,q0n (fun k=>by have:=k.t1;omega)]
 by_cases h3:e.2.2.1<0
 ·rw[q0n h1,q0n h2,q0z h3,q0n (fun k=>by have:=k.c0;omega)]
 by_cases h4:e.1<e.2.2.1
 ·rw[q0n h1,q0n h2,q0n h3,q0z h4,q0n (fun k=>by have:=k.c1;omega)]
 rw[q0n h1,q0n h2,q0n h3,q0n h4];cases h5:e.2.2.2 with
 | false =>
  rw[tff,q0z ⟨by omega,by omega,hv.1,hv.2,by omega,by omega,fun k=>by rw[h5] at k;cases k⟩]
 | true =>
  rw[tft];by_cases h6:e.2.1=0/\e.2.2.1=0
  ·rw[q0z h6.1,q0z h6.2,q0z ⟨by omega,by omega,hv.1,hv.2,by omega,by omega,fun _=>h6⟩]
  ·by_cases h7:e.2.1=0
   ·have h8:¬(e.2.2.1=0):=fun k=>h6 ⟨h7,k⟩
    rw[q0z h7,q0n h8,q0n (fun k=>h6 (k.st h5))]
   ·rw[q0n h7,q0n (fun k=>h6 (k.st h5))]
theorem zif (p:Prop) [Decidable p]:decide ((if p then (0:Int) else 2)=0)=decide p:=by by_cases h:p<;>simp[h]
theorem p1i (n:Nat) (l:List Ev) (hL:l.length<=1000000000000) (hw:∀e∈l,EvW e):∀(rest pre:List Ev) (f:Nat) (i len:Int),l=pre++rest->i=pre.length->len=l.length->rest.length<f ->
  j0e (n+1) f (l,len,i,())=some (if ∀e∈rest,EvOk e then .inl () else .inr false):=by
 intro rest;induction rest with
 | nil =>
  intro pre f i len hl hi hn hf;obtain ⟨f,rfl⟩:∃g,f=g+1:=⟨f-1,by simp at hf;omega⟩;rw[o0q];have:=idxe hl hi hn;simp[tfd,q0n this]
 | cons x rest ih =>
  intro pre f i len hl hi hn hf;obtain ⟨f,rfl⟩:∃g,f=g+1:=⟨f-1,by simp at hf;omega⟩;rw[o0q];have hlt:=idx hl hi hn;have hx:EvW x:=hw x (by rw[hl];simp);simp only[tfd,tfn,q0z hlt,c0e hl hi,obs,v0i n hx,idxw hl hi hL];by_cases ho:EvOk x
  ·rw[q0z ho,q0z rfl,ih (pre++[x]) f (i+1) len (idxl hl) (idxs hi) hn (by simp at hf;omega)];have e:(∀e∈x::rest,EvOk e)↔(∀e∈rest,EvOk e):=by simp[ho]
   by_cases hr:∀e∈rest,EvOk e
   ·rw[q0z hr,q0z (e.2 hr)]
   ·rw[q0n hr,q0n (fun k=>hr (e.1 k))]
  ·have h2:¬(∀e∈x::rest,EvOk e):=fun k=>ho (k x (by simp))
   rw[q0n ho,q0n (by decide),q0n h2]
theorem e1v (n:Nat) (l:List Ev) (hL:l.length<=1000000000000) (hw:∀e∈l,EvW e):m0b (n+2) l=some (decide (∀e∈l,EvOk e)):=by
 rw[j1n,p1i n l hL hw l [] a0b 0 l.length rfl rfl rfl (by unfold a0b;omega)];by_cases h:∀e∈l,EvOk e
 ·rw[q0z h,q2a h];simp
 ·rw[q0n h,q1z h];simp
theorem b1d (n:Nat) {p c:Ev} (hp:EvW p) (hc:EvW c):m0b (n+2) [p,c]=some (decide (EvOk p/\EvOk c)):=by
 rw[e1v n [p,c] (by simp) (by simp[hp,hc])];simp
theorem b1e (n:Nat) {p c:Ev} (hp:EvW p) (hc:EvW c):m0r (n+3) p c=some (decide (EvOk p/\EvOk c/\p.1<c.1)):=by
 rw[e1w,b1d n hp hc];by_cases h:EvOk p/\EvOk c
 ·simp[h.1,h.2]
 ·have h2:¬(EvOk p/\EvOk c/\p.1<c.1):=fun k=>h ⟨k.1,k.2.1⟩
  rw[q1z h,q1z h2];simp
def p1t (d:Int×(Int×(Int×Int))):Cel:=(0,(e0,(e0,((0,d.1),(d.2.1,(d.2.2.1,d.2.2.2))))))
theorem u0u (n:Nat) (c:Ev) (s:Int):t0l (n+2) c s=some (p1t (c.2.1,1,0,s)):=by
 rw[p1k,y0q];rfl
theorem p1j (n:Nat) {p c:Ev} (hp:EvOk p) (hc:EvOk c):q0k (n+3) p c=some (if p.1<c.1 then (p1t (btw p c),0) else (z0,9)):=by
 rw[b1u,b1d n (.of hp) (.of hc),q2a ⟨hp,hc⟩];simp only[obs,q2s,tff,tfd];by_cases h:p.1<c.1
 ·have h':¬(c.1<=p.1):=by omega
  rw[q0n h',q0z h];obtain ⟨a1,a2,a3,a4,a5,a6,a7⟩:=hp;obtain ⟨b1,b2,b3,b4,b5,b6,b7⟩:=hc;unfold btw;cases k1:c.2.2.2 with
  | true=>rw[tft,q0z rfl];rfl
  | false =>
   rw[tff,q0n Bool.false_ne_true];by_cases k2:p.1<c.2.2.1
   ·rw[q0z k2,q0z k2,u0u,w64 (by omega) (by omega)];rfl
   rw[q0n k2,q0n k2];cases k3:p.2.2.2 with
   | true=>rw[tft,q0z rfl];rfl
   | false =>
    rw[tff,q0n Bool.false_ne_true];by_cases k4:c.2.1<p.2.1
    ·rw[q0z k4,q0z k4,u0u,w64 (by omega) (by omega)];rfl
    ·rw[q0n k4,q0n k4,y0q,w64 (by omega) (by omega),wu64 (by omega) (by omega)];rfl
 ·rw[q0z (by omega),q0n h];rfl
theorem y1b (n:Nat) {p c:Ev} (hp:EvOk p) (hc:EvOk c):v0e (n+2) p c=some (if p.1<c.1 then (p1t (btw p c),0) else (z0,9)):=by
 rw[g1d,r0y n (.of hp),r0y n (.of hc)];simp only[obs,q0z hp,q0z hc,tfn,tfd,q0z trivial];by_cases h:p.1<c.1
 ·have h':¬(c.1<=p.1):=by omega
  rw[q0n h',q0z h];obtain ⟨a1,a2,a3,a4,a5,a6,a7⟩:=hp;obtain ⟨b1,b2,b3,b4,b5,b6,b7⟩:=hc;unfold btw;cases k1:c.2.2.2 with
  | true=>rw[tft,q0z rfl];rfl
  | false =>
   rw[tff,q0n Bool.false_ne_true];by_cases k2:p.1<c.2.2.1
   ·rw[q0z k2,q0z k2,w64 (by omega) (by omega)];rfl
   rw[q0n k2,q0n k2];cases k3:p.2.2.2 with
   | true=>rw[tft,q0z rfl];rfl
   | false =>
    rw[tff,q0n Bool.false_ne_true];by_cases k4:c.2.1<p.2.1
    ·rw[q0z k4,q0z k4,w64 (by omega) (by omega)];rfl
    ·rw[q0n k4,q0n k4,w64 (by omega) (by omega),wu64 (by omega) (by omega)];rfl
 ·rw[q0z (by omega),q0n h];rfl
theorem q0m (n:Nat) (c:Cel):s0p (n+1) c=some (decide (c=z0)):=by rw[v1j,celEq0]
theorem z1u (n:Nat) (x m:Int):f1c (n+1) x m=some (decide (0<=x/\x<=m)):=by
 rw[f2w];by_cases h1:(0:Int)<=x<;>by_cases h2:x<=m<;>simp[h1,h2]
def v1q (c:Cel):Prop:=(c.1=1/\c.2.1=c.2.2.1/\EvOk c.2.1)\/(1<c.1/\EvOk c.2.1/\EvOk c.2.2.1/\c.2.1.1<c.2.2.1.1/\c.1-1<=c.2.2.1.1-c.2.1.1)
instance (c:Cel):Decidable (v1q c):=by unfold v1q;infer_instance
theorem j1s (n:Nat) {c:Cel} (hw:CelW c):a1e (n+4) c=some (decide (v1q c)):=by
 rw[q1a,evEq];simp only[tfd];by_cases h1:c.1=1
 ·rw[q0z h1];by_cases h2:c.2.1=c.2.2.1
  ·rw[q0z h2,v0i _ hw.f];simp only[obs,zif];congr 1;refine q2r.2 ⟨fun h => .inl ⟨h1,h2,h⟩,fun h => ?_⟩;rcases h with h | h
   ·exact h.2.2
   ·exact h.2.1
  ·rw[q0n h2,q1z];rintro (h | h)
   ·exact h2 h.2.1
   ·omega
 ·rw[q0n h1];by_cases h2:1<c.1
  ·rw[q0z h2,b1e _ hw.f hw.l];simp only[obs,tfd];by_cases h3:EvOk c.2.1/\EvOk c.2.2.1/\c.2.1.1<c.2.2.1.1
   ·rw[q0z h3];obtain ⟨h3,h4,h5⟩:=h3;have:=hw.n;unfold I64 at this;have:=h3.t0;have:=h4.t1;have:=h3.t1;have:=h4.t0;rw[w64 (by omega) (by omega),w64 (by omega) (by omega)];congr 1;refine q2r.2 ⟨fun h => .inr ⟨h2,h3,h4,h5,h⟩,fun h => ?_⟩;rcases h with h | h
    ·omega
    ·exact h.2.2.2.2
   ·rw[q0n h3,q1z];rintro (h | h)
    ·omega
    ·exact h3 ⟨h.2.1,h.2.2.1,h.2.2.2.1⟩
  ·rw[q0n h2,q1z];rintro (h | h)<;>omega
theorem CellN.spans {c:Cel} (h:CellN c):v1q c:=by
 by_cases h1:c.1=1
 ·exact .inl ⟨h1,h.one h1,h.f⟩
 ·have:=h.n1;exact .inr ⟨by omega,h.f,h.l,h.more (by omega),h.n2⟩
theorem c2a {c:Cel} (hw:CelW c) (hs:v1q c) (hi:wv c.2.2.2.1<=18446744073709551615*(c.1-1)) (hr:0<=c.2.2.2.2.1) (hg:0<=c.2.2.2.2.2.1) (hrg:c.2.2.2.2.1+c.2.2.2.2.2.1<=c.1-1)
  (h0:0<=c.2.2.2.2.2.2) (h1:c.2.2.2.2.2.2<=c.2.2.1.1-c.2.1.1):CellN c:=by
 rcases hs with ⟨a,b,d⟩ | ⟨a,b,d,e,f⟩
 ·exact ⟨by omega,d,b ▸ d,fun _=>b,fun h=>by omega,by rw[b];omega,hw.w,hi,hr,hg,hrg,h0,h1⟩
 ·exact ⟨by omega,b,d,fun h=>by omega,fun _=>e,f,hw.w,hi,hr,hg,hrg,h0,h1⟩
theorem w1n {c:Cel} (h:v1q c):1<=c.1/\c.1<=35184372088832/\0<=c.2.2.1.1-c.2.1.1/\c.2.2.1.1-c.2.1.1<=35184372088832:=by
 rcases h with ⟨a,b,d⟩ | ⟨a,b,d,e,f⟩
 ·rw[b];have:=d.t0;omega
 ·have:=b.t0;have:=d.t1;omega
theorem j1x {k:Int} (h:0<=k/\k<=35184372088832):t0v (0,18446744073709551615) k=(mkW (18446744073709551615*k),0):=by
 unfold t0v;rw[show wv (0,18446744073709551615)=18446744073709551615 from rfl,q0z (by omega)]
theorem a1f (n:Nat) {c:Cel} (hw:CelW c):o0t (n+5) c=some (if c0g c then 0 else 2):=by
 rw[q1c,q0m,j1s n hw];simp only[obs,tfd,tfn];by_cases h0:c=z0
 ·rw[q0z h0,q0z (.inl h0)]
 rw[q0n h0];by_cases hs:v1q c
 ·rw[q0z hs];obtain ⟨s1,s2,s3,s4⟩:=w1n hs;have hg:=hw.g;have hr:=hw.r;have hse:=hw.s;unfold I64 at hg hr hse;have hmw:WdOk (mkW (18446744073709551615*(c.1-1))):=x0y (by omega) (by omega);rw[y0q,w64 (x:=c.1-1) (by omega) (by omega),wu64 (by omega) (by omega)];simp only[obs];rw[s0s (n+2) ⟨by simp,by simp⟩ _ (by omega),j1x (by omega)];simp only[obs,q0z trivial,q1m (n+3) hmw hw.w,t0s,z1u,tfd];by_cases c1:18446744073709551615*(c.1-1)<wv c.2.2.2.1
  ·rw[q0z c1,q0n (fun k=>by have:=(k.n h0).inc;omega)]
  rw[q0n c1];by_cases c2:0<=c.2.2.2.2.2.1/\c.2.2.2.2.2.1<=c.1-1
  ·rw[q0z c2,w64 (by omega) (by omega)];by_cases c3:0<=c.2.2.2.2.1/\c.2.2.2.2.1<=c.1-1-c.2.2.2.2.2.1
   ·rw[q0z c3,w64 (by omega) (by omega)];by_cases c4:0<=c.2.2.2.2.2.2/\c.2.2.2.2.2.2<=c.2.2.1.1-c.2.1.1
    ·rw[q0z c4,q0z (.inr (c2a hw hs (by omega) c3.1 c2.1 (by omega) c4.1 c4.2))]
    ·rw[q0n c4,q0n (fun k=>c4 ⟨(k.n h0).s0,(k.n h0).s1⟩)]
   ·rw[q0n c3,q0n (fun k=>c3 (by have:=(k.n h0).r;have:=(k.n h0).rg;omega))]
  ·rw[q0n c2,q0n (fun k=>c2 (by have:=(k.n h0).r;have:=(k.n h0).g;have:=(k.n h0).rg;omega))]
 ·rw[q0n hs,q0n (fun k=>hs (CellN.spans (k.n h0)))]
theorem d1y (n:Nat) {c:Cel} (hw:CelW c):r0x (n+4) c=some (if c0g c then 0 else 2):=by
 rw[s1u,evEq,celEq0,r0y _ hw.f,r0y _ hw.l];simp only[obs,tfd,tfn];by_cases h0:c=z0
 ·rw[q0z h0,q0z (.inl h0)]
 rw[q0n h0];have no:∀ {p:Prop},(CellN c->p)->¬p->(if c0g c then (0:Int) else 2)=2:=fun h h'=>q0n (fun k=>h' (h (k.n h0)))
 by_cases c1:c.1<1
 ·rw[q0z c1,no (fun k=>k.n1) (by omega)]
 rw[q0n c1];by_cases c2:EvOk c.2.1
 case neg=>rw[q0n c2,q0n (by decide),no (fun k=>k.f) c2]
 by_cases c3:EvOk c.2.2.1
 case neg=>rw[q0z c2,q0z rfl,q0n c3,q0n (by decide),no (fun k=>k.l) c3]
 rw[q0z c2,q0z rfl,q0z c3,q0z rfl];have t0:=c2.t0;have t1:=c2.t1;have t2:=c3.t0;have t3:=c3.t1;by_cases c4:c.2.2.1.1<c.2.1.1
 ·rw[q0z c4,no (fun k=>k.ft) (by omega)]
 rw[q0n c4,w64 (x:=c.2.2.1.1-c.2.1.1) (by omega) (by omega),w64 (x:=c.2.2.1.1-c.2.1.1+1) (by omega) (by omega)];by_cases c5:c.2.2.1.1-c.2.1.1+1<c.1
 ·rw[q0z c5,no (fun k=>k.n2) (by omega)]
 rw[q0n c5];have hg:=hw.g;have hr:=hw.r;have hse:=hw.s;unfold I64 at hg hr hse;have hmw:WdOk (mkW (18446744073709551615*(c.1-1))):=x0y (by omega) (by omega);rw[w64 (x:=c.1-1) (by omega) (by omega),wu64 (by omega) (by omega),t1c n (a:=(0,18446744073709551615)) ⟨by simp,by simp⟩ _ (by omega),j1x (by omega)];simp only[obs,a2o (n+1) hmw hw.w,t0s,tfd];have tail:v1q c->(if c.2.2.2.2.1<0 then some (2:Int) else if c.2.2.2.2.2.1<0 then some 2 else if c.2.2.2.2.2.2<0 then some 2 else if c.1<=c.2.2.2.2.1 then some 2 else if c.1<=c.2.2.2.2.2.1 then some 2
   else if c.1<=wrap .i64 (c.2.2.2.2.1+c.2.2.2.2.2.1) then some 2 else if c.2.2.1.1-c.2.1.1<c.2.2.2.2.2.2 then some 2 else if 18446744073709551615*(c.1-1)<wv c.2.2.2.1 then some 2 else some 0)=some (if c0g c then 0 else 2):=by
  intro hs;by_cases d1:c.2.2.2.2.1<0
  ·rw[q0z d1,no (fun k=>k.r) (by omega)]
  by_cases d2:c.2.2.2.2.2.1<0
  ·rw[q0n d1,q0z d2,no (fun k=>k.g) (by omega)]
  by_cases d3:c.2.2.2.2.2.2<0
  ·rw[q0n d1,q0n d2,q0z d3,no (fun k=>k.s0) (by omega)]
  by_cases d4:c.1<=c.2.2.2.2.1
  ·rw[q0n d1,q0n d2,q0n d3,q0z d4,no (fun k=>k.rg) (by omega)]
  by_cases d5:c.1<=c.2.2.2.2.2.1
  ·rw[q0n d1,q0n d2,q0n d3,q0n d4,q0z d5,no (fun k=>k.rg) (by omega)]
  rw[q0n d1,q0n d2,q0n d3,q0n d4,q0n d5,w64 (x:=c.2.2.2.2.1+c.2.2.2.2.2.1) (by omega) (by omega)];by_cases d6:c.1<=c.2.2.2.2.1+c.2.2.2.2.2.1
  ·rw[q0z d6,no (fun k=>k.rg) (by omega)]
  by_cases d7:c.2.2.1.1-c.2.1.1<c.2.2.2.2.2.2
  ·rw[q0n d6,q0z d7,no (fun k=>k.s1) (by omega)]
  by_cases d8:18446744073709551615*(c.1-1)<wv c.2.2.2.1
  ·rw[q0n d6,q0n d7,q0z d8,no (fun k=>k.inc) (by omega)]
  ·rw[q0n d6,q0n d7,q0n d8,q0z (.inr (c2a hw hs (by omega) (by omega) (by omega) (by omega) (by omega) (by omega)))]
 by_cases c6:c.1=1
 ·rw[q0z c6];by_cases c7:c.2.1=c.2.2.1
  ·rw[q0z c7,q0n (show ¬(1<c.1) by omega)];exact tail (.inl ⟨c6,c7,c2⟩)
  ·rw[q0n c7,no (fun k=>k.one c6) c7]
 ·rw[q0n c6];have c8:1<c.1:=by omega
  rw[q0z c8];by_cases c9:c.2.1.1=c.2.2.1.1
  ·rw[q0z c9,no (fun k=>k.more c8) (by omega)]
  ·rw[q0n c9];exact tail (.inr ⟨c8,c2,c3,by omega,by omega⟩)
theorem z02 (p:Prop) [Decidable p]:((if p then (0:Int) else 2)=0)↔p:=by by_cases h:p<;>simp[h]
theorem q1h {a b:Cel} (ha:a≠z0) (hb:b≠z0):Ahead a b↔a.2.2.1.1<b.2.1.1:=⟨fun h=>(h.resolve_left ha).resolve_left hb,fun h => .inr (.inr h)⟩
theorem l1a {a b:Cel} (na:CellN a) (nb:CellN b) (h:a.2.2.1.1<b.2.1.1) :
  (∀x∈[a.2.2.2.1,(p1t (btw a.2.2.1 b.2.1)).2.2.2.1,b.2.2.2.1],WdOk x)/\sumW [a.2.2.2.1,(p1t (btw a.2.2.1 b.2.1)).2.2.2.1,b.2.2.2.1]=wv a.2.2.2.1+(btw a.2.2.1 b.2.1).1+wv b.2.2.2.1 /\
  wv a.2.2.2.1+(btw a.2.2.1 b.2.1).1+wv b.2.2.2.1<340282366920938463463374607431768211456:=by
 have d:=c2b na.l nb.f h;have ia:=na.inc;have ib:=nb.inc;have sa:=na.small;have sb:=nb.small;have d1:=d.i;refine ⟨?_,?_,by omega⟩
 ·intro x hx;simp only[q2l,List.not_mem_nil,or_false] at hx;rcases hx with rfl | rfl | rfl
  ·exact na.w
  ·exact ⟨by simp[p1t],d1⟩
  ·exact nb.w
 ·simp[sumW,p1t,wv_lo];omega
theorem k0z (n:Nat) {a b:Cel} (ha:CelW a) (hb:CelW b):h0e (n+6) a b=some (mrgE a b):=by
 rw[q1b,a1f n ha,a1f n hb,q0m,q0m];simp only[obs,tfd,tfn,z02];unfold mrgE;by_cases h1:c0g a
 case neg=>rw[q0n h1,q0n (fun k=>h1 k.1)];rfl
 by_cases h2:c0g b
 case neg=>rw[q0z h1,q0n h2,q0n (fun k=>h2 k.2)];rfl
 rw[q0z h1,q0z h2,q0z (And.intro h1 h2)];by_cases h3:a=z0
 ·rw[q0z h3,q0z (.inl h3),h3,q1j]
 by_cases h4:b=z0
 ·rw[q0n h3,q0z h4,q0z (.inr (.inl h4)),h4,j2d]
 rw[q0n h3,q0n h4];have na:=h1.n h3;have nb:=h2.n h4;rw[v1k,p1j (n+1) na.l nb.f];simp only[obs];by_cases h5:a.2.2.1.1<b.2.1.1
 ·obtain ⟨w1,w2,w3⟩:=l1a na nb h5;have d:=c2b na.l nb.f h5;rw[q0z h5,q0z ((q1h h3 h4).2 h5)];simp only[decide_true,q2s,tff];rw[wide_sum (n+1) _ (by simp) w1 (by rw[w2];exact w3),w2];simp only[obs];rw[mrg_n na nb];have:=na.small;have:=nb.small;have:=na.n1;have:=nb.n1;have:=na.r;have:=na.g;have:=na.rg;have:=nb.r;have:=nb.g;have:=nb.rg;have:=na.s0;have:=na.s1;have:=nb.s0;have:=nb.s1;have:=na.f.t0;have:=na.l.t1;have:=nb.f.t0;have:=nb.l.t1;obtain ⟨d1,d2,d3,d4,d5⟩:=d;simp only[p1t]
  rw[w64 (x:=a.1+b.1) (by omega) (by omega),w64 (x:=a.2.2.2.2.1+b.2.2.2.2.1) (by omega) (by omega),w64 (x:=a.2.2.2.2.2.1+b.2.2.2.2.2.1) (by omega) (by omega),w64 (x:=a.2.2.2.2.2.2+b.2.2.2.2.2.2) (by omega) (by omega)];rw[w64 (by omega) (by omega),w64 (by omega) (by omega),w64 (by omega) (by omega)];refine congrArg some (Prod.ext (Prod.ext rfl (Prod.ext rfl (Prod.ext rfl (Prod.ext rfl (Prod.ext ?_ (Prod.ext ?_ ?_)))))) rfl)<;>simp only<;>omega
 ·rw[q0n h5,q0n (fun k=>h5 ((q1h h3 h4).1 k))];simp only[tfn,tfd];rw[q0n (by decide)];rfl
theorem o0c (n:Nat) {a b:Cel} (ha:CelW a) (hb:CelW b):j0m (n+5) a b=some (mrgE a b):=by
 rw[s1t,d1y n ha,d1y n hb];simp only[obs,tfd,tfn,z02];unfold mrgE;by_cases h1:c0g a
 case neg=>rw[q0n h1,q0n (fun k=>h1 k.1)];rfl
 by_cases h2:c0g b
 case neg=>rw[q0z h1,q0n h2,q0n (fun k=>h2 k.2)];rfl
 rw[q0z h1,q0z h2,q0z (And.intro h1 h2)];by_cases h3:a=z0
 ·rw[q0z (h1.count.1.2 h3),q0z (.inl h3),h3,q1j]
 by_cases h4:b=z0
 ·rw[q0n (mt h1.count.1.1 h3),q0z (h2.count.1.2 h4),q0z (.inr (.inl h4)),h4,j2d]
 rw[q0n (mt h1.count.1.1 h3),q0n (mt h2.count.1.1 h4)];have na:=h1.n h3;have nb:=h2.n h4;by_cases h5:a.2.2.1.1<b.2.1.1
 ·obtain ⟨w1,w2,w3⟩:=l1a na nb h5;have d:=c2b na.l nb.f h5;rw[q0n (by omega),q0z ((q1h h3 h4).2 h5),y1b (n+2) na.l nb.f,q0z h5];simp only[obs];rw[r01_sum (n+1) _ (by simp) w1 (by rw[w2];exact w3),w2];simp only[obs];rw[mrg_n na nb];have:=na.small;have:=nb.small;have:=na.n1;have:=nb.n1;have:=na.r;have:=na.g;have:=na.rg;have:=nb.r;have:=nb.g;have:=nb.rg;have:=na.s0;have:=na.s1;have:=nb.s0;have:=nb.s1;have:=na.f.t0;have:=na.l.t1;have:=nb.f.t0;have:=nb.l.t1;obtain ⟨d1,d2,d3,d4,d5⟩:=d;simp only[p1t]
  rw[w64 (x:=a.1+b.1) (by omega) (by omega),w64 (x:=a.2.2.2.2.1+_) (by omega) (by omega),w64 (x:=a.2.2.2.2.2.1+_) (by omega) (by omega),w64 (x:=a.2.2.2.2.2.2+_) (by omega) (by omega)];rw[w64 (by omega) (by omega),w64 (by omega) (by omega),w64 (by omega) (by omega)]
 ·rw[q0z (by omega),q0n (fun k=>h5 ((q1h h3 h4).1 k))];rfl
theorem j2e {a b:Cel} (h:(mrgE a b).2=0):c0g a/\c0g b/\Ahead a b/\(mrgE a b).1=mrg a b/\c0g (mrgE a b).1:=by
 unfold mrgE at h ⊢;by_cases h1:c0g a/\c0g b
 ·rw[q0z h1] at h ⊢;by_cases h2:Ahead a b
  ·rw[q0z h2];exact ⟨h1.1,h1.2,h2,rfl,u1b h1.1 h1.2 h2⟩
  ·rw[q0n h2] at h;simp at h
 ·rw[q0n h1] at h;simp at h
theorem a2y (a b:Cel):CelW (mrgE a b).1:=by
 by_cases h:(mrgE a b).2=0
 ·exact .of (j2e h).2.2.2.2
 ·unfold mrgE at h ⊢;by_cases h1:c0g a/\c0g b
  ·rw[q0z h1] at h ⊢;by_cases h2:Ahead a b
   ·rw[q0z h2] at h;simp at h
   ·rw[q0n h2];exact v0o
  ·rw[q0n h1];exact v0o
theorem f2x (n:Nat) (s2:Cel) (l:List Cel) (hL:l.length<=1000000000000) (hw:∀x∈l,CelW x):∀(rest pre:List Cel) (f:Nat) (c:Cel) (i len:Int),l=pre++rest->i=pre.length->len=l.length->rest.length<f->CelW c ->
  m0e (n+6) f (s2,c,l,len,i,())=some (if (allE c rest).2=0 then .inl (s2,(allE c rest).1,()) else .inr (z0,(allE c rest).2)):=by
 intro rest;induction rest with
 | nil =>
  intro pre f c i len hl hi hn hf hc;obtain ⟨f,rfl⟩:∃g,f=g+1:=⟨f-1,by simp at hf;omega⟩;rw[u0v];simp only[tfd,q0n (idxe hl hi hn),allE,q0z trivial]
 | cons x rest ih =>
  intro pre f c i len hl hi hn hf hc;obtain ⟨f,rfl⟩:∃g,f=g+1:=⟨f-1,by simp at hf;omega⟩;rw[u0v];have hx:CelW x:=hw x (by rw[hl];simp);simp only[tfd,tfn,q0z (idx hl hi hn),c0e hl hi,obs,k0z n hc hx,idxw hl hi hL];by_cases h:(mrgE c x).2=0
  ·rw[q0z h,ih (pre++[x]) f _ (i+1) len (idxl hl) (idxs hi) hn (by simp at hf;omega) (a2y c x)];simp only[allE,q0z h]
  ·rw[q0n h];simp only[allE,q0n h];rfl
theorem m2b (l:List Cel):∀c,(allE c l).2≠0->(allE c l).1=z0:=by
 induction l with
 | nil=>intro c h;exact absurd rfl h
 | cons x l ih =>
  intro c h;simp only[allE] at h ⊢;split at h
  ·rename_i k;rw[q0z k];exact ih _ h
  ·rename_i k;rw[q0n k]
theorem cell_all (n:Nat) (l:List Cel) (hL:l.length<=1000000000000) (hw:∀x∈l,CelW x):q1d (n+7) l=some (allE z0 l):=by
 have:=f2x n z0 l hL hw l [] a0b z0 0 l.length rfl rfl rfl (by unfold a0b;omega) v0o;rw[z1v];have e:m0e (n+6) a0b (((0:Int),(((0:Int),((0:Int),((0:Int),false))),(((0:Int),((0:Int),((0:Int),false))),(((0:Int),(0:Int)),((0:Int),((0:Int),(0:Int))))))),((0:Int),(((0:Int),((0:Int),((0:Int),false))),(((0:Int),((0:Int),((0:Int),false))),(((0:Int),(0:Int)),((0:Int),((0:Int),(0:Int))))))),l,(l.length:Int),(0:Int),())=_:=this;rw[e];by_cases h:(allE z0 l).2=0
 ·rw[q0z h];simp only[obs,a0t];exact congrArg some (Prod.ext rfl h.symm)
 ·rw[q0n h];simp only[obs,f0r];exact congrArg some (Prod.ext (m2b l z0 h).symm rfl)
theorem i2f (n:Nat) (s2:Cel) (l:List Cel) (hL:l.length<=1000000000000) (hw:∀x∈l,CelW x):∀(rest pre:List Cel) (f:Nat) (c:Cel) (i len:Int),l=pre++rest->i=pre.length->len=l.length->rest.length<f->CelW c ->
  o0d (n+5) f (s2,c,l,len,i,())=some (if (allE c rest).2=0 then .inl (s2,(allE c rest).1,()) else .inr (z0,(allE c rest).2)):=by
 intro rest;induction rest with
 | nil =>
  intro pre f c i len hl hi hn hf hc;obtain ⟨f,rfl⟩:∃g,f=g+1:=⟨f-1,by simp at hf;omega⟩;rw[x0f];simp only[tfd,q0n (idxe hl hi hn),allE,q0z trivial]
 | cons x rest ih =>
  intro pre f c i len hl hi hn hf hc;obtain ⟨f,rfl⟩:∃g,f=g+1:=⟨f-1,by simp at hf;omega⟩;rw[x0f];have hx:CelW x:=hw x (by rw[hl];simp);simp only[tfd,tfn,q0z (idx hl hi hn),c0e hl hi,obs,o0c n hc hx,idxw hl hi hL];by_cases h:(mrgE c x).2=0
  ·rw[q0z h,ih (pre++[x]) f _ (i+1) len (idxl hl) (idxs hi) hn (by simp at hf;omega) (a2y c x)];simp only[allE,q0z h]
  ·rw[q0n h];simp only[allE,q0n h];rfl
theorem r08_all (n:Nat) (l:List Cel) (hL:l.length<=1000000000000) (hw:∀x∈l,CelW x):y1a (n+6) l=some (allE z0 l):=by
 have:=i2f n z0 l hL hw l [] a0b z0 0 l.length rfl rfl rfl (by unfold a0b;omega) v0o;rw[e2e];have e:o0d (n+5) a0b (((0:Int),(((0:Int),((0:Int),((0:Int),false))),(((0:Int),((0:Int),((0:Int),false))),(((0:Int),(0:Int)),((0:Int),((0:Int),(0:Int))))))),((0:Int),(((0:Int),((0:Int),((0:Int),false))),(((0:Int),((0:Int),((0:Int),false))),(((0:Int),(0:Int)),((0:Int),((0:Int),(0:Int))))))),l,(l.length:Int),(0:Int),())=_:=this;rw[e];by_cases h:(allE z0 l).2=0
 ·rw[q0z h];simp only[obs,a0t];exact congrArg some (Prod.ext rfl h.symm)
 ·rw[q0n h];simp only[obs,f0r];exact congrArg some (Prod.ext (m2b l z0 h).symm rfl)
theorem u1t {l:List Ev} {x:Ev}:Foll (l++[x])↔Foll l/\EvOk x/\∀e∈l,e.1<x.1:=by
 rw[q0i];constructor
 ·rintro ⟨h1,h2,h3⟩;exact ⟨h1,h2.ok x (by simp),fun e he=>h3 e he x (by simp)⟩
 ·rintro ⟨h1,h2,h3⟩;refine ⟨h1,⟨by simpa using h2,by simp⟩,fun e he y hy => ?_⟩;simp at hy;subst hy;exact h3 e he
theorem last_all {l:List Ev} (h:Foll l) {x y:Ev} (hy:l.getLast? = some y) (hlt:y.1<x.1):∀e∈l,e.1<x.1:=by
 intro e he;rcases List.eq_nil_or_concat l with rfl | ⟨q,z,rfl⟩
 ·cases he
 rw[List.concat_eq_append] at *
 simp at hy;subst hy;rcases q2n.1 he with h1 | h1
 ·have:=(q0i.1 h).2.2 e h1 z (by simp);omega
 ·simp at h1;subst h1;exact hlt
abbrev Lab:=List UInt8×List UInt8
def sgn (c:Int):Prop:=(97<=c/\c<=122)\/(65<=c/\c<=90)\/(48<=c/\c<=57)\/c=95
instance (c:Int):Decidable (sgn c):=by unfold sgn;infer_instance
def b1g (c:Int):Prop:=48<=c/\c<=57
instance (c:Int):Decidable (b1g c):=by unfold b1g;infer_instance
def i0j:List UInt8->Prop
 | []=>False
 | b::r=>(b::r).length<=64/\¬b1g (b.toNat:Int)/\∀x∈b::r,sgn (x.toNat:Int)
instance:(s:List UInt8)->Decidable (i0j s)
 | [] => .isFalse id
 | b::r=>by unfold i0j;infer_instance
theorem low_all:∀c:Fin 256,(97<=orI .u8 (c.val:Int) 32/\orI .u8 (c.val:Int) 32<=122)↔((97<=(c.val:Int)/\(c.val:Int)<=122)\/(65<=(c.val:Int)/\(c.val:Int)<=90)):=by decide +kernel
theorem low (c:Int) (h:0<=c/\c<=255):(97<=orI .u8 c 32/\orI .u8 c 32<=122)↔((97<=c/\c<=122)\/(65<=c/\c<=90)):=by
 obtain ⟨k,rfl⟩:=Int.eq_ofNat_of_zero_le h.1;exact low_all ⟨k,by omega⟩
theorem s0i (n:Nat) (c:Int):q0g (n+1) c=some (decide (b1g c)):=by
 rw[j1k];unfold b1g;by_cases h1:(48:Int)<=c<;>by_cases h2:c<=57<;>simp[h1,h2]
theorem j1i (n:Nat) (c:Int) (h:0<=c/\c<=255):z0v (n+2) c=some (decide (sgn c)):=by
 rw[p1a,s0i];simp only[obs,tfd];have hl:=low c h;by_cases h1:b1g c
 ·rw[q0z h1,q2a (show sgn c from .inr (.inr (.inl h1)))]
 rw[q0n h1];by_cases h2:c=95
 ·rw[q0z h2,q2a (show sgn c from .inr (.inr (.inr h2)))]
 rw[q0n h2];by_cases h3:97<=orI .u8 c 32
 ·rw[q0z h3];refine congrArg some (q2r.2 ?_);constructor
  ·intro k;rcases hl.1 ⟨h3,k⟩ with q | q
   ·exact .inl q
   ·exact .inr (.inl q)
  ·intro k;rcases k with k | k | k | k
   ·exact (hl.2 (.inl k)).2
   ·exact (hl.2 (.inr k)).2
   ·exact absurd k h1
   ·exact absurd k h2
 ·rw[q0n h3,q1z];intro k;rcases k with k | k | k | k
  ·exact h3 (hl.2 (.inl k)).1
  ·exact h3 (hl.2 (.inr k)).1
  ·exact h1 k
  ·exact h2 k
theorem f2j (n:Nat) {del:Int×Unit->Option Bool} {p:Int->Bool} (l:List Int) (hL:l.length<=1000000000000) (hd:∀x∈l,del (x,())=some (p x)):∀(rest pre:List Int) (f:Nat) (i len:Int),l=pre++rest->i=pre.length->len=l.length->rest.length<f ->
  (d0d n f (l,del,len,i,())=some (.inl ())/\∀x∈rest,p x=false) \/
  (∃k:Int,0<=k/\d0d n f (l,del,len,i,())=some (.inr k)/\∃x∈rest,p x=true):=by
 intro rest;induction rest with
 | nil =>
  intro pre f i len hl hi hn hf;obtain ⟨f,rfl⟩:∃g,f=g+1:=⟨f-1,by simp at hf;omega⟩;rw[h0h];exact .inl ⟨by simp only[tfd,q0n (idxe hl hi hn)],by simp⟩
 | cons x rest ih =>
  intro pre f i len hl hi hn hf;obtain ⟨f,rfl⟩:∃g,f=g+1:=⟨f-1,by simp at hf;omega⟩;rw[h0h];simp only[tfd,q0z (idx hl hi hn),c0e hl hi,obs,hd x (by rw[hl];simp),idxw hl hi hL];cases hp:p x with
  | true=>exact .inr ⟨i,by omega,by simp,x,by simp,hp⟩
  | false =>
   rw[tff];rcases ih (pre++[x]) f (i+1) len (idxl hl) (idxs hi) hn (by simp at hf;omega) with ⟨h1,h2⟩ | ⟨k,h1,h2,y,hy,h3⟩
   ·exact .inl ⟨h1,by intro z hz;rcases q2l.1 hz with rfl | hz;exact hp;exact h2 z hz⟩
   ·exact .inr ⟨k,h1,h2,y,by simp[hy],h3⟩
theorem p1w (n:Nat) {del:Int×Unit->Option Bool} {p:Int->Bool} (l:List Int) (hL:l.length<=1000000000000) (hd:∀x∈l,del (x,())=some (p x)):g0j (n+2) l del=some (l.any p):=by
 rw[p0i,t0p];rcases f2j n l hL hd l [] a0b 0 l.length rfl rfl rfl (by unfold a0b;omega) with ⟨h1,h2⟩ | ⟨k,h1,h2,x,hx,h3⟩
 ·rw[h1];have:l.any p=false:=by rw[List.any_eq_false];intro x hx;simp[h2 x hx]
  rw[this];rfl
 ·rw[h2];have:l.any p=true:=List.any_eq_true.2 ⟨x,hx,h3⟩;simp[this,h1]
theorem j1j (n:Nat) (s:List UInt8):z0w (n+5) s=some (decide (i0j s)):=by
 rw[p1b]
 match s with
 | []=>rfl
 | b::r =>
  have e1:((b::r)==[])=false:=rfl;have e2:at? (b::r) (0:Int)=some b:=rfl;rw[e1,tff,e2,obs,s0i,obs];simp only[tfd];by_cases h1:(64:Int)<(b::r).length
  ·rw[q0z h1,q1z (fun k:i0j (b::r)=>by have:=k.1;omega)]
  rw[q0n h1];by_cases h2:b1g (b.toNat:Int)
  ·rw[q0z h2,q1z (fun k:i0j (b::r)=>k.2.1 h2)]
  rw[q0n h2,p1w (p:=fun c => !decide (sgn c)) (n+2) _ (by simp at h1 ⊢;omega) (fun x hx=>by
   obtain ⟨c,_,rfl⟩:=q3g.1 hx;have:=c.toNat_lt;show s0h (n+3+1) _=_
   rw[e1n,j1i (n+1) _ (by omega)];rfl)]
  simp only[obs];refine congrArg some ?_;by_cases h3:∀x∈b::r,sgn (x.toNat:Int)
  ·rw[q2a (show i0j (b::r) from ⟨by omega,h2,h3⟩)];rw[List.any_eq_false.2]
   ·rfl
   ·intro x hx;obtain ⟨c,hc,rfl⟩:=q3g.1 hx;simp[h3 c hc]
  ·rw[q1z (fun k:i0j (b::r)=>h3 k.2.2)];have:∃x∈b::r,¬sgn (x.toNat:Int):=Classical.byContradiction fun k=>h3 fun x hx=>Classical.byContradiction fun q=>k ⟨x,hx,q⟩
   obtain ⟨x,hx,hq⟩:=this;rw[List.any_eq_true.2 ⟨(x.toNat:Int),q3g.2 ⟨x,hx,rfl⟩,by simp[hq]⟩];rfl
theorem e2f (n:Nat) (s:List UInt8) (hL:s.length<=1000000000000):∀(rest pre:List UInt8) (f:Nat) (i:Int),s=pre++rest->i=pre.length->rest.length<f ->
  c0c n f (s,i,())=some (if ∀x∈rest,sgn (x.toNat:Int) then .inl () else .inr false):=by
 intro rest;induction rest with
 | nil =>
  intro pre f i hl hi hf;obtain ⟨f,rfl⟩:∃g,f=g+1:=⟨f-1,by simp at hf;omega⟩;rw[u0h];simp[tfd,q0n (idxe hl hi rfl)]
 | cons x rest ih =>
  intro pre f i hl hi hf;obtain ⟨f,rfl⟩:∃g,f=g+1:=⟨f-1,by simp at hf;omega⟩;rw[u0h];simp only[tfd,tfn,q0z (idx hl hi rfl),c0e hl hi,obs,idxw hl hi hL];rw[ih (pre++[x]) f (i+1) (idxl hl) (idxs hi) (by simp at hf;omega)];have hsplit:(∀y∈x::rest,sgn (y.toNat:Int))↔sgn (x.toNat:Int)/\∀y∈rest,sgn (y.toNat:Int):=by simp
  generalize hR:(some (if ∀y∈rest,sgn (y.toNat:Int) then (Sum.inl ():Unit ⊕ Bool) else .inr false))=R;have good:sgn (x.toNat:Int)->R=some (if ∀y∈x::rest,sgn (y.toNat:Int) then .inl () else .inr false):=by
   intro hx;rw[<-hR];by_cases h:∀y∈rest,sgn (y.toNat:Int)
   ·rw[q0z h,q0z (hsplit.2 ⟨hx,h⟩)]
   ·rw[q0n h,q0n (fun k=>h (hsplit.1 k).2)]
  have bad:¬sgn (x.toNat:Int)->some (.inr false)=some (if ∀y∈x::rest,sgn (y.toNat:Int) then (Sum.inl ():Unit ⊕ Bool) else .inr false):=by
   intro hx;rw[q0n (fun k=>hx (hsplit.1 k).1)]
  have hc:=x.toNat_lt;generalize (x.toNat:Int)=c at *
  clear hR ih;unfold sgn at good bad;by_cases a1:(97:Int)<=c<;>by_cases a2:c<=122<;>by_cases a3:(65:Int)<=c<;>by_cases a4:c<=90<;>by_cases a5:(48:Int)<=c<;>by_cases a6:c<=57<;>by_cases a7:c=95 <;>
   first
    | omega
    | (simp only[a1,a2,a3,a4,a5,a6,a7,if_true,if_false];first | exact good (by omega) | exact bad (by omega))
    | (simp[a1,a2,a3,a4,a5,a6,a7];done)
theorem s1w (n:Nat) (s:List UInt8):n1w (n+1) s=some (decide (i0j s)):=by
 rw[y1e]
 match s with
 | []=>rfl
 | b::r =>
  have e2:at? (b::r) (0:Int)=some b:=rfl;rw[e2,obs,obs];simp only[tfd];rw[q0n (show ¬(((b::r).length:Int)<1) by simp;omega)];by_cases h1:(64:Int)<(b::r).length
  ·rw[q0z h1,q1z (fun k:i0j (b::r)=>by have:=k.1;omega)]
  rw[q0n h1,e2f n (b::r) (by omega) (b::r) [] a0b 0 rfl rfl (by unfold a0b;omega)];simp only[obs];have fin:¬b1g (b.toNat:Int)->(b0x (fun _:Unit=>some true) (fun z4=>some z4) (if ∀x∈b::r,sgn (x.toNat:Int) then .inl () else .inr false))=some (decide (i0j (b::r))):=by
   intro h2;by_cases h3:∀x∈b::r,sgn (x.toNat:Int)
   ·rw[q0z h3,q2a (show i0j (b::r) from ⟨by omega,h2,h3⟩)];rfl
   ·rw[q0n h3,q1z (fun k:i0j (b::r)=>h3 k.2.2)];rfl
  by_cases h4:(48:Int)<=(b.toNat:Int)
  ·rw[q0z h4];by_cases h5:(b.toNat:Int)<=57
   ·rw[q0z h5,q1z (fun k:i0j (b::r)=>k.2.1 ⟨h4,h5⟩)]
   ·rw[q0n h5];exact fin (fun k=>h5 k.2)
  ·rw[q0n h4];exact fin (fun k=>h4 k.1)
def chkL:Option (List UInt8)->List Lab->Prop
 | _,[]=>True
 | p,x::r=>i0j x.1/\x.2.length<=128/\(∀q,p=some q->Op.bytesLess q x.1=true)/\chkL (some x.1) r
def sumL (l:List Lab):Int:=(l.map fun x=>((x.1.length:Int)+x.2.length)).sum
theorem g2v (l:List Lab):0<=sumL l:=by
 induction l with
 | nil=>simp[sumL]
 | cons x l ih=>simp only[sumL,q3h,List.sum_cons] at *;omega
theorem r1f (x:Lab) (l:List Lab):sumL (x::l)=x.1.length+x.2.length+sumL l:=by simp[sumL]
theorem i0j.len {s:List UInt8} (h:i0j s):s.length<=64:=by
 match s with
 | []=>simp
 | b::r=>exact h.1
structure LabOk (l:List Lab):Prop where
 n0:1<=l.length
 n1:l.length<=16
 c:chkL none l
 t:sumL l<=256
noncomputable instance (l:List Lab):Decidable (LabOk l):=Classical.propDecidable _
theorem i2m {l pre rest:List Lab} {x:Lab} {i:Int} (hl:l=pre++x::rest) (hi:i=pre.length) (hL:l.length<=1000000) (h:0<i):∃q,pre.getLast? = some q/\at? l (wrap .i64 (i-1))=some q:=by
 rcases List.eq_nil_or_concat pre with rfl | ⟨q,y,rfl⟩
 ·simp at hi;omega
 rw[List.concat_eq_append] at *
 have hlen:=congrArg List.length hl;simp at hlen hi;refine ⟨y,by simp,?_⟩;rw[w64 (by omega) (by omega)];exact c0e (pre:=q) (rest:=x::rest) (by rw[hl];simp) (by omega)
theorem p1c (n:Nat) (l:List Lab) (hL:l.length<=16):∀(rest pre:List Lab) (f:Nat) (left i len:Int),l=pre++rest->i=pre.length->len=l.length->rest.length<f->0<=left->left<=256 ->
  (chkL (pre.getLast?.map (·.1)) rest/\sumL rest<=left->f0j (n+5) f (l,left,l,len,i,())=some (.inl ())) /\
  (¬(chkL (pre.getLast?.map (·.1)) rest/\sumL rest<=left)->f0j (n+5) f (l,left,l,len,i,())=some (.inr 8)):=by
 intro rest;induction rest with
 | nil =>
  intro pre f left i len hl hi hn hf h0 h1;obtain ⟨f,rfl⟩:∃g,f=g+1:=⟨f-1,by simp at hf;omega⟩;rw[o0m];refine ⟨fun _=>by simp only[tfd,q0n (idxe hl hi hn)],fun k=>absurd ⟨trivial,by simpa [sumL] using h0⟩ k⟩
 | cons x rest ih =>
  intro pre f left i len hl hi hn hf h0 h1;obtain ⟨f,rfl⟩:∃g,f=g+1:=⟨f-1,by simp at hf;omega⟩;rw[o0m];have hsn:=g2v rest;simp only[tfd,tfn,q0z (idx hl hi hn),c0e hl hi,obs,idxw hl hi (by omega),j1j n x.1];rw[r1f];by_cases c1:i0j x.1
  case neg=>rw[q0n c1];exact ⟨fun k=>absurd k.1.1 c1,fun _=>rfl⟩
  rw[q0z c1];have hn1:=c1.len;by_cases c2:(128:Int)<x.2.length
  ·rw[q0z c2];exact ⟨fun k=>by have:=k.1.2.1;omega,fun _=>rfl⟩
  rw[q0n c2,w64 (x:=(x.1.length:Int)+x.2.length) (by omega) (by omega),w64 (x:=left-((x.1.length:Int)+x.2.length)) (by omega) (by omega)];by_cases c3:left-((x.1.length:Int)+x.2.length)<0
  ·rw[q0z c3];exact ⟨fun k=>by have:=k.2;omega,fun _=>rfl⟩
  rw[q0n c3];have ih':=ih (pre++[x]) f (left-((x.1.length:Int)+x.2.length)) (i+1) len (idxl hl) (idxs hi) hn (by simp at hf;omega) (by omega) (by omega);have el:(pre++[x]).getLast?.map (·.1)=some x.1:=by simp
  rw[el] at ih';have step:(∀q,pre.getLast?.map (·.1)=some q->Op.bytesLess q x.1=true) ->
    ((chkL (pre.getLast?.map (·.1)) (x::rest)/\(x.1.length:Int)+x.2.length+sumL rest<=left)↔(chkL (some x.1) rest/\sumL rest<=left-((x.1.length:Int)+x.2.length))):=by
   intro hq;constructor
   ·rintro ⟨k1,k2⟩;exact ⟨k1.2.2.2,by omega⟩
   ·rintro ⟨k1,k2⟩;exact ⟨⟨c1,by omega,hq,k1⟩,by omega⟩
  by_cases c4:0<i
  ·obtain ⟨q,hq,hat⟩:=i2m hl hi (by omega) c4;rw[q0z c4,hat,obs];by_cases c5:Op.bytesLess q.1 x.1=true
   ·rw[c5,tft,step (fun z hz=>by rw[hq] at hz;simp at hz;rw[<-hz];exact c5)];exact ih'
   ·have c5':Op.bytesLess q.1 x.1=false:=by simpa using c5
    rw[c5',tff];exact ⟨fun k=>absurd (k.1.2.2.1 q.1 (by rw[hq];rfl)) c5,fun _=>rfl⟩
  ·have hp:pre=[]:=List.length_eq_zero_iff.1 (by omega);rw[q0n c4,step (fun z hz=>by rw[hp] at hz;cases hz)];exact ih'
theorem e1o (n:Nat) (l:List Lab):q0h (n+6) l=some (if LabOk l then 0 else 8):=by
 rw[j1l];simp only[tfd];by_cases h1:(l.length:Int)=0
 ·rw[q0z h1,q0n (fun k:LabOk l=>by have:=k.n0;omega)]
 by_cases h2:(16:Int)<l.length
 ·rw[q0n h1,q0z h2,q0n (fun k:LabOk l=>by have:=k.n1;omega)]
 rw[q0n h1,q0n h2];have hl:=p1c n l (by omega) l [] a0b 256 0 l.length rfl rfl rfl (by unfold a0b;omega) (by decide) (by decide);by_cases h3:chkL none l/\sumL l<=256
 ·rw[hl.1 h3,q0z (⟨by omega,by omega,h3.1,h3.2⟩:LabOk l)];rfl
 ·rw[hl.2 h3,q0n (fun k:LabOk l=>h3 ⟨k.c,k.t⟩)];rfl
theorem y1f (n:Nat) (l:List Lab) (hL:l.length<=16):∀(rest pre:List Lab) (f:Nat) (all i len:Int),l=pre++rest->i=pre.length->len=l.length->rest.length<f->0<=all->all<=192*pre.length ->
  (chkL (pre.getLast?.map (·.1)) rest->h0a (n+1) f (l,all,l,len,i,())=some (.inl (all+sumL rest,()))) /\
  (¬chkL (pre.getLast?.map (·.1)) rest->h0a (n+1) f (l,all,l,len,i,())=some (.inr 8)):=by
 intro rest;induction rest with
 | nil =>
  intro pre f left i len hl hi hn hf h0 h1;obtain ⟨f,rfl⟩:∃g,f=g+1:=⟨f-1,by simp at hf;omega⟩;rw[r0z];refine ⟨fun _=>by simp only[tfd,q0n (idxe hl hi hn),sumL,List.map_nil,List.sum_nil,Int.add_zero],fun k=>absurd trivial k⟩
 | cons x rest ih =>
  intro pre f left i len hl hi hn hf h0 h1;obtain ⟨f,rfl⟩:∃g,f=g+1:=⟨f-1,by simp at hf;omega⟩;rw[r0z];have hsn:=g2v rest;have hpl:pre.length+1<=l.length:=by have:=congrArg List.length hl;simp at this;omega
  simp only[tfd,tfn,q0z (idx hl hi hn),c0e hl hi,obs,idxw hl hi (by omega),s1w n x.1];rw[r1f];by_cases c1:i0j x.1
  case neg=>rw[q0n c1];exact ⟨fun k=>absurd k.1 c1,fun _=>rfl⟩
  rw[q0z c1];have hn1:=c1.len;by_cases c2:(128:Int)<x.2.length
  ·rw[q0z c2];exact ⟨fun k=>by have:=k.2.1;omega,fun _=>rfl⟩
  rw[q0n c2,w64 (x:=(x.1.length:Int)+x.2.length) (by omega) (by omega),w64 (x:=left+((x.1.length:Int)+x.2.length)) (by omega) (by omega)];have ih':=ih (pre++[x]) f (left+((x.1.length:Int)+x.2.length)) (i+1) len (idxl hl) (idxs hi) hn (by simp at hf;omega) (by omega) (by simp;omega);have el:(pre++[x]).getLast?.map (·.1)=some x.1:=by simp
  rw[el] at ih';have ea:left+((x.1.length:Int)+x.2.length+sumL rest)=left+((x.1.length:Int)+x.2.length)+sumL rest:=by omega
  rw[ea];have step:(∀q,pre.getLast?.map (·.1)=some q->Op.bytesLess q x.1=true)->(chkL (pre.getLast?.map (·.1)) (x::rest)↔chkL (some x.1) rest):=by
   intro hq;constructor
   ·intro k;exact k.2.2.2
   ·intro k;exact ⟨c1,by omega,hq,k⟩
  by_cases c4:0<i
  ·obtain ⟨q,hq,hat⟩:=i2m hl hi (by omega) c4;rw[q0z c4,hat,obs];by_cases c5:Op.bytesLess q.1 x.1=true
   ·rw[c5,tft,step (fun z hz=>by rw[hq] at hz;simp at hz;rw[<-hz];exact c5)];exact ih'
   ·have c5':Op.bytesLess q.1 x.1=false:=by simpa using c5
    rw[c5',tff];exact ⟨fun k=>absurd (k.2.2.1 q.1 (by rw[hq];rfl)) c5,fun _=>rfl⟩
  ·have hp:pre=[]:=List.length_eq_zero_iff.1 (by omega);rw[q0n c4,step (fun z hz=>by rw[hp] at hz;cases hz)];exact ih'
theorem s1x (n:Nat) (l:List Lab):x0h (n+2) l=some (if LabOk l then 0 else 8):=by
 rw[s1y];simp only[tfd];by_cases h1:(l.length:Int)<1
 ·rw[q0z h1,q0n (fun k:LabOk l=>by have:=k.n0;omega)]
 by_cases h2:(16:Int)<l.length
 ·rw[q0n h1,q0z h2,q0n (fun k:LabOk l=>by have:=k.n1;omega)]
 rw[q0n h1,q0n h2];have hl:=y1f n l (by omega) l [] a0b 0 0 l.length rfl rfl rfl (by unfold a0b;omega) (by decide) (by simp);by_cases h3:chkL none l
 ·rw[hl.1 h3];simp only[obs,a0t,Int.zero_add];by_cases h4:(256:Int)<sumL l
  ·rw[q0z h4,q0n (fun k:LabOk l=>by have:=k.t;omega)]
  ·rw[q0n h4,q0z (⟨by omega,by omega,h3,by omega⟩:LabOk l)]
 ·rw[hl.2 h3,q0n (fun k:LabOk l=>h3 k.c)];rfl
theorem labEq (a b:Lab):((a.1==b.1)&&(a.2==b.2))=decide (a=b):=by
 rw[Bool.eq_iff_iff];simp[Prod.ext_iff]
end Go.Proofs.YteopnkdnglpbfaaGreatDoor
