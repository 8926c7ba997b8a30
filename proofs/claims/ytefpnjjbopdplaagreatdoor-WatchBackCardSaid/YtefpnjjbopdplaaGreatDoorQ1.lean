/-
  Plain proofs about the functions of this seat, part 1 of 3.
-/
import Derived.IntWalk
import Derived.Test.YtefpnjjbopdplaaGreatDoorTr
import Derived.Test.YtefpnjjbopdplaaGreatDoorFlatM3
namespace Go.Plim
set_option linter.unusedVariables false
def tz:Nat→Nat→Nat
  | 0,_=>0
  | k+1,x=>if x % 2=1 then 0 else tz k (x / 2)+1
theorem tz_odd (k x:Nat) (h:x % 2=1):tz k x=0:=by cases k<;>simp[tz,h]
theorem tz_spec:∀(k x:Nat),0<x→x<2^k→tz k x<k∧x=2^tz k x*(x / 2^tz k x)∧(x / 2^tz k x) % 2=1:=by
  intro k
  induction k with
  | zero=>intro x h0 h1;simp at h1;omega
  | succ k ih =>
    intro x h0 h1
    by_cases h:x % 2=1
    · rw[tz_odd (k+1) x h]
      simp[h]
    · have e:tz (k+1) x=tz k (x / 2)+1:=by simp[tz,h]
      rw[Nat.pow_succ] at h1
      obtain ⟨a1,a2,a3⟩:=ih (x / 2) (by omega) (by omega)
      rw[e,Nat.pow_succ,Nat.mul_comm (2^tz k (x / 2)) 2,←Nat.div_div_eq_div_mul]
      refine ⟨by omega,?_,a3⟩
      rw[Nat.mul_assoc,←a2]
      omega
theorem tz_unique {k x t:Nat} (h0:0<x) (h1:x<2^k) (h:x % 2^t=0) (ho:(x / 2^t) % 2=1):tz k x=t:=by
  obtain ⟨a1,a2,a3⟩:=tz_spec k x h0 h1
  have b2:x=2^t*(x / 2^t):=by have:=Nat.div_add_mod x (2^t);omega
  generalize tz k x=s at *
  generalize hy:x / 2^s=y at *
  generalize hz:x / 2^t=z at *
  have e:2^s*y=2^t*z:=by omega
  have one:∀(s t y z:Nat),2^s*y=2^t*z→y % 2=1→z % 2=1→s<t→False:=by
    intro s t y z e hy hz hlt
    obtain ⟨d,rfl⟩:∃d,t=s+(d+1):=⟨t-s-1,by omega⟩
    rw[Nat.pow_add,Nat.mul_assoc] at e
    have:=Nat.eq_of_mul_eq_mul_left (Nat.two_pow_pos s) e
    rw[this,Nat.pow_succ,Nat.mul_comm (2^d) 2,Nat.mul_assoc,Nat.mul_mod_right] at hy
    cases hy
  rcases Nat.lt_trichotomy s t with q | q | q
  · exact (one s t y z e a3 ho q).elim
  · exact q
  · exact (one t s z y e.symm ho a3 q).elim
theorem gcd_two {a b:Nat} (ha:a % 2=1) (t:Nat):Nat.gcd a (2^t*b)=Nat.gcd a b:=by
  have hc:Nat.Coprime 2 a:=by
    unfold Nat.Coprime
    rw[Nat.gcd_rec,ha]
    simp
  exact Nat.Coprime.gcd_mul_left_cancel_right b (Nat.Coprime.pow_left t hc)
theorem gcd_less {a b:Nat} (h:a≤b):Nat.gcd a (b-a)=Nat.gcd a b:=by
  have:=Nat.gcd_add_self_right (m:=a) (n:=b-a)
  rw[Nat.sub_add_cancel h] at this
  exact this.symm
theorem gcd_parts {x y s t a b:Nat} (hx:x=2^s*a) (hy:y=2^t*b) (ha:a % 2=1) (hb:b % 2=1):Nat.gcd x y=2^(min s t)*Nat.gcd a b:=by
  subst hx hy
  rcases Nat.le_total s t with h | h
  · rw[Nat.min_eq_left h]
    obtain ⟨d,rfl⟩:∃d,t=s+d:=⟨t-s,by omega⟩
    rw[Nat.pow_add,Nat.mul_assoc,Nat.gcd_mul_left,gcd_two ha]
  · rw[Nat.min_eq_right h]
    obtain ⟨d,rfl⟩:∃d,s=t+d:=⟨s-t,by omega⟩
    rw[Nat.pow_add,Nat.mul_assoc,Nat.gcd_mul_left,Nat.gcd_comm (2^d*a),gcd_two hb,Nat.gcd_comm b a]
def bl:Nat→Nat→Nat
  | 0,_=>0
  | k+1,x=>if x=0 then 0 else bl k (x / 2)+1
theorem bl_zero (k:Nat):bl k 0=0:=by cases k<;>simp[bl]
theorem bl_spec:∀(k x:Nat),x<2^k→x<2^bl k x∧(0<x→0<bl k x∧2^(bl k x-1)≤x)∧bl k x≤k:=by
  intro k
  induction k with
  | zero=>intro x h;simp[bl] at *;omega
  | succ k ih =>
    intro x h
    by_cases h0:x=0
    · subst h0;rw[bl_zero];simp
    · have e:bl (k+1) x=bl k (x / 2)+1:=by simp[bl,h0]
      rw[Nat.pow_succ] at h
      obtain ⟨a1,a2,a3⟩:=ih (x / 2) (by omega)
      rw[e]
      refine ⟨by rw[Nat.pow_succ];omega,fun _=>⟨by omega,?_⟩,by omega⟩
      rw[Nat.add_sub_cancel]
      by_cases h1:x / 2=0
      · rw[h1,bl_zero];simp;omega
      · obtain ⟨b1,b2⟩:=a2 (by omega)
        have:2^bl k (x / 2)=2^(bl k (x / 2)-1)*2:=by rw[←Nat.pow_succ];congr 1;omega
        omega
theorem bl_unique {k x b:Nat} (h:x<2^k) (h0:0<x) (h1:2^b≤x) (h2:x<2^(b+1)):bl k x=b+1:=by
  obtain ⟨a1,a2,_⟩:=bl_spec k x h
  obtain ⟨c1,c2⟩:=a2 h0
  have d1:b<bl k x:=by
    rcases Nat.lt_or_ge b (bl k x) with q | q
    · exact q
    · have:=Nat.pow_le_pow_right (show 0<2 by decide) q;omega
  have d2:bl k x-1<b+1:=by
    rcases Nat.lt_or_ge (bl k x-1) (b+1) with q | q
    · exact q
    · have:=Nat.pow_le_pow_right (show 0<2 by decide) q;omega
  omega
theorem div_step {A D L i q r:Nat} (hD:0<D) (h:A / 2^(i+1)=D*q+r) (hr:r<D) :
    (D≤2*r+A / 2^i % 2→A / 2^i=D*(2*q+1)+(2*r+A / 2^i % 2-D)∧2*r+A / 2^i % 2-D<D) ∧
    (2*r+A / 2^i % 2<D→A / 2^i=D*(2*q)+(2*r+A / 2^i % 2)):=by
  rw[Nat.pow_succ,←Nat.div_div_eq_div_mul] at h
  have h1:=Nat.div_add_mod (A / 2^i) 2
  rw[h] at h1
  have e1:2*(D*q+r)=D*(2*q)+2*r:=by rw[Nat.mul_add,Nat.mul_left_comm]
  have e2:D*(2*q+1)=D*(2*q)+D:=by rw[Nat.mul_add,Nat.mul_one]
  generalize D*(2*q)=Z at *
  constructor
  · intro k;rw[e2];omega
  · intro k;omega
end Go.Plim

namespace Go.Plim
set_option linter.unusedVariables false
abbrev Wd:=Int×Int
abbrev Ev:=Int×(Int×(Int×Bool))
abbrev Cel:=Int×(Ev×(Ev×(Wd×(Int×(Int×Int)))))
instance decWd:DecidableEq Wd:=inferInstanceAs (DecidableEq (Int×Int))
instance decEv:DecidableEq Ev:=inferInstanceAs (DecidableEq (Int×(Int×(Int×Bool))))
instance decCel:DecidableEq Cel := @instDecidableEqProd _ _ _ (@instDecidableEqProd _ _ decEv (@instDecidableEqProd _ _ decEv (@instDecidableEqProd _ _ decWd inferInstance)))
def wv (a:Wd):Int:=a.1*18446744073709551616+a.2
structure WdOk (a:Wd):Prop where
  hi:0≤a.1∧a.1≤18446744073709551615
  lo:0≤a.2∧a.2≤18446744073709551615
def mkW (v:Int):Wd:=(v / 18446744073709551616,v % 18446744073709551616)
theorem mkW_wv {a:Wd} (h:WdOk a):mkW (wv a)=a:=by
  obtain ⟨h1,h2⟩:=h
  obtain ⟨x,y⟩:=a
  simp only[mkW,wv] at *
  exact Prod.ext (by simp only;omega) (by simp only;omega)
theorem wv_mkW (v:Int):wv (mkW v)=v:=by
  simp only[mkW,wv];omega
theorem mkW_ok {v:Int} (h:0≤v) (h':v<340282366920938463463374607431768211456):WdOk (mkW v):=by
  constructor<;>simp only[mkW]<;>omega
theorem wv_range {a:Wd} (h:WdOk a):0≤wv a∧wv a<340282366920938463463374607431768211456:=by
  obtain ⟨h1,h2⟩:=h
  simp only[wv];omega
theorem wv_zero:wv (0,0)=0:=rfl
theorem wv_lo (x:Int):wv (0,x)=x:=by simp[wv]
def addW (a b:Wd):Wd×Int:=if wv a+wv b<340282366920938463463374607431768211456 then (mkW (wv a+wv b),0) else ((0,0),1)
def e0:Ev:=(0,(0,(0,false)))
structure EvOk (e:Ev):Prop where
  t0:0≤e.1
  t1:e.1<35184372088832
  v0:0≤e.2.1
  v1:e.2.1≤18446744073709551615
  c0:0≤e.2.2.1
  c1:e.2.2.1≤e.1
  st:e.2.2.2=true→e.2.1=0∧e.2.2.1=0
theorem evOk_iff (e:Ev):EvOk e↔(0≤e.1∧e.1<35184372088832∧0≤e.2.1∧e.2.1≤18446744073709551615∧0≤e.2.2.1∧e.2.2.1≤e.1∧(e.2.2.2=true→e.2.1=0∧e.2.2.1=0)) :=
  ⟨fun ⟨a,b,c,d,f,g,h⟩=>⟨a,b,c,d,f,g,h⟩,fun ⟨a,b,c,d,f,g,h⟩=>⟨a,b,c,d,f,g,h⟩⟩
instance (e:Ev):Decidable (EvOk e):=decidable_of_iff _ (evOk_iff e).symm
def btw (p c:Ev):Int×(Int×(Int×Int)) :=
  if c.2.2.2=true then (0,0,0,0)
  else if p.1<c.2.2.1 then (c.2.1,1,0,c.1-c.2.2.1)
  else if p.2.2.2=true then (0,0,1,0)
  else if c.2.1<p.2.1 then (c.2.1,1,0,c.1-p.1)
  else (c.2.1-p.2.1,0,0,c.1-p.1)
structure DlOk (d:Int×(Int×(Int×Int))) (s:Int):Prop where
  i:0≤d.1∧d.1≤18446744073709551615
  r:0≤d.2.1
  g:0≤d.2.2.1
  rg:d.2.1+d.2.2.1≤1
  s:0≤d.2.2.2∧d.2.2.2≤s
theorem btw_ok {p c:Ev} (hp:EvOk p) (hc:EvOk c) (h:p.1<c.1):DlOk (btw p c) (c.1-p.1):=by
  obtain ⟨a1,a2,a3,a4,a5,a6,a7⟩:=hp
  obtain ⟨b1,b2,b3,b4,b5,b6,b7⟩:=hc
  unfold btw
  by_cases k1:c.2.2.2=true
  · rw[if_pos k1];constructor<;>simp only<;>omega
  rw[if_neg k1]
  by_cases k2:p.1<c.2.2.1
  · rw[if_pos k2];constructor<;>simp only<;>omega
  rw[if_neg k2]
  by_cases k3:p.2.2.2=true
  · rw[if_pos k3];constructor<;>simp only<;>omega
  rw[if_neg k3]
  by_cases k4:c.2.1<p.2.1
  · rw[if_pos k4];constructor<;>simp only<;>omega
  rw[if_neg k4]
  constructor<;>simp only<;>omega
def z0:Cel:=(0,(e0,(e0,((0,0),(0,(0,0))))))
structure CellN (c:Cel):Prop where
  n1:1≤c.1
  f:EvOk c.2.1
  l:EvOk c.2.2.1
  one:c.1=1→c.2.1=c.2.2.1
  more:1<c.1→c.2.1.1<c.2.2.1.1
  n2:c.1-1≤c.2.2.1.1-c.2.1.1
  w:WdOk c.2.2.2.1
  inc:wv c.2.2.2.1≤18446744073709551615*(c.1-1)
  r:0≤c.2.2.2.2.1
  g:0≤c.2.2.2.2.2.1
  rg:c.2.2.2.2.1+c.2.2.2.2.2.1≤c.1-1
  s0:0≤c.2.2.2.2.2.2
  s1:c.2.2.2.2.2.2≤c.2.2.1.1-c.2.1.1
theorem wdOk_iff (a:Wd):WdOk a↔(0≤a.1∧a.1≤18446744073709551615)∧(0≤a.2∧a.2≤18446744073709551615) :=
  ⟨fun ⟨a,b⟩=>⟨a,b⟩,fun ⟨a,b⟩=>⟨a,b⟩⟩
instance (a:Wd):Decidable (WdOk a):=decidable_of_iff _ (wdOk_iff a).symm
theorem cellN_iff (c:Cel):CellN c↔(1≤c.1∧EvOk c.2.1∧EvOk c.2.2.1∧(c.1=1→c.2.1=c.2.2.1)∧(1<c.1→c.2.1.1<c.2.2.1.1)∧c.1-1≤c.2.2.1.1-c.2.1.1∧WdOk c.2.2.2.1 ∧
    wv c.2.2.2.1≤18446744073709551615*(c.1-1)∧0≤c.2.2.2.2.1∧0≤c.2.2.2.2.2.1∧c.2.2.2.2.1+c.2.2.2.2.2.1≤c.1-1∧0≤c.2.2.2.2.2.2∧c.2.2.2.2.2.2≤c.2.2.1.1-c.2.1.1) :=
  ⟨fun ⟨a,b,c,d,e,f,g,h,i,j,k,l,m⟩=>⟨a,b,c,d,e,f,g,h,i,j,k,l,m⟩,fun ⟨a,b,c,d,e,f,g,h,i,j,k,l,m⟩=>⟨a,b,c,d,e,f,g,h,i,j,k,l,m⟩⟩
instance (c:Cel):Decidable (CellN c):=decidable_of_iff _ (cellN_iff c).symm
def CellOk (c:Cel):Prop:=c=z0∨CellN c
instance (c:Cel):Decidable (CellOk c):=by unfold CellOk;infer_instance
theorem CellN.ne {c:Cel} (h:CellN c):c≠z0:=by
  intro e;have:=h.n1;rw[e] at this;simp[z0] at this
theorem CellN.ok {c:Cel} (h:CellN c):CellOk c := .inr h
theorem ok_z0:CellOk z0 := .inl rfl
theorem CellOk.n {c:Cel} (h:CellOk c) (hz:c≠z0):CellN c:=h.resolve_left hz
theorem CellOk.count {c:Cel} (h:CellOk c):(c.1=0↔c=z0)∧0≤c.1:=by
  rcases h with rfl | h
  · exact ⟨⟨fun _=>rfl,fun _=>rfl⟩,by simp[z0]⟩
  · have:=h.n1;exact ⟨⟨fun e=>by omega,fun e=>absurd e h.ne⟩,by omega⟩
theorem CellN.ft {c:Cel} (h:CellN c):c.2.1.1≤c.2.2.1.1:=by have:=h.n1;have:=h.n2;omega
theorem CellN.small {c:Cel} (h:CellN c):c.1≤35184372088832:=by
  have:=h.n2;have:=h.f.t0;have:=h.l.t1;omega
def mrg (a b:Cel):Cel :=
  if a=z0 then b else if b=z0 then a else
    (a.1+b.1,(a.2.1,(b.2.2.1,(mkW (wv a.2.2.2.1+(btw a.2.2.1 b.2.1).1+wv b.2.2.2.1),
      (a.2.2.2.2.1+(btw a.2.2.1 b.2.1).2.1+b.2.2.2.2.1,(a.2.2.2.2.2.1+(btw a.2.2.1 b.2.1).2.2.1+b.2.2.2.2.2.1,a.2.2.2.2.2.2+(btw a.2.2.1 b.2.1).2.2.2+b.2.2.2.2.2.2))))))
def Ahead (a b:Cel):Prop:=a=z0∨b=z0∨a.2.2.1.1<b.2.1.1
instance (a b:Cel):Decidable (Ahead a b):=by unfold Ahead;infer_instance
theorem mrg_z0 (a:Cel):mrg a z0=a:=by
  unfold mrg;split
  · rename_i h;exact h.symm
  · simp
theorem z0_mrg (a:Cel):mrg z0 a=a:=by unfold mrg;simp
theorem mrg_n {a b:Cel} (ha:CellN a) (hb:CellN b):mrg a b=(a.1+b.1,(a.2.1,(b.2.2.1,(mkW (wv a.2.2.2.1+(btw a.2.2.1 b.2.1).1+wv b.2.2.2.1),
      (a.2.2.2.2.1+(btw a.2.2.1 b.2.1).2.1+b.2.2.2.2.1,(a.2.2.2.2.2.1+(btw a.2.2.1 b.2.1).2.2.1+b.2.2.2.2.2.1,a.2.2.2.2.2.2+(btw a.2.2.1 b.2.1).2.2.2+b.2.2.2.2.2.2)))))):=by
  unfold mrg;rw[if_neg ha.ne,if_neg hb.ne]
theorem mrg_N {a b:Cel} (ha:CellN a) (hb:CellN b) (h:a.2.2.1.1<b.2.1.1):CellN (mrg a b):=by
  have d:=btw_ok ha.l hb.f h
  have a1:=ha.n1;have b1:=hb.n1
  have a2:=ha.ft;have b2:=hb.ft
  have a3:=ha.inc;have b3:=hb.inc
  have a4:=wv_range ha.w;have b4:=wv_range hb.w
  have a5:=ha.small;have b5:=hb.small
  rw[mrg_n ha hb]
  generalize btw a.2.2.1 b.2.1=x at *
  obtain ⟨d1,d2,d3,d4,d5⟩:=d
  have e:18446744073709551615*(a.1+b.1-1)=18446744073709551615*(a.1-1)+18446744073709551615+18446744073709551615*(b.1-1):=by omega
  constructor<;>simp only
  · omega
  · exact ha.f
  · exact hb.l
  · intro h;omega
  · intro _;omega
  · have:=ha.n2;have:=hb.n2;omega
  · exact mkW_ok (by omega) (by omega)
  · rw[wv_mkW];omega
  · have:=ha.r;have:=hb.r;omega
  · have:=ha.g;have:=hb.g;omega
  · have:=ha.rg;have:=hb.rg;omega
  · have:=ha.s0;have:=hb.s0;omega
  · have:=ha.s1;have:=hb.s1;omega
theorem mrg_ok {a b:Cel} (ha:CellOk a) (hb:CellOk b) (h:Ahead a b):CellOk (mrg a b):=by
  by_cases k:a=z0
  · rw[k,z0_mrg];exact hb
  by_cases k':b=z0
  · rw[k',mrg_z0];exact ha
  exact .inr (mrg_N (ha.n k) (hb.n k') ((h.resolve_left k).resolve_left k'))
def evCell (e:Ev):Cel:=(1,(e,(e,((0,0),(0,(0,0))))))
def cellOf (l:List Ev):Cel:=l.foldl (fun c e=>mrg c (evCell e)) z0
structure Foll (l:List Ev):Prop where
  ok:∀e∈l,EvOk e
  inc:l.Pairwise fun a b=>a.1<b.1
theorem Foll.nil:Foll []:=⟨by simp,.nil⟩
theorem foll_append {l m:List Ev}:Foll (l++m)↔Foll l∧Foll m∧∀x∈l,∀y∈m,x.1<y.1:=by
  constructor
  · rintro ⟨h1,h2⟩
    rw[List.pairwise_append] at h2
    exact ⟨⟨fun x hx=>h1 x (by simp[hx]),h2.1⟩,⟨fun x hx=>h1 x (by simp[hx]),h2.2.1⟩,h2.2.2⟩
  · rintro ⟨h1,h2,h3⟩
    refine ⟨fun x hx => ?_,List.pairwise_append.2 ⟨h1.inc,h2.inc,h3⟩⟩
    rcases List.mem_append.1 hx with hx | hx
    · exact h1.ok x hx
    · exact h2.ok x hx
theorem Foll.sub {l m:List Ev} (h:Foll l) (s:m.Sublist l):Foll m:=⟨fun e he=>h.ok e (s.subset he),h.inc.sublist s⟩
structure Has (l:List Ev) (c:Cel):Prop where
  n:CellN c
  cnt:c.1=l.length
  first:l.head? = some c.2.1
  last:l.getLast? = some c.2.2.1
def mrgE (a b:Cel):Cel×Int:=if CellOk a∧CellOk b then (if Ahead a b then (mrg a b,0) else (z0,9)) else (z0,2)
def allE:Cel→List Cel→Cel×Int
  | c,[]=>(c,0)
  | c,x::r=>if (mrgE c x).2=0 then allE (mrgE c x).1 r else (z0,(mrgE c x).2)
end Go.Plim

namespace Go.Plim
set_option linter.unusedVariables false
def ofN (x:Nat):Wd:=(((x / 18446744073709551616:Nat):Int),((x % 18446744073709551616:Nat):Int))
theorem mkW_nat (x:Nat):mkW (x:Int)=ofN x:=by
  unfold mkW ofN;rw[Prod.mk.injEq];constructor<;>omega
theorem ofN_of {a:Wd} (h:WdOk a):∃x:Nat,x<340282366920938463463374607431768211456∧a=ofN x∧wv a=x:=by
  obtain ⟨h1,h2⟩:=wv_range h
  obtain ⟨x,hx⟩:=Int.eq_ofNat_of_zero_le h1
  exact ⟨x,by omega,by rw[←mkW_wv h,hx,mkW_nat],hx⟩
theorem wv_ofN (x:Nat):wv (ofN x)=x:=by rw[←mkW_nat,wv_mkW]
theorem ofN_ok {x:Nat} (h:x<340282366920938463463374607431768211456):WdOk (ofN x):=by rw[←mkW_nat];exact mkW_ok (by omega) (by omega)
theorem ofN_zero (x:Nat):(decide ((ofN x).1=(0:Int))&&decide ((ofN x).2=(0:Int)))=decide (x=0):=by
  rw[←Bool.decide_and]
  apply decide_eq_decide.2
  unfold ofN
  simp only
  omega
def od (x:Nat):Nat:=x / 2^tz 128 x
theorem od_spec {x:Nat} (h0:0<x) (h1:x<340282366920938463463374607431768211456):tz 128 x<128∧x=2^tz 128 x*od x∧od x % 2=1 :=
  tz_spec 128 x h0 h1
theorem od_pos {x:Nat} (h0:0<x) (h1:x<340282366920938463463374607431768211456):0<od x:=by
  have:=(od_spec h0 h1).2.2
  rcases Nat.eq_zero_or_pos (od x) with q | q
  · rw[q] at this;cases this
  · exact q
theorem od_le (x:Nat):od x≤x:=Nat.div_le_self _ _
theorem od_even {x:Nat} (h0:0<x) (h1:x<340282366920938463463374607431768211456) (he:x % 2=0):2*od x≤x:=by
  obtain ⟨_,a2,a3⟩:=od_spec h0 h1
  have ht:1≤tz 128 x:=by
    rcases Nat.eq_zero_or_pos (tz 128 x) with q | q
    · rw[q] at a2;simp at a2;omega
    · exact q
  have:2^1≤2^tz 128 x:=Nat.pow_le_pow_right (by decide) ht
  have:=Nat.mul_le_mul_right (od x) this
  omega
theorem gcd_od {a x:Nat} (ha:a % 2=1) (h0:0<x) (h1:x<340282366920938463463374607431768211456):Nat.gcd a (od x)=Nat.gcd a x:=by
  obtain ⟨_,a2,_⟩:=od_spec h0 h1
  have:=gcd_two (b:=od x) ha (tz 128 x)
  rw[←a2] at this
  exact this.symm
theorem gcd_whole {x y:Nat} (hx:0<x) (hx':x<340282366920938463463374607431768211456) (hy:0<y) (hy':y<340282366920938463463374607431768211456) :
    Nat.gcd x y=Nat.gcd (od x) y*2^(min (tz 128 x) (tz 128 y)):=by
  obtain ⟨_,a2,a3⟩:=od_spec hx hx'
  obtain ⟨_,b2,b3⟩:=od_spec hy hy'
  rw[gcd_parts a2 b2 a3 b3,gcd_od a3 hy hy',Nat.mul_comm]
theorem or_pow {q k:Nat} (h:2^(k+1) ∣ q):q ||| 2^k=q+2^k:=by
  obtain ⟨m,rfl⟩:=h
  exact (Nat.two_pow_add_eq_or_of_lt (i:=k+1) (b:=2^k) (by rw[Nat.pow_succ];have:=Nat.two_pow_pos k;omega) m).symm
theorem div_part {a d k q:Nat} (hd:0<d) (h:d*2^k≤a):q+2^k+(a-d*2^k) / d=q+a / d:=by
  have e:a=(a-d*2^k)+d*2^k:=by omega
  have:a / d=(a-d*2^k) / d+2^k:=by
    conv=>lhs;rw[e]
    rw[Nat.add_mul_div_left _ _ hd]
  omega
theorem half_up {x k:Nat} (hk:k<64) (h:x*2^k<340282366920938463463374607431768211456) :
    x / 18446744073709551616*2^k+x % 18446744073709551616 / 2^(64-k)=x*2^k / 18446744073709551616∧x % 18446744073709551616 / 2^(64-k)<2^k ∧
    x % 18446744073709551616*2^k % 18446744073709551616=x*2^k % 18446744073709551616:=by
  have e:18446744073709551616=2^(64-k)*2^k:=by rw[←Nat.pow_add,show 64-k+k=64 by omega]
  have hp:=Nat.two_pow_pos k
  have hq:=Nat.two_pow_pos (64-k)
  have h0:=Nat.div_add_mod x 18446744073709551616
  have h1:=Nat.mod_lt x (show 0<18446744073709551616 by decide)
  generalize x / 18446744073709551616=H at *
  generalize x % 18446744073709551616=L at *
  subst h0
  have e1:(18446744073709551616*H+L)*2^k=L*2^k+18446744073709551616*(H*2^k):=by rw[Nat.add_mul,Nat.mul_assoc];omega
  have e2:L*2^k / 18446744073709551616=L / 2^(64-k):=by
    conv=>lhs;rw[e]
    exact Nat.mul_div_mul_right _ _ hp
  refine ⟨?_,?_,?_⟩
  · rw[e1,Nat.add_mul_div_left _ _ (by decide),e2];omega
  · exact Nat.div_lt_of_lt_mul (by rw[←e];exact h1)
  · rw[e1,Nat.add_mul_mod_self_left]
theorem half_down {x k:Nat} (hk:k<64) (h:x<340282366920938463463374607431768211456) :
    x / 18446744073709551616 / 2^k=x / 2^k / 18446744073709551616 ∧
    x % 18446744073709551616 / 2^k+x / 18446744073709551616*2^(64-k) % 18446744073709551616=x / 2^k % 18446744073709551616∧x % 18446744073709551616 / 2^k<2^(64-k) ∧
    ∃m,x / 18446744073709551616*2^(64-k) % 18446744073709551616=2^(64-k)*m:=by
  have e:18446744073709551616=2^k*2^(64-k):=by rw[←Nat.pow_add,show k+(64-k)=64 by omega]
  have hp:=Nat.two_pow_pos k
  have hq:=Nat.two_pow_pos (64-k)
  have c1:x / 18446744073709551616 / 2^k=x / 2^k / 18446744073709551616:=by rw[Nat.div_div_eq_div_mul,Nat.div_div_eq_div_mul,Nat.mul_comm]
  have h0:=Nat.div_add_mod x 18446744073709551616
  have h1:=Nat.mod_lt x (show 0<18446744073709551616 by decide)
  have hm0:∀H:Nat,H*2^(64-k) % 18446744073709551616=2^(64-k)*(H % 2^k):=by
    intro H
    conv=>lhs;rw[e]
    rw[Nat.mul_mod_mul_right,Nat.mul_comm]
  have hm:=hm0 (x / 18446744073709551616)
  have c3:x % 18446744073709551616 / 2^k<2^(64-k):=Nat.div_lt_of_lt_mul (by rw[←e];exact h1)
  refine ⟨c1,?_,c3,_,hm⟩
  rw[hm]
  generalize x / 18446744073709551616=H at *
  generalize x % 18446744073709551616=L at *
  subst h0
  have e1:(18446744073709551616*H+L) / 2^k=L / 2^k+2^(64-k)*H:=by
    conv=>lhs;rw[e]
    rw[Nat.mul_assoc,Nat.add_comm,Nat.add_mul_div_left _ _ hp]
  have h2:=Nat.div_add_mod H (2^k)
  have e2:2^(64-k)*H=18446744073709551616*(H / 2^k)+2^(64-k)*(H % 2^k):=by
    conv=>lhs;rw[←h2]
    rw[Nat.mul_add,←Nat.mul_assoc,Nat.mul_comm (2^(64-k)),←e]
  rw[e1,e2]
  have hlt:L / 2^k+2^(64-k)*(H % 2^k)<18446744073709551616:=by
    have h3:=Nat.mod_lt H hp
    have h4:2^(64-k)*(H % 2^k+1)≤2^(64-k)*2^k:=Nat.mul_le_mul_left _ h3
    rw[Nat.mul_comm (2^(64-k)) (2^k),←e,Nat.mul_add,Nat.mul_one] at h4
    omega
  omega
end Go.Plim

namespace Go.Plim
set_option linter.unusedVariables false
theorem compl_and:∀(k a b:Nat),a+b+1=2^k→a &&& b=0:=by
  intro k
  induction k with
  | zero => intro a b h; have : a = 0 := by simp at h; omega
            rw[this];simp
  | succ k ih =>
    intro a b h
    rw[Nat.pow_succ] at h
    have h1:(a &&& b) % 2≠1:=by rw[ne_eq,Nat.and_mod_two_eq_one];omega
    have h2:(a &&& b) / 2=0:=by rw[Nat.and_div_two];exact ih _ _ (by omega)
    omega
theorem low_bit {x:Nat} (h0:0<x) (h:x<18446744073709551616):x &&& (18446744073709551616-x)=2^tz 64 x:=by
  obtain ⟨a1,a2,a3⟩:=tz_spec 64 x h0 h
  generalize hs:tz 64 x=s at *
  generalize x / 2^s=o at *
  have e:18446744073709551616=2^s*2^(64-s):=by rw[←Nat.pow_add,show s+(64-s)=64 by omega]
  have hp:=Nat.two_pow_pos s
  have e1:18446744073709551616-x=2^s*(2^(64-s)-o):=by rw[Nat.mul_sub,←e,←a2]
  have ho:o<2^(64-s):=by
    rcases Nat.lt_or_ge o (2^(64-s)) with q | q
    · exact q
    · have:=Nat.mul_le_mul_left (2^s) q;rw[←e,←a2] at this;omega
  obtain ⟨c,hc⟩:∃c,2^(64-s)=2*2^c:=⟨63-s,by rw[show 64-s=(63-s)+1 by omega,Nat.pow_succ,Nat.mul_comm]⟩
  have e2:o &&& (2^(64-s)-o)=1:=by
    have h1:(o &&& (2^(64-s)-o)) % 2=1:=by rw[Nat.and_mod_two_eq_one];omega
    have h2:(o &&& (2^(64-s)-o)) / 2=0:=by rw[Nat.and_div_two];exact compl_and c _ _ (by omega)
    omega
  rw[e1]
  conv=>lhs;rw[a2]
  rw[Nat.mul_comm (2^s) o,Nat.mul_comm (2^s),←Nat.shiftLeft_eq,←Nat.shiftLeft_eq,←Nat.shiftLeft_and_distrib,e2,Nat.shiftLeft_eq,Nat.one_mul]
theorem tz_lo {x:Nat} (h:x<340282366920938463463374607431768211456) (h0:0<x % 18446744073709551616):tz 128 x=tz 64 (x % 18446744073709551616):=by
  obtain ⟨a1,a2,a3⟩:=tz_spec 64 _ h0 (Nat.mod_lt x (by decide))
  generalize tz 64 (x % 18446744073709551616)=s at *
  have e:18446744073709551616=2^s*(2*2^(63-s)):=by rw[←Nat.pow_succ',←Nat.pow_add,show s+(63-s).succ=64 by omega]
  have hp:=Nat.two_pow_pos s
  have h2:=Nat.div_add_mod x 18446744073709551616
  generalize x % 18446744073709551616=L at *
  generalize x / 18446744073709551616=H at *
  generalize L / 2^s=o at *
  have e1:x=2^s*(2*(2^(63-s)*H)+o):=by
    rw[Nat.mul_add,←a2,←Nat.mul_assoc 2,←Nat.mul_assoc (2^s),←e];omega
  refine tz_unique (by omega) h ?_ ?_
  · rw[e1,Nat.mul_mod_right]
  · rw[e1,Nat.mul_div_cancel_left _ hp];omega
theorem tz_hi {x:Nat} (h:x<340282366920938463463374607431768211456) (h0:x % 18446744073709551616=0) (hx:0<x):tz 128 x=64+tz 64 (x / 18446744073709551616):=by
  have hH:0<x / 18446744073709551616:=by omega
  obtain ⟨a1,a2,a3⟩:=tz_spec 64 _ hH (by omega)
  generalize tz 64 (x / 18446744073709551616)=s at *
  have h2:=Nat.div_add_mod x 18446744073709551616
  generalize x / 18446744073709551616=H at *
  generalize H / 2^s=o at *
  have hp:=Nat.two_pow_pos (64+s)
  have e1:x=2^(64+s)*o:=by
    rw[Nat.pow_add,Nat.mul_assoc,←a2];omega
  refine tz_unique hx h ?_ ?_
  · rw[e1,Nat.mul_mod_right]
  · rw[e1,Nat.mul_div_cancel_left _ hp];exact a3
theorem bl_shift {k x s:Nat} (h:x<2^k) (hs:2^s≤x):bl k x=s+bl k (x / 2^s):=by
  have hp:=Nat.two_pow_pos s
  have h0:0<x / 2^s:=Nat.div_pos hs hp
  have h1:x / 2^s<2^k:=Nat.lt_of_le_of_lt (Nat.div_le_self _ _) h
  obtain ⟨a1,a2,a3⟩:=bl_spec k (x / 2^s) h1
  obtain ⟨b1,b2⟩:=a2 h0
  obtain ⟨c,hc⟩:∃c,bl k (x / 2^s)=c+1:=⟨bl k (x / 2^s)-1,by omega⟩
  rw[hc] at a1 b2 ⊢
  rw[Nat.add_sub_cancel] at b2
  rw[←Nat.add_assoc]
  refine bl_unique h (by omega) ?_ ?_
  · rw[Nat.pow_add,Nat.mul_comm]
    exact (Nat.le_div_iff_mul_le hp).1 b2
  · rw[Nat.add_assoc,Nat.pow_add,Nat.mul_comm]
    exact (Nat.div_lt_iff_lt_mul hp).1 a1
theorem bl_wider {k m x:Nat} (h:x<2^k) (h':x<2^m):bl k x=bl m x:=by
  rcases Nat.eq_zero_or_pos x with q | q
  · subst q;rw[bl_zero,bl_zero]
  · obtain ⟨a1,a2,_⟩:=bl_spec m x h'
    obtain ⟨b1,b2⟩:=a2 q
    obtain ⟨c,hc⟩:∃c,bl m x=c+1:=⟨bl m x-1,by omega⟩
    rw[hc] at a1 b2 ⊢
    rw[Nat.add_sub_cancel] at b2
    exact bl_unique h q b2 a1
theorem bl_up {a d k:Nat} (ha:a<2^128) (hd:d<2^128) (hk:bl 128 d+k≤bl 128 a) (h0:0<a):d*2^k<2^128:=by
  obtain ⟨a1,a2,a3⟩:=bl_spec 128 a ha
  obtain ⟨d1,d2,d3⟩:=bl_spec 128 d hd
  have h1:d*2^k<2^bl 128 d*2^k:=Nat.mul_lt_mul_of_pos_right d1 (Nat.two_pow_pos k)
  rw[←Nat.pow_add] at h1
  exact Nat.lt_of_lt_of_le h1 (Nat.pow_le_pow_right (by decide) (by omega))
theorem bl_over {a d:Nat} (ha:a<2^128) (hd:d<2^128) (h0:0<d):a<d*2^(bl 128 a-bl 128 d+1):=by
  obtain ⟨a1,a2,a3⟩:=bl_spec 128 a ha
  obtain ⟨d1,d2,d3⟩:=bl_spec 128 d hd
  obtain ⟨b1,b2⟩:=d2 h0
  have h1:2^(bl 128 d-1)*2^(bl 128 a-bl 128 d+1)≤d*2^(bl 128 a-bl 128 d+1):=Nat.mul_le_mul_right _ b2
  rw[←Nat.pow_add] at h1
  have h2:2^bl 128 a≤2^(bl 128 d-1+(bl 128 a-bl 128 d+1)):=Nat.pow_le_pow_right (by decide) (by omega)
  omega
theorem bl_less {a d:Nat} (ha:a<2^128) (hd:d<2^128) (h:bl 128 a<bl 128 d):a<d:=by
  obtain ⟨a1,a2,a3⟩:=bl_spec 128 a ha
  obtain ⟨d1,d2,d3⟩:=bl_spec 128 d hd
  rcases Nat.eq_zero_or_pos d with q | q
  · subst q;rw[bl_zero] at h;omega
  · obtain ⟨b1,b2⟩:=d2 q
    have:2^bl 128 a≤2^(bl 128 d-1):=Nat.pow_le_pow_right (by decide) (by omega)
    omega
def byt (v j:Nat):Nat:=v / 256^j % 256
theorem byt_or {v i:Nat} (h:2^(i+1) ∣ v) (j:Nat):byt (v+2^i) j=if i / 8=j then byt v j ||| 2^(i % 8) else byt v j:=by
  unfold byt
  have e:(256:Nat)^j=2^(8*j):=by rw[Nat.pow_mul]
  rw[←or_pow h,e,Nat.or_div_two_pow,show (256:Nat)=2^8 from rfl,Nat.or_mod_two_pow]
  have e2:2^i / 2^(8*j) % 2^8=if i / 8=j then 2^(i % 8) else 0:=by
    rcases Nat.lt_or_ge i (8*j) with q | q
    · rw[Nat.div_eq_of_lt (Nat.pow_lt_pow_right (by decide) q),if_neg (by omega)]
    · rw[Nat.pow_div q (by decide)]
      split
      · rw[show i-8*j=i % 8 by omega]
        exact Nat.mod_eq_of_lt (Nat.pow_lt_pow_right (by decide) (Nat.mod_lt _ (by decide)))
      · obtain ⟨c,hc⟩:∃c,i-8*j=8+c:=⟨i-8*j-8,by omega⟩
        rw[hc,Nat.pow_add,Nat.mul_mod_right]
  rw[e2]
  split
  · rfl
  · rw[Nat.or_zero]
theorem byt_lt (v j:Nat):byt v j<256:=Nat.mod_lt _ (by decide)
theorem bit_byt (v i:Nat):byt v (i / 8) / 2^(i % 8) % 2=v / 2^i % 2:=by
  unfold byt
  have e:(256:Nat)^(i / 8)=2^(8*(i / 8)):=by rw[Nat.pow_mul]
  obtain ⟨c,hc⟩:∃c,(256:Nat)=2^(i % 8)*(2*2^c):=⟨7-i % 8,by rw[←Nat.pow_succ',←Nat.pow_add,show i % 8+(7-i % 8).succ=8 by have:=Nat.mod_lt i (show 0<8 by decide);omega]⟩
  rw[e]
  generalize hw:v / 2^(8*(i / 8))=w
  have e1:v / 2^i=w / 2^(i % 8):=by
    rw[←hw,Nat.div_div_eq_div_mul,←Nat.pow_add,show 8*(i / 8)+i % 8=i by omega]
  rw[e1]
  conv=>lhs;rw[hc]
  rw[Nat.mod_mul_right_div_self,Nat.mod_mul_right_mod]
end Go.Plim

namespace Go.Proofs.YtefpnjjbopdplaaGreatDoor
open Go.Flat Go.Plim
set_option linter.unusedVariables false
set_option linter.unusedSimpArgs false
theorem shr_nat (x:Int) (k:Nat) (hk:k≤64):shrI .u64 x (k:Int)=x / 2^k:=by
  unfold shrI
  rw[show min (k:Int).toNat IntKind.u64.bits=k from by show min (k:Int).toNat 64=k;omega]
  exact Int.fdiv_eq_ediv_of_nonneg _ (Int.le_of_lt (Int.pow_pos (by decide)))
theorem and_mask (x:Int) (k:Nat) (hk:k≤63) (h:0≤x) (h':x≤18446744073709551615):andI .u64 x ((2^k-1:Nat):Int)=x % ((2^k:Nat):Int):=by
  obtain ⟨a,rfl⟩:=Int.eq_ofNat_of_zero_le h
  have hp:2^k≤2^63:=Nat.pow_le_pow_right (by decide) hk
  have h63:(2:Nat)^63=9223372036854775808:=by decide
  unfold andI
  have e:(BitVec.ofInt IntKind.u64.bits (a:Int) &&& BitVec.ofInt IntKind.u64.bits ((2^k-1:Nat):Int)).toNat=a % 2^k:=by
    show (BitVec.ofInt 64 (a:Int) &&& BitVec.ofInt 64 ((2^k-1:Nat):Int)).toNat=_
    rw[BitVec.toNat_and,BitVec.ofInt_natCast,BitVec.ofInt_natCast,BitVec.toNat_ofNat,BitVec.toNat_ofNat,Nat.mod_eq_of_lt (a:=a) (by omega),Nat.mod_eq_of_lt (a:=2^k-1) (by omega),Nat.and_two_pow_sub_one_eq_mod]
  rw[e]
  have:a % 2^k<2^k:=Nat.mod_lt _ (Nat.pow_pos (by decide))
  rw[wu64 (by omega) (by omega)]
  simp
theorem or_add (a x:Int) (k:Nat) (hk:k≤56) (ha:0≤a) (ha':a<((2^k:Nat):Int)) (hx:0≤x) (hx':x≤255) :
    orI .u64 a (shlI .u64 (IntKind.wrap .u64 x) (k:Int))=a+x*((2^k:Nat):Int):=by
  obtain ⟨a,rfl⟩:=Int.eq_ofNat_of_zero_le ha
  obtain ⟨c,rfl⟩:=Int.eq_ofNat_of_zero_le hx
  have hp:2^k≤2^56:=Nat.pow_le_pow_right (by decide) hk
  have h56:(2:Nat)^56=72057594037927936:=by decide
  have hc:c*2^k≤255*2^k:=Nat.mul_le_mul_right _ (by omega)
  have e1:shlI .u64 (IntKind.wrap .u64 (c:Int)) (k:Int)=((c*2^k:Nat):Int):=by
    rw[wu64 (by omega) (by omega)]
    show IntKind.wrap .u64 ((c:Int)*2^(min (k:Int).toNat 64))=_
    rw[show min (k:Int).toNat 64=k by omega]
    have:(c:Int)*2^k=((c*2^k:Nat):Int):=by simp
    rw[this,wu64 (by omega) (by omega)]
  rw[e1]
  unfold orI
  have e2:(BitVec.ofInt IntKind.u64.bits (a:Int) ||| BitVec.ofInt IntKind.u64.bits ((c*2^k:Nat):Int)).toNat=c*2^k+a:=by
    show (BitVec.ofInt 64 (a:Int) ||| BitVec.ofInt 64 ((c*2^k:Nat):Int)).toNat=_
    rw[BitVec.toNat_or,BitVec.ofInt_natCast,BitVec.ofInt_natCast,BitVec.toNat_ofNat,BitVec.toNat_ofNat,Nat.mod_eq_of_lt (by omega),Nat.mod_eq_of_lt (by omega)]
    have:=Nat.two_pow_add_eq_or_of_lt (i:=k) (b:=a) (by omega) c
    rw[Nat.mul_comm c (2^k),this,Nat.or_comm]
  rw[e2,wu64 (by omega) (by omega)]
  simp[Int.add_comm]
theorem or_zero (a b:Int) (ha:0≤a∧a≤18446744073709551615) (hb:0≤b∧b≤18446744073709551615):orI .u64 a b=0↔a=0∧b=0:=by
  obtain ⟨a,rfl⟩:=Int.eq_ofNat_of_zero_le ha.1
  obtain ⟨b,rfl⟩:=Int.eq_ofNat_of_zero_le hb.1
  unfold orI
  have e2:(BitVec.ofInt IntKind.u64.bits (a:Int) ||| BitVec.ofInt IntKind.u64.bits (b:Int)).toNat=a ||| b:=by
    show (BitVec.ofInt 64 (a:Int) ||| BitVec.ofInt 64 (b:Int)).toNat=_
    rw[BitVec.toNat_or,BitVec.ofInt_natCast,BitVec.ofInt_natCast,BitVec.toNat_ofNat,BitVec.toNat_ofNat,Nat.mod_eq_of_lt (by omega),Nat.mod_eq_of_lt (by omega)]
  rw[e2]
  have:a ||| b<2^64:=Nat.or_lt_two_pow (by omega) (by omega)
  rw[wu64 (by omega) (by omega)]
  have h3:a ||| b=0↔a=0∧b=0:=Nat.or_eq_zero_iff
  omega
theorem wide_of (n:Nat) (x:Int):wide_Of (n+1) x=some (0,x):=wide_Of_eq n x
theorem wide_sure_val (n:Nat) (a:Wd) (o:Int):wide_sure (n+1) a o=some (if o=0 then (a,0) else ((0,0),1)):=by
  rw[wide_sure_eq]
  by_cases h:o=0<;>simp[h]
theorem wide_add (n:Nat) {a b:Wd} (ha:WdOk a) (hb:WdOk b):wide_Add (n+2) a b=some (addW a b):=by
  obtain ⟨h1,h2⟩:=ha
  obtain ⟨h3,h4⟩:=hb
  obtain ⟨ah,al⟩:=a
  obtain ⟨bh,bl⟩:=b
  simp only at h1 h2 h3 h4
  rw[wide_Add_eq]
  simp only[tif_and,tfd,if_pos h2.1,if_pos h4.1,if_pos h1.1,if_pos h3.1,tft,if_pos (show (0:Int)≤(al+bl+0) / 18446744073709551616 by omega),if_pos (show (al+bl+0) / 18446744073709551616≤(1:Int) by omega),wide_sure_val,obs]
  unfold addW
  have ea:wv (ah,al)=ah*18446744073709551616+al:=rfl
  have eb:wv (bh,bl)=bh*18446744073709551616+bl:=rfl
  generalize wv (ah,al)=va at *
  generalize wv (bh,bl)=vb at *
  by_cases hc:va+vb<340282366920938463463374607431768211456
  · rw[if_pos hc,if_pos (by omega)]
    simp only[mkW]
    congr 2
    exact Prod.ext (by simp only;omega) (by simp only;omega)
  · rw[if_neg hc,if_neg (by omega)]
theorem wide_less (n:Nat) {a b:Wd} (ha:WdOk a) (hb:WdOk b):wide_Less (n+1) a b=some (decide (wv a<wv b)):=by
  obtain ⟨h1,h2⟩:=ha
  obtain ⟨h3,h4⟩:=hb
  obtain ⟨ah,al⟩:=a
  obtain ⟨bh,bl⟩:=b
  simp only at h1 h2 h3 h4
  rw[wide_Less_eq]
  have ea:wv (ah,al)=ah*18446744073709551616+al:=rfl
  have eb:wv (bh,bl)=bh*18446744073709551616+bl:=rfl
  generalize wv (ah,al)=va at *
  generalize wv (bh,bl)=vb at *
  simp only[tfd]
  by_cases c1:ah<bh
  · rw[if_pos c1,decide_eq_true (by omega)]
  · rw[if_neg c1]
    by_cases c2:ah=bh
    · rw[if_pos c2];congr 1
      exact decide_eq_decide.2 (by omega)
    · rw[if_neg c2,decide_eq_false (by omega)]
theorem mul64 (n:Nat) (x y:Int) (hx:0≤x∧x≤18446744073709551615) (hy:0≤y∧y≤18446744073709551615):math_bits_Mul64 (n+1) x y=some (x*y / 18446744073709551616,x*y % 18446744073709551616):=by
  rw[math_bits_Mul64_eq]
  have sh:∀z:Int,shrI .u64 z (32:Int)=z / 4294967296:=fun z=>shr_nat z 32 (by decide)
  have an:∀z:Int,0≤z→z≤18446744073709551615→andI .u64 z (4294967295:Int)=z % 4294967296:=fun z h h'=>and_mask z 32 (by decide) h h'
  rw[an x hx.1 hx.2,an y hy.1 hy.2]
  simp only[sh]
  have b1:0≤x / 4294967296∧x / 4294967296≤4294967295:=by omega
  have b2:0≤y / 4294967296∧y / 4294967296≤4294967295:=by omega
  have b3:0≤x % 4294967296∧x % 4294967296≤4294967295:=by omega
  have b4:0≤y % 4294967296∧y % 4294967296≤4294967295:=by omega
  have ex:x=x / 4294967296*4294967296+x % 4294967296:=by omega
  have ey:y=y / 4294967296*4294967296+y % 4294967296:=by omega
  generalize hx1:x / 4294967296=x1 at *
  generalize hx0:x % 4294967296=x0 at *
  generalize hy1:y / 4294967296=y1 at *
  generalize hy0:y % 4294967296=y0 at *
  have bound:∀ {u v:Int},0≤u∧u≤4294967295→0≤v∧v≤4294967295→0≤u*v∧u*v≤18446744065119617025:=fun {u v} hu hv =>
    ⟨Int.mul_nonneg hu.1 hv.1,Int.le_trans (Int.mul_le_mul hu.2 hv.2 hv.1 (by decide)) (by decide)⟩
  have p11:=bound b1 b2
  have p10:=bound b1 b4
  have p01:=bound b3 b2
  have p00:=bound b3 b4
  have exy:x*y=x1*y1*18446744073709551616+(x1*y0+x0*y1)*4294967296+x0*y0:=by
    rw[ex,ey]
    simp only[Int.add_mul,Int.mul_add]
    have q1:x1*4294967296*(y1*4294967296)=x1*y1*18446744073709551616:=by
      rw[Int.mul_assoc,Int.mul_left_comm 4294967296 y1,←Int.mul_assoc];rfl
    have q2:x0*(y1*4294967296)=x0*y1*4294967296:=by rw[Int.mul_assoc]
    have q3:x1*4294967296*y0=x1*y0*4294967296:=by rw[Int.mul_assoc,Int.mul_comm 4294967296 y0,←Int.mul_assoc]
    rw[q1,q2,q3];omega
  rw[exy]
  generalize x1*y1=a11 at *
  generalize x1*y0=a10 at *
  generalize x0*y1=a01 at *
  generalize x0*y0=a00 at *
  rw[wu64 (x:=a00) (by omega) (by omega),wu64 (x:=a11) (by omega) (by omega),wu64 (x:=a10) (by omega) (by omega),wu64 (x:=a01) (by omega) (by omega)]
  rw[wu64 (x:=a10+a00 / 4294967296) (by omega) (by omega),an _ (by omega) (by omega)]
  rw[wu64 (x:=a11+(a10+a00 / 4294967296) / 4294967296) (by omega) (by omega),wu64 (x:=(a10+a00 / 4294967296) % 4294967296+a01) (by omega) (by omega),wu64 (by omega) (by omega)]
  have wm:∀z:Int,IntKind.wrap .u64 z=z % 18446744073709551616:=fun z=>IntKind.wrap_u64 z
  rw[wm]
  congr 2
  omega
def timesW (a:Wd) (k:Int):Wd×Int:=if wv a*k<340282366920938463463374607431768211456 then (mkW (wv a*k),0) else ((0,0),1)
theorem wide_times (n:Nat) {a:Wd} (ha:WdOk a) (k:Int) (hk:0≤k∧k≤18446744073709551615):wide_Times (n+2) a k=some (timesW a k):=by
  obtain ⟨h1,h2⟩:=ha
  obtain ⟨ah,al⟩:=a
  simp only at h1 h2
  rw[wide_Times_eq,mul64 n al k h2 hk,mul64 n ah k h1 hk]
  simp only[obs]
  have bd:∀ {u:Int},0≤u∧u≤18446744073709551615→0≤u*k∧u*k≤340282366920938463426481119284349108225:=fun {u} hu =>
    ⟨Int.mul_nonneg hu.1 hk.1,Int.le_trans (Int.mul_le_mul hu.2 hk.2 hk.1 (by decide)) (by decide)⟩
  have b1:=bd h1
  have b2:=bd h2
  unfold timesW
  have e:wv (ah,al)*k=ah*k*18446744073709551616+al*k:=by
    simp only[wv]
    rw[Int.add_mul,Int.mul_assoc,Int.mul_comm 18446744073709551616 k,←Int.mul_assoc]
  rw[e]
  generalize ah*k=p at *
  generalize al*k=q at *
  simp only[tif_and,tfd,tft,if_pos (show (0:Int)≤p % 18446744073709551616 by omega),if_pos (show (0:Int)≤q / 18446744073709551616 by omega),wide_sure_val,obs]
  have ho:=or_zero (p / 18446744073709551616) ((p % 18446744073709551616+q / 18446744073709551616+0) / 18446744073709551616) (by omega) (by omega)
  by_cases hc:p*18446744073709551616+q<340282366920938463463374607431768211456
  · rw[if_pos hc,if_pos (ho.2 (by omega))]
    simp only[mkW]
    congr 2
    exact Prod.ext (by simp only;omega) (by simp only;omega)
  · rw[if_neg hc,if_neg (fun h=>by have:=ho.1 h;omega)]
abbrev B16:=(Int×(Int×(Int×(Int×(Int×(Int×(Int×(Int×(Int×(Int×(Int×(Int×(Int×(Int×(Int×Int)))))))))))))))
def Byt (x:Int):Prop:=0≤x∧x≤255
theorem bytes8 (v:Int) (h:0≤v∧v≤18446744073709551615):∃x0 x1 x2 x3 x4 x5 x6 x7:Int,(Byt x0∧Byt x1∧Byt x2∧Byt x3∧Byt x4∧Byt x5∧Byt x6∧Byt x7)∧v=x0+x1*256+x2*65536+x3*16777216+x4*4294967296+x5*1099511627776+x6*281474976710656+x7*72057594037927936 ∧
    v % 256=x0∧v / 256 % 256=x1∧v / 65536 % 256=x2∧v / 16777216 % 256=x3∧v / 4294967296 % 256=x4∧v / 1099511627776 % 256=x5∧v / 281474976710656 % 256=x6∧v / 72057594037927936 % 256=x7:=by
  refine ⟨v % 256,v / 256 % 256,v / 65536 % 256,v / 16777216 % 256,v / 4294967296 % 256,v / 1099511627776 % 256,v / 281474976710656 % 256,v / 72057594037927936 % 256,?_,?_,rfl,rfl,rfl,rfl,rfl,rfl,rfl,rfl⟩
  · simp only[Byt];omega
  · have e2:v / 65536=v / 256 / 256:=by omega
    have e3:v / 16777216=v / 65536 / 256:=by omega
    have e4:v / 4294967296=v / 16777216 / 256:=by omega
    have e5:v / 1099511627776=v / 4294967296 / 256:=by omega
    have e6:v / 281474976710656=v / 1099511627776 / 256:=by omega
    have e7:v / 72057594037927936=v / 281474976710656 / 256:=by omega
    have e8:v / 72057594037927936 / 256=0:=by omega
    omega
theorem r01_bytes (n:Nat) {a:Wd} (ha:WdOk a):∃x0 x1 x2 x3 x4 x5 x6 x7 x8 x9 x10 x11 x12 x13 x14 x15:Int,r01_Bytes (n+1) a=some (x0,x1,x2,x3,x4,x5,x6,x7,x8,x9,x10,x11,x12,x13,x14,x15)∧(Byt x0∧Byt x1∧Byt x2∧Byt x3∧Byt x4∧Byt x5∧Byt x6∧Byt x7∧Byt x8∧Byt x9∧Byt x10∧Byt x11∧Byt x12∧Byt x13∧Byt x14∧Byt x15)∧a.2=x0+x1*256+x2*65536+x3*16777216+x4*4294967296+x5*1099511627776+x6*281474976710656+x7*72057594037927936∧a.1=x8+x9*256+x10*65536+x11*16777216+x12*4294967296+x13*1099511627776+x14*281474976710656+x15*72057594037927936:=by
  obtain ⟨x0,x1,x2,x3,x4,x5,x6,x7,⟨b0,b1,b2,b3,b4,b5,b6,b7⟩,hv,e0,e1,e2,e3,e4,e5,e6,e7⟩:=bytes8 a.2 ha.lo
  obtain ⟨x8,x9,x10,x11,x12,x13,x14,x15,⟨b8,b9,b10,b11,b12,b13,b14,b15⟩,hv',e8,e9,e10,e11,e12,e13,e14,e15⟩:=bytes8 a.1 ha.hi
  refine ⟨x0,x1,x2,x3,x4,x5,x6,x7,x8,x9,x10,x11,x12,x13,x14,x15,?_,⟨b0,b1,b2,b3,b4,b5,b6,b7,b8,b9,b10,b11,b12,b13,b14,b15⟩,hv,hv'⟩
  have an:∀z:Int,0≤z→z≤18446744073709551615→andI .u64 z (255:Int)=z % 256:=fun z h h'=>and_mask z 8 (by decide) h h'
  have s0:∀z:Int,shrI .u64 z (0:Int)=z / 1:=fun z=>shr_nat z 0 (by decide)
  have s1:∀z:Int,shrI .u64 z (8:Int)=z / 256:=fun z=>shr_nat z 8 (by decide)
  have s2:∀z:Int,shrI .u64 z (16:Int)=z / 65536:=fun z=>shr_nat z 16 (by decide)
  have s3:∀z:Int,shrI .u64 z (24:Int)=z / 16777216:=fun z=>shr_nat z 24 (by decide)
  have s4:∀z:Int,shrI .u64 z (32:Int)=z / 4294967296:=fun z=>shr_nat z 32 (by decide)
  have s5:∀z:Int,shrI .u64 z (40:Int)=z / 1099511627776:=fun z=>shr_nat z 40 (by decide)
  have s6:∀z:Int,shrI .u64 z (48:Int)=z / 281474976710656:=fun z=>shr_nat z 48 (by decide)
  have s7:∀z:Int,shrI .u64 z (56:Int)=z / 72057594037927936:=fun z=>shr_nat z 56 (by decide)
  have h1:=ha.lo
  have h2:=ha.hi
  rw[r01_Bytes_eq]
  simp only[s0,s1,s2,s3,s4,s5,s6,s7,Int.ediv_one]
  rw[an (a.2) (by omega) (by omega),e0,w64 (x:=x0) (by have:=b0.1;omega) (by have:=b0.2;omega)]
  rw[an (a.2 / 256) (by omega) (by omega),e1,w64 (x:=x1) (by have:=b1.1;omega) (by have:=b1.2;omega)]
  rw[an (a.2 / 65536) (by omega) (by omega),e2,w64 (x:=x2) (by have:=b2.1;omega) (by have:=b2.2;omega)]
  rw[an (a.2 / 16777216) (by omega) (by omega),e3,w64 (x:=x3) (by have:=b3.1;omega) (by have:=b3.2;omega)]
  rw[an (a.2 / 4294967296) (by omega) (by omega),e4,w64 (x:=x4) (by have:=b4.1;omega) (by have:=b4.2;omega)]
  rw[an (a.2 / 1099511627776) (by omega) (by omega),e5,w64 (x:=x5) (by have:=b5.1;omega) (by have:=b5.2;omega)]
  rw[an (a.2 / 281474976710656) (by omega) (by omega),e6,w64 (x:=x6) (by have:=b6.1;omega) (by have:=b6.2;omega)]
  rw[an (a.2 / 72057594037927936) (by omega) (by omega),e7,w64 (x:=x7) (by have:=b7.1;omega) (by have:=b7.2;omega)]
  rw[an (a.1) (by omega) (by omega),e8,w64 (x:=x8) (by have:=b8.1;omega) (by have:=b8.2;omega)]
  rw[an (a.1 / 256) (by omega) (by omega),e9,w64 (x:=x9) (by have:=b9.1;omega) (by have:=b9.2;omega)]
  rw[an (a.1 / 65536) (by omega) (by omega),e10,w64 (x:=x10) (by have:=b10.1;omega) (by have:=b10.2;omega)]
  rw[an (a.1 / 16777216) (by omega) (by omega),e11,w64 (x:=x11) (by have:=b11.1;omega) (by have:=b11.2;omega)]
  rw[an (a.1 / 4294967296) (by omega) (by omega),e12,w64 (x:=x12) (by have:=b12.1;omega) (by have:=b12.2;omega)]
  rw[an (a.1 / 1099511627776) (by omega) (by omega),e13,w64 (x:=x13) (by have:=b13.1;omega) (by have:=b13.2;omega)]
  rw[an (a.1 / 281474976710656) (by omega) (by omega),e14,w64 (x:=x14) (by have:=b14.1;omega) (by have:=b14.2;omega)]
  rw[an (a.1 / 72057594037927936) (by omega) (by omega),e15,w64 (x:=x15) (by have:=b15.1;omega) (by have:=b15.2;omega)]
theorem r01_of (n:Nat) {x0 x1 x2 x3 x4 x5 x6 x7 x8 x9 x10 x11 x12 x13 x14 x15:Int} (b0:Byt x0) (b1:Byt x1) (b2:Byt x2) (b3:Byt x3) (b4:Byt x4) (b5:Byt x5) (b6:Byt x6) (b7:Byt x7) (b8:Byt x8) (b9:Byt x9) (b10:Byt x10) (b11:Byt x11) (b12:Byt x12) (b13:Byt x13) (b14:Byt x14) (b15:Byt x15):r01_Of (n+1) (x0,x1,x2,x3,x4,x5,x6,x7,x8,x9,x10,x11,x12,x13,x14,x15)=some (x8+x9*256+x10*65536+x11*16777216+x12*4294967296+x13*1099511627776+x14*281474976710656+x15*72057594037927936,x0+x1*256+x2*65536+x3*16777216+x4*4294967296+x5*1099511627776+x6*281474976710656+x7*72057594037927936):=by
  rw[r01_Of_eq]
  simp only[Byt] at *
  have q0:orI .u64 ((0:Int)) (shlI .u64 (IntKind.wrap .u64 x0) (0:Int))=(0:Int)+x0*1:=or_add _ _ 0 (by decide) (by omega) (by show _<(1:Int);omega) b0.1 b0.2
  have q1:orI .u64 ((0:Int)+x0*1) (shlI .u64 (IntKind.wrap .u64 x1) (8:Int))=(0:Int)+x0*1+x1*256:=or_add _ _ 8 (by decide) (by omega) (by show _<(256:Int);omega) b1.1 b1.2
  have q2:orI .u64 ((0:Int)+x0*1+x1*256) (shlI .u64 (IntKind.wrap .u64 x2) (16:Int))=(0:Int)+x0*1+x1*256+x2*65536:=or_add _ _ 16 (by decide) (by omega) (by show _<(65536:Int);omega) b2.1 b2.2
  have q3:orI .u64 ((0:Int)+x0*1+x1*256+x2*65536) (shlI .u64 (IntKind.wrap .u64 x3) (24:Int))=(0:Int)+x0*1+x1*256+x2*65536+x3*16777216:=or_add _ _ 24 (by decide) (by omega) (by show _<(16777216:Int);omega) b3.1 b3.2
  have q4:orI .u64 ((0:Int)+x0*1+x1*256+x2*65536+x3*16777216) (shlI .u64 (IntKind.wrap .u64 x4) (32:Int))=(0:Int)+x0*1+x1*256+x2*65536+x3*16777216+x4*4294967296:=or_add _ _ 32 (by decide) (by omega) (by show _<(4294967296:Int);omega) b4.1 b4.2
  have q5:orI .u64 ((0:Int)+x0*1+x1*256+x2*65536+x3*16777216+x4*4294967296) (shlI .u64 (IntKind.wrap .u64 x5) (40:Int))=(0:Int)+x0*1+x1*256+x2*65536+x3*16777216+x4*4294967296+x5*1099511627776:=or_add _ _ 40 (by decide) (by omega) (by show _<(1099511627776:Int);omega) b5.1 b5.2
  have q6:orI .u64 ((0:Int)+x0*1+x1*256+x2*65536+x3*16777216+x4*4294967296+x5*1099511627776) (shlI .u64 (IntKind.wrap .u64 x6) (48:Int))=(0:Int)+x0*1+x1*256+x2*65536+x3*16777216+x4*4294967296+x5*1099511627776+x6*281474976710656:=or_add _ _ 48 (by decide) (by omega) (by show _<(281474976710656:Int);omega) b6.1 b6.2
  have q7:orI .u64 ((0:Int)+x0*1+x1*256+x2*65536+x3*16777216+x4*4294967296+x5*1099511627776+x6*281474976710656) (shlI .u64 (IntKind.wrap .u64 x7) (56:Int))=(0:Int)+x0*1+x1*256+x2*65536+x3*16777216+x4*4294967296+x5*1099511627776+x6*281474976710656+x7*72057594037927936:=or_add _ _ 56 (by decide) (by omega) (by show _<(72057594037927936:Int);omega) b7.1 b7.2
  have q8:orI .u64 ((0:Int)) (shlI .u64 (IntKind.wrap .u64 x8) (0:Int))=(0:Int)+x8*1:=or_add _ _ 0 (by decide) (by omega) (by show _<(1:Int);omega) b8.1 b8.2
  have q9:orI .u64 ((0:Int)+x8*1) (shlI .u64 (IntKind.wrap .u64 x9) (8:Int))=(0:Int)+x8*1+x9*256:=or_add _ _ 8 (by decide) (by omega) (by show _<(256:Int);omega) b9.1 b9.2
  have q10:orI .u64 ((0:Int)+x8*1+x9*256) (shlI .u64 (IntKind.wrap .u64 x10) (16:Int))=(0:Int)+x8*1+x9*256+x10*65536:=or_add _ _ 16 (by decide) (by omega) (by show _<(65536:Int);omega) b10.1 b10.2
  have q11:orI .u64 ((0:Int)+x8*1+x9*256+x10*65536) (shlI .u64 (IntKind.wrap .u64 x11) (24:Int))=(0:Int)+x8*1+x9*256+x10*65536+x11*16777216:=or_add _ _ 24 (by decide) (by omega) (by show _<(16777216:Int);omega) b11.1 b11.2
  have q12:orI .u64 ((0:Int)+x8*1+x9*256+x10*65536+x11*16777216) (shlI .u64 (IntKind.wrap .u64 x12) (32:Int))=(0:Int)+x8*1+x9*256+x10*65536+x11*16777216+x12*4294967296:=or_add _ _ 32 (by decide) (by omega) (by show _<(4294967296:Int);omega) b12.1 b12.2
  have q13:orI .u64 ((0:Int)+x8*1+x9*256+x10*65536+x11*16777216+x12*4294967296) (shlI .u64 (IntKind.wrap .u64 x13) (40:Int))=(0:Int)+x8*1+x9*256+x10*65536+x11*16777216+x12*4294967296+x13*1099511627776:=or_add _ _ 40 (by decide) (by omega) (by show _<(1099511627776:Int);omega) b13.1 b13.2
  have q14:orI .u64 ((0:Int)+x8*1+x9*256+x10*65536+x11*16777216+x12*4294967296+x13*1099511627776) (shlI .u64 (IntKind.wrap .u64 x14) (48:Int))=(0:Int)+x8*1+x9*256+x10*65536+x11*16777216+x12*4294967296+x13*1099511627776+x14*281474976710656:=or_add _ _ 48 (by decide) (by omega) (by show _<(281474976710656:Int);omega) b14.1 b14.2
  have q15:orI .u64 ((0:Int)+x8*1+x9*256+x10*65536+x11*16777216+x12*4294967296+x13*1099511627776+x14*281474976710656) (shlI .u64 (IntKind.wrap .u64 x15) (56:Int))=(0:Int)+x8*1+x9*256+x10*65536+x11*16777216+x12*4294967296+x13*1099511627776+x14*281474976710656+x15*72057594037927936:=or_add _ _ 56 (by decide) (by omega) (by show _<(72057594037927936:Int);omega) b15.1 b15.2
  rw[q8,q9,q10,q11,q12,q13,q14,q15,q0,q1,q2,q3,q4,q5,q6,q7]
  congr 2
  · omega
  · omega
theorem r01_less (n:Nat) {a b:Wd} (ha:WdOk a) (hb:WdOk b):r01_Less (n+2) a b=some (decide (wv a<wv b)):=by
  obtain ⟨x0,x1,x2,x3,x4,x5,x6,x7,x8,x9,x10,x11,x12,x13,x14,x15,hx,⟨b0,b1,b2,b3,b4,b5,b6,b7,b8,b9,b10,b11,b12,b13,b14,b15⟩,va,va'⟩:=r01_bytes n ha
  obtain ⟨y0,y1,y2,y3,y4,y5,y6,y7,y8,y9,y10,y11,y12,y13,y14,y15,hy,⟨d0,d1,d2,d3,d4,d5,d6,d7,d8,d9,d10,d11,d12,d13,d14,d15⟩,vb,vb'⟩:=r01_bytes n hb
  rw[r01_Less_eq,hx,hy]
  simp only[obs,tfn,tfd]
  simp only[Byt] at *
  have ea:wv a=a.1*18446744073709551616+a.2:=rfl
  have eb:wv b=b.1*18446744073709551616+b.2:=rfl
  rw[va,va'] at ea
  rw[vb,vb'] at eb
  clear va va' vb vb' hx hy ha hb
  generalize wv a=va at *
  generalize wv b=vb at *
  by_cases c15:x15=y15
  case neg=>rw[if_neg c15];congr 1;exact decide_eq_decide.2 (by omega)
  rw[if_pos c15]
  subst c15
  by_cases c14:x14=y14
  case neg=>rw[if_neg c14];congr 1;exact decide_eq_decide.2 (by omega)
  rw[if_pos c14]
  subst c14
  by_cases c13:x13=y13
  case neg=>rw[if_neg c13];congr 1;exact decide_eq_decide.2 (by omega)
  rw[if_pos c13]
  subst c13
  by_cases c12:x12=y12
  case neg=>rw[if_neg c12];congr 1;exact decide_eq_decide.2 (by omega)
  rw[if_pos c12]
  subst c12
  by_cases c11:x11=y11
  case neg=>rw[if_neg c11];congr 1;exact decide_eq_decide.2 (by omega)
  rw[if_pos c11]
  subst c11
  by_cases c10:x10=y10
  case neg=>rw[if_neg c10];congr 1;exact decide_eq_decide.2 (by omega)
  rw[if_pos c10]
  subst c10
  by_cases c9:x9=y9
  case neg=>rw[if_neg c9];congr 1;exact decide_eq_decide.2 (by omega)
  rw[if_pos c9]
  subst c9
  by_cases c8:x8=y8
  case neg=>rw[if_neg c8];congr 1;exact decide_eq_decide.2 (by omega)
  rw[if_pos c8]
  subst c8
  by_cases c7:x7=y7
  case neg=>rw[if_neg c7];congr 1;exact decide_eq_decide.2 (by omega)
  rw[if_pos c7]
  subst c7
  by_cases c6:x6=y6
  case neg=>rw[if_neg c6];congr 1;exact decide_eq_decide.2 (by omega)
  rw[if_pos c6]
  subst c6
  by_cases c5:x5=y5
  case neg=>rw[if_neg c5];congr 1;exact decide_eq_decide.2 (by omega)
  rw[if_pos c5]
  subst c5
  by_cases c4:x4=y4
  case neg=>rw[if_neg c4];congr 1;exact decide_eq_decide.2 (by omega)
  rw[if_pos c4]
  subst c4
  by_cases c3:x3=y3
  case neg=>rw[if_neg c3];congr 1;exact decide_eq_decide.2 (by omega)
  rw[if_pos c3]
  subst c3
  by_cases c2:x2=y2
  case neg=>rw[if_neg c2];congr 1;exact decide_eq_decide.2 (by omega)
  rw[if_pos c2]
  subst c2
  by_cases c1:x1=y1
  case neg=>rw[if_neg c1];congr 1;exact decide_eq_decide.2 (by omega)
  rw[if_pos c1]
  subst c1
  by_cases c0:x0=y0
  case neg=>rw[if_neg c0];congr 1;exact decide_eq_decide.2 (by omega)
  rw[if_pos c0]
  subst c0
  rw[decide_eq_false (by omega)]
def cN (x y m:Int):Int:=IntKind.wrap .i64 (Int.tdiv (IntKind.wrap .i64 ((IntKind.wrap .i64 (x+y))+m)) (256:Int))
def dN (x y m:Int):Int:=Int.tmod (IntKind.wrap .i64 ((IntKind.wrap .i64 (x+y))+m)) (256:Int)
theorem digit (x y m:Int) (hx:Byt x) (hy:Byt y) (hm:0≤m∧m≤1):(0≤cN x y m∧cN x y m≤1)∧Byt (dN x y m)∧x+y+m=256*cN x y m+dN x y m:=by
  obtain ⟨h1,h2⟩:=hx
  obtain ⟨h3,h4⟩:=hy
  unfold cN dN Byt
  rw[w64 (x:=x+y) (by omega) (by omega),w64 (x:=x+y+m) (by omega) (by omega),tdiv_nn (by omega),tmod_nn (by omega),w64 (by omega) (by omega)]
  omega
theorem r01_add (n:Nat) {a b:Wd} (ha:WdOk a) (hb:WdOk b):r01_Add (n+2) a b=some (addW a b):=by
  obtain ⟨x0,x1,x2,x3,x4,x5,x6,x7,x8,x9,x10,x11,x12,x13,x14,x15,hx,⟨b0,b1,b2,b3,b4,b5,b6,b7,b8,b9,b10,b11,b12,b13,b14,b15⟩,va,va'⟩:=r01_bytes n ha
  obtain ⟨y0,y1,y2,y3,y4,y5,y6,y7,y8,y9,y10,y11,y12,y13,y14,y15,hy,⟨d0,d1,d2,d3,d4,d5,d6,d7,d8,d9,d10,d11,d12,d13,d14,d15⟩,vb,vb'⟩:=r01_bytes n hb
  rw[r01_Add_eq,hx,hy]
  simp only[obs]
  show tif (decide ((0:Int)<(cN x15 y15 (cN x14 y14 (cN x13 y13 (cN x12 y12 (cN x11 y11 (cN x10 y10 (cN x9 y9 (cN x8 y8 (cN x7 y7 (cN x6 y6 (cN x5 y5 (cN x4 y4 (cN x3 y3 (cN x2 y2 (cN x1 y1 (cN x0 y0 (0:Int))))))))))))))))))) (some (((0:Int),(0:Int)),(1:Int))) (obind (r01_Of (n+1) (dN x0 y0 (0:Int),dN x1 y1 (cN x0 y0 (0:Int)),dN x2 y2 (cN x1 y1 (cN x0 y0 (0:Int))),dN x3 y3 (cN x2 y2 (cN x1 y1 (cN x0 y0 (0:Int)))),dN x4 y4 (cN x3 y3 (cN x2 y2 (cN x1 y1 (cN x0 y0 (0:Int))))),dN x5 y5 (cN x4 y4 (cN x3 y3 (cN x2 y2 (cN x1 y1 (cN x0 y0 (0:Int)))))),dN x6 y6 (cN x5 y5 (cN x4 y4 (cN x3 y3 (cN x2 y2 (cN x1 y1 (cN x0 y0 (0:Int))))))),dN x7 y7 (cN x6 y6 (cN x5 y5 (cN x4 y4 (cN x3 y3 (cN x2 y2 (cN x1 y1 (cN x0 y0 (0:Int)))))))),dN x8 y8 (cN x7 y7 (cN x6 y6 (cN x5 y5 (cN x4 y4 (cN x3 y3 (cN x2 y2 (cN x1 y1 (cN x0 y0 (0:Int))))))))),dN x9 y9 (cN x8 y8 (cN x7 y7 (cN x6 y6 (cN x5 y5 (cN x4 y4 (cN x3 y3 (cN x2 y2 (cN x1 y1 (cN x0 y0 (0:Int)))))))))),dN x10 y10 (cN x9 y9 (cN x8 y8 (cN x7 y7 (cN x6 y6 (cN x5 y5 (cN x4 y4 (cN x3 y3 (cN x2 y2 (cN x1 y1 (cN x0 y0 (0:Int))))))))))),dN x11 y11 (cN x10 y10 (cN x9 y9 (cN x8 y8 (cN x7 y7 (cN x6 y6 (cN x5 y5 (cN x4 y4 (cN x3 y3 (cN x2 y2 (cN x1 y1 (cN x0 y0 (0:Int)))))))))))),dN x12 y12 (cN x11 y11 (cN x10 y10 (cN x9 y9 (cN x8 y8 (cN x7 y7 (cN x6 y6 (cN x5 y5 (cN x4 y4 (cN x3 y3 (cN x2 y2 (cN x1 y1 (cN x0 y0 (0:Int))))))))))))),dN x13 y13 (cN x12 y12 (cN x11 y11 (cN x10 y10 (cN x9 y9 (cN x8 y8 (cN x7 y7 (cN x6 y6 (cN x5 y5 (cN x4 y4 (cN x3 y3 (cN x2 y2 (cN x1 y1 (cN x0 y0 (0:Int)))))))))))))),dN x14 y14 (cN x13 y13 (cN x12 y12 (cN x11 y11 (cN x10 y10 (cN x9 y9 (cN x8 y8 (cN x7 y7 (cN x6 y6 (cN x5 y5 (cN x4 y4 (cN x3 y3 (cN x2 y2 (cN x1 y1 (cN x0 y0 (0:Int))))))))))))))),dN x15 y15 (cN x14 y14 (cN x13 y13 (cN x12 y12 (cN x11 y11 (cN x10 y10 (cN x9 y9 (cN x8 y8 (cN x7 y7 (cN x6 y6 (cN x5 y5 (cN x4 y4 (cN x3 y3 (cN x2 y2 (cN x1 y1 (cN x0 y0 (0:Int)))))))))))))))))) fun r2=>some (r2,(0:Int)))=_
  obtain ⟨k0,g0,z0⟩:=digit x0 y0 (0:Int) b0 d0 (by omega)
  generalize cN x0 y0 (0:Int)=c0 at *
  generalize dN x0 y0 (0:Int)=t0 at *
  obtain ⟨k1,g1,z1⟩:=digit x1 y1 c0 b1 d1 (by omega)
  generalize cN x1 y1 c0=c1 at *
  generalize dN x1 y1 c0=t1 at *
  obtain ⟨k2,g2,z2⟩:=digit x2 y2 c1 b2 d2 (by omega)
  generalize cN x2 y2 c1=c2 at *
  generalize dN x2 y2 c1=t2 at *
  obtain ⟨k3,g3,z3⟩:=digit x3 y3 c2 b3 d3 (by omega)
  generalize cN x3 y3 c2=c3 at *
  generalize dN x3 y3 c2=t3 at *
  obtain ⟨k4,g4,z4⟩:=digit x4 y4 c3 b4 d4 (by omega)
  generalize cN x4 y4 c3=c4 at *
  generalize dN x4 y4 c3=t4 at *
  obtain ⟨k5,g5,z5⟩:=digit x5 y5 c4 b5 d5 (by omega)
  generalize cN x5 y5 c4=c5 at *
  generalize dN x5 y5 c4=t5 at *
  obtain ⟨k6,g6,z6⟩:=digit x6 y6 c5 b6 d6 (by omega)
  generalize cN x6 y6 c5=c6 at *
  generalize dN x6 y6 c5=t6 at *
  obtain ⟨k7,g7,z7⟩:=digit x7 y7 c6 b7 d7 (by omega)
  generalize cN x7 y7 c6=c7 at *
  generalize dN x7 y7 c6=t7 at *
  obtain ⟨k8,g8,z8⟩:=digit x8 y8 c7 b8 d8 (by omega)
  generalize cN x8 y8 c7=c8 at *
  generalize dN x8 y8 c7=t8 at *
  obtain ⟨k9,g9,z9⟩:=digit x9 y9 c8 b9 d9 (by omega)
  generalize cN x9 y9 c8=c9 at *
  generalize dN x9 y9 c8=t9 at *
  obtain ⟨k10,g10,z10⟩:=digit x10 y10 c9 b10 d10 (by omega)
  generalize cN x10 y10 c9=c10 at *
  generalize dN x10 y10 c9=t10 at *
  obtain ⟨k11,g11,z11⟩:=digit x11 y11 c10 b11 d11 (by omega)
  generalize cN x11 y11 c10=c11 at *
  generalize dN x11 y11 c10=t11 at *
  obtain ⟨k12,g12,z12⟩:=digit x12 y12 c11 b12 d12 (by omega)
  generalize cN x12 y12 c11=c12 at *
  generalize dN x12 y12 c11=t12 at *
  obtain ⟨k13,g13,z13⟩:=digit x13 y13 c12 b13 d13 (by omega)
  generalize cN x13 y13 c12=c13 at *
  generalize dN x13 y13 c12=t13 at *
  obtain ⟨k14,g14,z14⟩:=digit x14 y14 c13 b14 d14 (by omega)
  generalize cN x14 y14 c13=c14 at *
  generalize dN x14 y14 c13=t14 at *
  obtain ⟨k15,g15,z15⟩:=digit x15 y15 c14 b15 d15 (by omega)
  generalize cN x15 y15 c14=c15 at *
  generalize dN x15 y15 c14=t15 at *
  rw[r01_of n g0 g1 g2 g3 g4 g5 g6 g7 g8 g9 g10 g11 g12 g13 g14 g15]
  simp only[tfd,obs]
  have e:wv a+wv b=c15*340282366920938463463374607431768211456+((t8+t9*256+t10*65536+t11*16777216+t12*4294967296+t13*1099511627776+t14*281474976710656+t15*72057594037927936)*18446744073709551616+(t0+t1*256+t2*65536+t3*16777216+t4*4294967296+t5*1099511627776+t6*281474976710656+t7*72057594037927936)):=by
    simp only[wv];omega
  have r1:0≤t8+t9*256+t10*65536+t11*16777216+t12*4294967296+t13*1099511627776+t14*281474976710656+t15*72057594037927936∧t8+t9*256+t10*65536+t11*16777216+t12*4294967296+t13*1099511627776+t14*281474976710656+t15*72057594037927936≤18446744073709551615:=by simp only[Byt] at *;omega
  have r2:0≤t0+t1*256+t2*65536+t3*16777216+t4*4294967296+t5*1099511627776+t6*281474976710656+t7*72057594037927936∧t0+t1*256+t2*65536+t3*16777216+t4*4294967296+t5*1099511627776+t6*281474976710656+t7*72057594037927936≤18446744073709551615:=by simp only[Byt] at *;omega
  generalize t8+t9*256+t10*65536+t11*16777216+t12*4294967296+t13*1099511627776+t14*281474976710656+t15*72057594037927936=hi at *
  generalize t0+t1*256+t2*65536+t3*16777216+t4*4294967296+t5*1099511627776+t6*281474976710656+t7*72057594037927936=lo at *
  clear va va' vb vb'
  unfold addW
  by_cases hc:(0:Int)<c15
  · rw[if_pos hc,if_neg (by omega)]
  · rw[if_neg hc,if_pos (by omega)]
    simp only[mkW]
    refine congrArg (fun z=>some (z,(0:Int))) (Prod.ext ?_ ?_)
    · simp only;omega
    · simp only;omega
theorem wrapN (x:Nat):IntKind.wrap .u64 (x:Int)=((x % 18446744073709551616:Nat):Int):=by
  rw[IntKind.wrap_u64];omega
theorem shlN (x k:Nat) (hk:k≤64):shlI .u64 (x:Int) (k:Int)=((x*2^k % 18446744073709551616:Nat):Int):=by
  show IntKind.wrap .u64 ((x:Int)*2^(min (k:Int).toNat 64))=_
  rw[show min (k:Int).toNat 64=k by omega,←wrapN]
  congr 1
theorem shrN (x k:Nat) (hk:k≤64):shrI .u64 (x:Int) (k:Int)=((x / 2^k:Nat):Int):=by
  rw[shr_nat _ _ hk];simp
theorem orN {x y:Nat} (hx:x<18446744073709551616) (hy:y<18446744073709551616):orI .u64 (x:Int) (y:Int)=((x ||| y:Nat):Int):=by
  unfold orI
  have e2:(BitVec.ofInt IntKind.u64.bits (x:Int) ||| BitVec.ofInt IntKind.u64.bits (y:Int)).toNat=x ||| y:=by
    show (BitVec.ofInt 64 (x:Int) ||| BitVec.ofInt 64 (y:Int)).toNat=_
    rw[BitVec.toNat_or,BitVec.ofInt_natCast,BitVec.ofInt_natCast,BitVec.toNat_ofNat,BitVec.toNat_ofNat,Nat.mod_eq_of_lt (by omega),Nat.mod_eq_of_lt (by omega)]
  rw[e2]
  have:x ||| y<2^64:=Nat.or_lt_two_pow (by omega) (by omega)
  exact wu64 (by omega) (by omega)
theorem andN {x y:Nat} (hx:x<18446744073709551616) (hy:y<18446744073709551616):andI .u64 (x:Int) (y:Int)=((x &&& y:Nat):Int):=by
  unfold andI
  have e2:(BitVec.ofInt IntKind.u64.bits (x:Int) &&& BitVec.ofInt IntKind.u64.bits (y:Int)).toNat=x &&& y:=by
    show (BitVec.ofInt 64 (x:Int) &&& BitVec.ofInt 64 (y:Int)).toNat=_
    rw[BitVec.toNat_and,BitVec.ofInt_natCast,BitVec.ofInt_natCast,BitVec.toNat_ofNat,BitVec.toNat_ofNat,Nat.mod_eq_of_lt (by omega),Nat.mod_eq_of_lt (by omega)]
  rw[e2]
  have:x &&& y≤x:=Nat.and_le_left
  exact wu64 (by omega) (by omega)
theorem or_parts {H L k:Nat} (h:L<2^k):H*2^k ||| L=H*2^k+L:=by
  rw[Nat.mul_comm]
  exact (Nat.two_pow_add_eq_or_of_lt h H).symm
end Go.Proofs.YtefpnjjbopdplaaGreatDoor
namespace Go.Proofs.YtefpnjjbopdplaaGreatDoor
open Go.Flat Go.Plim
set_option linter.unusedVariables false
def lenT:List UInt8 :=
  bs_2753755
theorem len64_tree (n:Nat) (x:Int):math_bits_Len64 (n+1) x =
  tif ((decide ((4294967296:Int)≤x))) (
  tif ((decide ((65536:Int)≤(shrI .u64 x (32:Int))))) (
  tif ((decide ((256:Int)≤(shrI .u64 (shrI .u64 x (32:Int)) (16:Int))))) (
  obind (at? lenT (IntKind.wrap .u8 (shrI .u64 (shrI .u64 (shrI .u64 x (32:Int)) (16:Int)) (8:Int)))) fun r0 =>
  some (IntKind.wrap .i64 ((56:Int)+(IntKind.wrap .i64 (((UInt8.toNat r0):Nat):Int))))) (
  obind (at? lenT (IntKind.wrap .u8 (shrI .u64 (shrI .u64 x (32:Int)) (16:Int)))) fun r1 =>
  some (IntKind.wrap .i64 ((48:Int)+(IntKind.wrap .i64 (((UInt8.toNat r1):Nat):Int)))))) (
  tif ((decide ((256:Int)≤(shrI .u64 x (32:Int))))) (
  obind (at? lenT (IntKind.wrap .u8 (shrI .u64 (shrI .u64 x (32:Int)) (8:Int)))) fun r2 =>
  some (IntKind.wrap .i64 ((40:Int)+(IntKind.wrap .i64 (((UInt8.toNat r2):Nat):Int))))) (
  obind (at? lenT (IntKind.wrap .u8 (shrI .u64 x (32:Int)))) fun r3 =>
  some (IntKind.wrap .i64 ((32:Int)+(IntKind.wrap .i64 (((UInt8.toNat r3):Nat):Int))))))) (
  tif ((decide ((65536:Int)≤x))) (
  tif ((decide ((256:Int)≤(shrI .u64 x (16:Int))))) (
  obind (at? lenT (IntKind.wrap .u8 (shrI .u64 (shrI .u64 x (16:Int)) (8:Int)))) fun r4 =>
  some (IntKind.wrap .i64 ((24:Int)+(IntKind.wrap .i64 (((UInt8.toNat r4):Nat):Int))))) (
  obind (at? lenT (IntKind.wrap .u8 (shrI .u64 x (16:Int)))) fun r5 =>
  some (IntKind.wrap .i64 ((16:Int)+(IntKind.wrap .i64 (((UInt8.toNat r5):Nat):Int)))))) (
  tif ((decide ((256:Int)≤x))) (
  obind (at? lenT (IntKind.wrap .u8 (shrI .u64 x (8:Int)))) fun r6 =>
  some (IntKind.wrap .i64 ((8:Int)+(IntKind.wrap .i64 (((UInt8.toNat r6):Nat):Int))))) (
  obind (at? lenT (IntKind.wrap .u8 x)) fun r7 =>
  some (IntKind.wrap .i64 ((0:Int)+(IntKind.wrap .i64 (((UInt8.toNat r7):Nat):Int))))))):=math_bits_Len64_eq n x
theorem lenT_all:((List.range 256).all fun z=>match lenT[z]? with | some r=>decide (r.toNat=bl 64 z) | none=>false)=true:=by decide +kernel
end Go.Proofs.YtefpnjjbopdplaaGreatDoor
namespace Go.Proofs.YtefpnjjbopdplaaGreatDoor
open Go.Flat Go.Plim
set_option linter.unusedVariables false
set_option linter.unusedSimpArgs false
theorem ratio_none_val (n x:Nat):ratio_none (n+1) (ofN x)=some (decide (x=0)):=by
  rw[ratio_none_eq,ofN_zero]
theorem up_small {x k:Nat} (hk:k≤128) (h:x*2^k<340282366920938463463374607431768211456):x<2^(128-k):=by
  have e:340282366920938463463374607431768211456=2^(128-k)*2^k:=by rw[←Nat.pow_add,show 128-k+k=128 by omega]
  rw[e] at h
  exact Nat.lt_of_mul_lt_mul_right h
theorem ratio_up_val (n x k:Nat) (hk:k<128) (h:x*2^k<340282366920938463463374607431768211456):ratio_up (n+1) (ofN x) (k:Int)=some (ofN (x*2^k)):=by
  rw[ratio_up_eq]
  simp only[tfd]
  by_cases c:64≤k
  · have e:(k:Int)-64=((k-64:Nat):Int):=by omega
    have hx:x<18446744073709551616:=Nat.lt_of_lt_of_le (up_small (by omega) h) (show 2^(128-k)≤2^64 from Nat.pow_le_pow_right (by decide) (by omega))
    have e2:x*2^k=18446744073709551616*(x*2^(k-64)):=by
      rw[show (18446744073709551616:Nat)=2^64 from rfl,Nat.mul_left_comm,←Nat.pow_add,show 64+(k-64)=k by omega]
    rw[if_pos (by omega),w64 (by omega) (by omega),if_neg (by omega),e]
    show some (shlI .u64 ((x % 18446744073709551616:Nat):Int) _,_)=some (((x*2^k / 18446744073709551616:Nat):Int),((x*2^k % 18446744073709551616:Nat):Int))
    rw[shlN _ _ (by omega),Nat.mod_eq_of_lt hx,e2,Nat.mul_div_cancel_left _ (by decide),Nat.mul_mod_right]
    rw[e2] at h
    have:x*2^(k-64)<18446744073709551616:=Nat.lt_of_mul_lt_mul_left (show 18446744073709551616*(x*2^(k-64))<18446744073709551616*18446744073709551616 from h)
    rw[Nat.mod_eq_of_lt this];rfl
  · have e:(64:Int)-k=((64-k:Nat):Int):=by omega
    obtain ⟨a1,a2,a3⟩:=half_up (show k<64 by omega) h
    rw[if_neg (by omega),if_neg (by omega),w64 (by omega) (by omega),if_neg (by omega),if_neg (by omega),e]
    show some (orI .u64 (shlI .u64 ((x / 18446744073709551616:Nat):Int) _) (shrI .u64 ((x % 18446744073709551616:Nat):Int) _),shlI .u64 ((x % 18446744073709551616:Nat):Int) _)=some (((x*2^k / 18446744073709551616:Nat):Int),((x*2^k % 18446744073709551616:Nat):Int))
    have hq:x*2^k / 18446744073709551616<18446744073709551616:=Nat.div_lt_of_lt_mul h
    have h1:x / 18446744073709551616*2^k<18446744073709551616:=Nat.lt_of_le_of_lt (by rw[←a1];exact Nat.le_add_right _ _) hq
    have h2:x % 18446744073709551616 / 2^(64-k)<18446744073709551616:=Nat.lt_of_le_of_lt (Nat.div_le_self _ _) (Nat.mod_lt _ (by decide))
    rw[shlN _ _ (by omega),shrN _ _ (by omega),shlN _ _ (by omega),Nat.mod_eq_of_lt h1,orN h1 h2,or_parts a2,a1,a3]
theorem ratio_down_val (n x k:Nat) (hk:k<128) (h:x<340282366920938463463374607431768211456):ratio_down (n+1) (ofN x) (k:Int)=some (ofN (x / 2^k)):=by
  rw[ratio_down_eq]
  simp only[tfd]
  have hq:x / 18446744073709551616<18446744073709551616:=Nat.div_lt_of_lt_mul h
  by_cases c:64≤k
  · have e:(k:Int)-64=((k-64:Nat):Int):=by omega
    rw[if_pos (by omega),w64 (by omega) (by omega),if_neg (by omega),e]
    show some (_,shrI .u64 ((x / 18446744073709551616:Nat):Int) _)=some (((x / 2^k / 18446744073709551616:Nat):Int),((x / 2^k % 18446744073709551616:Nat):Int))
    have e2:x / 2^k=x / 18446744073709551616 / 2^(k-64):=by
      rw[Nat.div_div_eq_div_mul,show (18446744073709551616:Nat)=2^64 from rfl,←Nat.pow_add,show 64+(k-64)=k by omega]
    have hlt:x / 18446744073709551616 / 2^(k-64)<18446744073709551616:=Nat.lt_of_le_of_lt (Nat.div_le_self _ _) hq
    rw[shrN _ _ (by omega),e2,Nat.div_eq_of_lt hlt,Nat.mod_eq_of_lt hlt];rfl
  · have e:(64:Int)-k=((64-k:Nat):Int):=by omega
    obtain ⟨a1,a2,a3,m,a4⟩:=half_down (show k<64 by omega) h
    rw[if_neg (by omega),if_neg (by omega),if_neg (by omega),w64 (by omega) (by omega),if_neg (by omega),e]
    show some (shrI .u64 ((x / 18446744073709551616:Nat):Int) _,orI .u64 (shrI .u64 ((x % 18446744073709551616:Nat):Int) _) (shlI .u64 ((x / 18446744073709551616:Nat):Int) _))=some (((x / 2^k / 18446744073709551616:Nat):Int),((x / 2^k % 18446744073709551616:Nat):Int))
    have h3:x % 18446744073709551616 / 2^k<18446744073709551616:=Nat.lt_of_le_of_lt (Nat.div_le_self _ _) (Nat.mod_lt _ (by decide))
    have h4:x / 18446744073709551616*2^(64-k) % 18446744073709551616<18446744073709551616:=Nat.mod_lt _ (by decide)
    rw[shrN _ _ (by omega),shrN _ _ (by omega),shlN _ _ (by omega),orN h3 h4,Nat.or_comm]
    have a4':x / 18446744073709551616*2^(64-k) % 18446744073709551616=m*2^(64-k):=by rw[Nat.mul_comm m];exact a4
    rw[a4',or_parts a3,←a4',Nat.add_comm]
    rw[show x % 18446744073709551616 / 2^k+x / 18446744073709551616*2^(64-k) % 18446744073709551616=x / 2^k % 18446744073709551616 from a2,show x / 18446744073709551616 / 2^k=x / 2^k / 18446744073709551616 from a1]
theorem wide_sub (n:Nat) {x y:Nat} (hx:x<340282366920938463463374607431768211456) (h:y≤x):wide_Sub (n+2) (ofN x) (ofN y)=some (ofN (x-y),0):=by
  rw[wide_Sub_eq]
  have h1:x / 18446744073709551616<18446744073709551616:=Nat.div_lt_of_lt_mul hx
  have h2:y / 18446744073709551616<18446744073709551616:=Nat.div_lt_of_lt_mul (Nat.lt_of_le_of_lt h hx)
  have h3:x % 18446744073709551616<18446744073709551616:=Nat.mod_lt _ (by decide)
  have h4:y % 18446744073709551616<18446744073709551616:=Nat.mod_lt _ (by decide)
  have e:∀z:Nat,ofN z=(((z / 18446744073709551616:Nat):Int),((z % 18446744073709551616:Nat):Int)):=fun _=>rfl
  rw[e x,e y,e (x-y)]
  have ex:=Nat.div_add_mod x 18446744073709551616
  have ey:=Nat.div_add_mod y 18446744073709551616
  have ez:=Nat.div_add_mod (x-y) 18446744073709551616
  have h5:(x-y) % 18446744073709551616<18446744073709551616:=Nat.mod_lt _ (by decide)
  generalize x / 18446744073709551616=a at *
  generalize x % 18446744073709551616=b at *
  generalize y / 18446744073709551616=c at *
  generalize y % 18446744073709551616=d at *
  generalize (x-y) / 18446744073709551616=p at *
  generalize (x-y) % 18446744073709551616=q at *
  simp only[tif_and,tfd,tft]
  by_cases hb:b<d
  · have hb':(b:Int)<(d:Int)+0:=by omega
    rw[if_pos (by omega),if_pos (by omega),if_pos (by omega),if_pos (by omega),if_pos (by omega),if_pos (by omega),if_pos hb',if_pos (by omega),if_pos (by omega),if_neg (by omega),wide_sure_val,obs,if_pos rfl]
    congr 3<;>omega
  · have hb':¬(b:Int)<(d:Int)+0:=by omega
    rw[if_pos (by omega),if_pos (by omega),if_pos (by omega),if_pos (by omega),if_pos (by omega),if_pos (by omega),if_neg hb',if_pos (by omega),if_pos (by omega),if_neg (by omega),wide_sure_val,obs,if_pos rfl]
    congr 3<;>omega
theorem ratio_less_val (n:Nat) {x y:Nat} (hx:x<340282366920938463463374607431768211456) (h:y≤x):ratio_less (n+3) (ofN x) (ofN y)=some (ofN (x-y)):=by
  rw[ratio_less_eq,wide_sub n hx h];rfl
theorem wide_lessN (n:Nat) {x y:Nat} (hx:x<340282366920938463463374607431768211456) (hy:y<340282366920938463463374607431768211456):wide_Less (n+1) (ofN x) (ofN y)=some (decide (x<y)):=by
  rw[wide_less n (ofN_ok hx) (ofN_ok hy),wv_ofN,wv_ofN]
  congr 1
  exact decide_eq_decide.2 (by omega)
theorem tz_pow (n:Nat):((List.range 64).all fun t=>match bits_tz64 (n+1) ((2^t:Nat):Int) with | some r=>decide (r=(t:Int)) | none=>false)=true:=by kernel_rfl
theorem tz_at (n t:Nat) (ht:t<64):bits_tz64 (n+1) ((2^t:Nat):Int)=some (t:Int):=by
  have h:=List.all_eq_true.1 (tz_pow n) t (List.mem_range.2 ht)
  split at h
  · rename_i r hr;rw[hr,of_decide_eq_true h]
  · cases h
theorem low_term {x:Nat} (h0:0<x) (h:x<18446744073709551616):andI .u64 (x:Int) (IntKind.wrap .u64 ((0:Int)-x))=((2^tz 64 x:Nat):Int):=by
  rw[show IntKind.wrap .u64 ((0:Int)-x)=((18446744073709551616-x:Nat):Int) by rw[IntKind.wrap_u64];omega,andN h (by omega)]
  exact congrArg Int.ofNat (low_bit h0 h)
theorem tz_val (n:Nat) {x:Nat} (h0:0<x) (h:x<18446744073709551616):bits_tz64 (n+1) (x:Int)=some ((tz 64 x:Nat):Int):=by
  have ht:=(tz_spec 64 x h0 h).1
  have hp:=Nat.two_pow_pos (tz 64 x)
  have hp2:2^tz 64 x<18446744073709551616:=Nat.pow_lt_pow_right (a:=2) (by decide) ht
  rw[←tz_at n _ ht]
  have e:tz 64 (2^tz 64 x)=tz 64 x:=tz_unique hp hp2 (Nat.mod_self _) (by rw[Nat.div_self hp])
  rw[bits_tz64_eq,bits_tz64_eq,low_term h0 h,low_term hp hp2,e,decide_eq_false (show ¬((x:Int)=0) by omega),decide_eq_false (show ¬(((2^tz 64 x:Nat):Int)=0) by omega)]
theorem noughts_val (n:Nat) {x:Nat} (h0:0<x) (h:x<340282366920938463463374607431768211456):ratio_noughts (n+2) (ofN x)=some ((tz 128 x:Nat):Int):=by
  rw[ratio_noughts_eq]
  show tif (decide (((x % 18446744073709551616:Nat):Int)=0)) (obind (bits_tz64 (n+1) ((x / 18446744073709551616:Nat):Int)) fun r0=>some (IntKind.wrap .i64 (64+r0))) (obind (bits_tz64 (n+1) ((x % 18446744073709551616:Nat):Int)) fun r1=>some r1)=_
  rw[tfd]
  by_cases c:x % 18446744073709551616=0
  · have h1:0<x / 18446744073709551616:=by omega
    have h2:x / 18446744073709551616<18446744073709551616:=Nat.div_lt_of_lt_mul h
    have ht:=(tz_spec 64 _ h1 h2).1
    rw[if_pos (by omega),tz_val n h1 h2,obs,w64 (by omega) (by omega),tz_hi h c h0]
    congr 1
  · rw[if_neg (by omega),tz_val n (by omega) (Nat.mod_lt _ (by decide)),obs,tz_lo h (by omega)]
theorem lenT_at {z:Nat} (h:z<256):∃r,at? lenT (z:Int)=some r∧r.toNat=bl 64 z:=by
  have h1:=List.all_eq_true.1 lenT_all z (List.mem_range.2 h)
  split at h1
  · rename_i r hr
    refine ⟨r,?_,of_decide_eq_true h1⟩
    unfold at?
    rw[decide_eq_true (by omega)]
    exact hr
  · cases h1
theorem len_leaf {x s K:Nat} {I S:Int} (hK:K=2^s) (hI:I=((x / K:Nat):Int)) (hS:S=s) (h2:x / K<256) (h1:K≤x∨s=0) (hx:x<18446744073709551616) (hs:s≤56) :
    (obind (at? lenT (IntKind.wrap .u8 I)) fun r=>some (IntKind.wrap .i64 (S+IntKind.wrap .i64 (((UInt8.toNat r):Nat):Int))))=some ((bl 64 x:Nat):Int):=by
  obtain ⟨r,hr,hb⟩:=lenT_at h2
  have hle:=(bl_spec 64 (x / K) (Nat.lt_of_le_of_lt (Nat.div_le_self _ _) hx)).2.2
  have e:bl 64 x=s+bl 64 (x / K):=by
    rcases h1 with h1 | rfl
    · rw[hK] at h1 ⊢
      exact bl_shift hx h1
    · subst hK;simp
  rw[hI,e]
  generalize x / K=z at *
  rw[wu8 (by omega) (by omega),hr,obs,hb,w64 (x:=((bl 64 z:Nat):Int)) (by omega) (by omega),hS,w64 (by omega) (by omega)]
  congr 1
theorem len64_val (n:Nat) {x:Nat} (h:x<18446744073709551616):math_bits_Len64 (n+1) (x:Int)=some ((bl 64 x:Nat):Int):=by
  have s32:∀z:Nat,shrI .u64 (z:Int) (32:Int)=((z / 4294967296:Nat):Int):=fun z=>shrN z 32 (by decide)
  have s16:∀z:Nat,shrI .u64 (z:Int) (16:Int)=((z / 65536:Nat):Int):=fun z=>shrN z 16 (by decide)
  have s8:∀z:Nat,shrI .u64 (z:Int) (8:Int)=((z / 256:Nat):Int):=fun z=>shrN z 8 (by decide)
  have h':=h
  rw[len64_tree]
  simp only[s32,s16,s8,tfd]
  by_cases c5:4294967296≤x
  · rw[if_pos (by omega)]
    by_cases c4:65536≤x / 4294967296
    · rw[if_pos (by omega)]
      by_cases c3:256≤x / 4294967296 / 65536
      · rw[if_pos (by omega)]
        exact len_leaf (s:=56) (K:=72057594037927936) rfl (by omega) rfl (by omega) (.inl (by omega)) h (by decide)
      · rw[if_neg (by omega)]
        exact len_leaf (s:=48) (K:=281474976710656) rfl (by omega) rfl (by omega) (.inl (by omega)) h (by decide)
    · rw[if_neg (by omega)]
      by_cases c3:256≤x / 4294967296
      · rw[if_pos (by omega)]
        exact len_leaf (s:=40) (K:=1099511627776) rfl (by omega) rfl (by omega) (.inl (by omega)) h (by decide)
      · rw[if_neg (by omega)]
        exact len_leaf (s:=32) (K:=4294967296) rfl (by omega) rfl (by omega) (.inl (by omega)) h (by decide)
  · rw[if_neg (by omega)]
    by_cases c4:65536≤x
    · rw[if_pos (by omega)]
      by_cases c3:256≤x / 65536
      · rw[if_pos (by omega)]
        exact len_leaf (s:=24) (K:=16777216) rfl (by omega) rfl (by omega) (.inl (by omega)) h (by decide)
      · rw[if_neg (by omega)]
        exact len_leaf (s:=16) (K:=65536) rfl (by omega) rfl (by omega) (.inl (by omega)) h (by decide)
    · rw[if_neg (by omega)]
      by_cases c3:256≤x
      · rw[if_pos (by omega)]
        exact len_leaf (s:=8) (K:=256) rfl (by omega) rfl (by omega) (.inl (by omega)) h (by decide)
      · rw[if_neg (by omega)]
        exact len_leaf (s:=0) (K:=1) rfl (by omega) rfl (by omega) (.inr rfl) h (by decide)
theorem long_val (n:Nat) {x:Nat} (h:x<340282366920938463463374607431768211456):ratio_long (n+2) (ofN x)=some ((bl 128 x:Nat):Int):=by
  rw[ratio_long_eq]
  show tif (!decide (((x / 18446744073709551616:Nat):Int)=0)) (obind (math_bits_Len64 (n+1) ((x / 18446744073709551616:Nat):Int)) fun r0=>some (IntKind.wrap .i64 (64+r0))) (obind (math_bits_Len64 (n+1) ((x % 18446744073709551616:Nat):Int)) fun r1=>some r1)=_
  have hq:x / 18446744073709551616<18446744073709551616:=Nat.div_lt_of_lt_mul h
  rw[tfn,tfd]
  by_cases c:x / 18446744073709551616=0
  · have hx:x<18446744073709551616:=by omega
    rw[if_pos (by omega),len64_val n (Nat.mod_lt _ (by decide)),obs,Nat.mod_eq_of_lt hx,bl_wider (k:=64) (m:=128) hx h]
  · have hle:=(bl_spec 64 (x / 18446744073709551616) hq).2.2
    rw[if_neg (by omega),len64_val n hq,obs,w64 (by omega) (by omega),bl_shift (k:=128) (s:=64) h (by omega)]
    rw[←bl_wider (k:=128) (m:=64) (x:=x / 18446744073709551616) (Nat.lt_of_lt_of_le hq (by decide)) hq]
    congr 1
theorem or_ofN {x y:Nat} (hx:x<340282366920938463463374607431768211456) (hy:y<340282366920938463463374607431768211456):((orI .u64 (ofN x).1 (ofN y).1,orI .u64 (ofN x).2 (ofN y).2):Wd)=ofN (x ||| y):=by
  show ((orI .u64 ((x / 18446744073709551616:Nat):Int) ((y / 18446744073709551616:Nat):Int),orI .u64 ((x % 18446744073709551616:Nat):Int) ((y % 18446744073709551616:Nat):Int)):Wd)=((((x ||| y) / 18446744073709551616:Nat):Int),(((x ||| y) % 18446744073709551616:Nat):Int))
  have e1:(x ||| y) / 18446744073709551616=x / 18446744073709551616 ||| y / 18446744073709551616:=Nat.or_div_two_pow (n:=64)
  have e2:(x ||| y) % 18446744073709551616=x % 18446744073709551616 ||| y % 18446744073709551616:=Nat.or_mod_two_pow (n:=64)
  rw[e1,e2,orN (Nat.div_lt_of_lt_mul hx) (Nat.div_lt_of_lt_mul hy),orN (Nat.mod_lt _ (by decide)) (Nat.mod_lt _ (by decide))]
theorem one_ofN:((0,1):Wd)=ofN 1:=rfl
theorem zero_ofN:((0,0):Wd)=ofN 0:=rfl
theorem whole_l3 (n:Nat) {d A:Nat} (hd:0<d) (hA:A<340282366920938463463374607431768211456) (hdM:d<340282366920938463463374607431768211456) (s4:Wd):∀(k f a q:Nat),q+a / d=A / d→a≤A→a<d*2^k→2^k ∣ q→(k=0∨d*2^(k-1)<340282366920938463463374607431768211456)→k≤128→k<f →
    ratio_whole_l3 (n+3) f (ofN a,ofN d,s4,ofN q,(k:Int)-1,())=some (.inl (s4,ofN (A / d),())):=by
  intro k
  induction k with
  | zero =>
    intro f a q h1 h2 h3 h4 h5 h6 hf
    obtain ⟨f,rfl⟩:∃g,f=g+1:=⟨f-1,by omega⟩
    rw[ratio_whole_l3_eq,decide_eq_false (by omega),tff]
    rw[Nat.pow_zero,Nat.mul_one] at h3
    rw[Nat.div_eq_of_lt h3,Nat.add_zero] at h1
    rw[h1]
  | succ k ih =>
    intro f a q h1 h2 h3 h4 h5 h6 hf
    obtain ⟨f,rfl⟩:∃g,f=g+1:=⟨f-1,by omega⟩
    have h5':d*2^k<340282366920938463463374607431768211456:=by
      rcases h5 with h | h
      · cases h
      · exact h
    have hk5:k=0∨d*2^(k-1)<340282366920938463463374607431768211456:=by
      rcases Nat.eq_zero_or_pos k with e | e
      · exact .inl e
      · refine .inr (Nat.lt_of_le_of_lt (Nat.mul_le_mul_left d (Nat.pow_le_pow_right (by decide) (Nat.sub_le _ _))) h5')
    have hpk:2^k<340282366920938463463374607431768211456:=Nat.lt_of_lt_of_le (Nat.pow_lt_pow_right (a:=2) (n:=128) (by decide) (by omega)) (by decide)
    have eb:((k+1:Nat):Int)-1=(k:Int):=by omega
    have hq2:2^k ∣ q:=Nat.dvd_trans (Nat.pow_dvd_pow 2 (Nat.le_succ k)) h4
    rw[ratio_whole_l3_eq,eb,decide_eq_true (by omega),tft,ratio_up_val (n+2) d k (by omega) h5',obs,wide_lessN (n+2) (by omega) h5',obs,w64 (by omega) (by omega),tfd]
    by_cases hlt:a<d*2^k
    · rw[if_pos hlt]
      exact ih f a q h1 h2 hlt hq2 hk5 (by omega) (by omega)
    · rw[if_neg hlt,ratio_less_val n (by omega) (by omega),obs,wide_of,obs,one_ofN,ratio_up_val (n+2) 1 k (by omega) (by rw[Nat.one_mul];exact hpk),obs,Nat.one_mul]
      have hqA:q≤A / d:=by rw[←h1];exact Nat.le_add_right _ _
      have hqM:q<340282366920938463463374607431768211456:=Nat.lt_of_le_of_lt (Nat.le_trans hqA (Nat.div_le_self _ _)) hA
      rw[or_ofN hqM hpk,or_pow h4]
      refine ih f (a-d*2^k) (q+2^k) ?_ (by omega) ?_ (Nat.dvd_add hq2 (Nat.dvd_refl _)) hk5 (by omega) (by omega)
      · rw[div_part hd (by omega)];exact h1
      · rw[Nat.pow_succ,←Nat.mul_assoc] at h3;omega
theorem ratio_whole_val (n:Nat) {a d:Nat} (ha:a<340282366920938463463374607431768211456) (hd:0<d) (hdM:d<340282366920938463463374607431768211456):ratio_whole (n+4) (ofN a) (ofN d)=some (ofN (a / d)):=by
  have la:=(bl_spec 128 a ha).2.2
  have ld:=(bl_spec 128 d hdM).2
  have ld1:=(ld.1 hd).1
  rw[ratio_whole_eq,long_val (n+1) ha,obs,long_val (n+1) hdM,obs,w64 (by omega) (by omega)]
  by_cases h:bl 128 d≤bl 128 a
  · have h0:0<a:=by
      rcases Nat.eq_zero_or_pos a with e | e
      · rw[e,bl_zero] at h;omega
      · exact e
    have e:((bl 128 a:Nat):Int)-((bl 128 d:Nat):Int)=((bl 128 a-bl 128 d+1:Nat):Int)-1:=by omega
    rw[e,zero_ofN,whole_l3 n hd ha hdM _ (bl 128 a-bl 128 d+1) loopFuel a 0 (by omega) (Nat.le_refl _) (bl_over ha hdM hd) (Nat.dvd_zero _) (.inr (by rw[Nat.add_sub_cancel];exact bl_up ha hdM (by omega) h0)) (by omega) (by unfold loopFuel;omega),obs,selim_inl]
  · have hlt:=bl_less ha hdM (by omega)
    rw[show loopFuel=(2^70-1)+1 from rfl,ratio_whole_l3_eq,decide_eq_false (by omega),tff,obs,selim_inl,Nat.div_eq_of_lt hlt];rfl
theorem gcd_step (n:Nat) {A B f:Nat} (ha0:0<A) (ha:A<340282366920938463463374607431768211456) (hb0:0<B) (hb:B<340282366920938463463374607431768211456) (s4:Wd) (tw:Int):ratio_Gcd_l5 (n+3) (f+1) (ofN A,ofN B,s4,tw,()) =
    if od B<A then ratio_Gcd_l5 (n+3) f (ofN (od B),ofN (A-od B),s4,tw,()) else ratio_Gcd_l5 (n+3) f (ofN A,ofN (od B-A),s4,tw,()):=by
  have ht:=(od_spec hb0 hb).1
  have hle:od B<340282366920938463463374607431768211456:=Nat.lt_of_le_of_lt (od_le B) hb
  rw[ratio_Gcd_l5_eq,ratio_none_val,obs,tfn,decide_eq_false (by omega),tff,noughts_val (n+1) hb0 hb,obs,ratio_down_val (n+2) B _ ht hb,obs]
  change obind (wide_Less (n+3) (ofN (od B)) (ofN A)) _=_
  rw[wide_lessN (n+2) hle ha,obs,tfd]
  by_cases h:od B<A
  · rw[if_pos h,if_pos h]
    change obind (ratio_less (n+3) (ofN A) (ofN (od B))) _=_
    rw[ratio_less_val n ha (by omega),obs];rfl
  · rw[if_neg h,if_neg h]
    change obind (ratio_less (n+3) (ofN (od B)) (ofN A)) _=_
    rw[ratio_less_val n hle (by omega),obs]
theorem gcd_l5 (n:Nat) (s4:Wd) (tw:Int):∀(k f A B:Nat),0<A→A<340282366920938463463374607431768211456→A % 2=1→B<340282366920938463463374607431768211456→B % 2=0→A*B<2^k→k<f →
    ratio_Gcd_l5 (n+3) f (ofN A,ofN B,s4,tw,())=some (.inl (ofN (Nat.gcd A B),s4,tw,())):=by
  intro k
  induction k with
  | zero =>
    intro f A B h1 h2 h3 h4 h5 h6 hf
    obtain ⟨f,rfl⟩:∃g,f=g+1:=⟨f-1,by omega⟩
    have:B=0:=by
      rcases Nat.eq_zero_or_pos B with e | e
      · exact e
      · have:=Nat.mul_pos h1 e;omega
    subst this
    rw[ratio_Gcd_l5_eq,ratio_none_val,obs,tfn,decide_eq_true rfl,tft,Nat.gcd_zero_right]
  | succ k ih =>
    intro f A B h1 h2 h3 h4 h5 h6 hf
    obtain ⟨f,rfl⟩:∃g,f=g+1:=⟨f-1,by omega⟩
    rcases Nat.eq_zero_or_pos B with e | hB
    · subst e
      rw[ratio_Gcd_l5_eq,ratio_none_val,obs,tfn,decide_eq_true rfl,tft,Nat.gcd_zero_right]
    · have hev:=od_even hB h4 h5
      have hod:=(od_spec hB h4).2.2
      have hpos:=od_pos hB h4
      have hg:=gcd_od h3 hB h4
      have hp:A*od B<2^k:=by
        have:A*(2*od B)≤A*B:=Nat.mul_le_mul_left A hev
        rw[Nat.mul_left_comm] at this
        rw[Nat.pow_succ] at h6;omega
      rw[gcd_step n h1 h2 hB h4]
      by_cases h:od B<A
      · rw[if_pos h,ih f (od B) (A-od B) hpos (by omega) hod (by omega) (by omega) (Nat.lt_of_le_of_lt (by rw[Nat.mul_comm A];exact Nat.mul_le_mul_left _ (Nat.sub_le _ _)) hp) (by omega),gcd_less (by omega),Nat.gcd_comm,hg]
      · rw[if_neg h,ih f A (od B-A) h1 h2 h3 (by omega) (by omega) (Nat.lt_of_le_of_lt (Nat.mul_le_mul_left _ (Nat.sub_le _ _)) hp) (by omega),gcd_less (by omega),hg]
theorem gcd_any (n:Nat) (s4:Wd) (tw:Int) {A B:Nat} (h1:0<A) (h2:A<340282366920938463463374607431768211456) (h3:A % 2=1) (hB:0<B) (h4:B<340282366920938463463374607431768211456):ratio_Gcd_l5 (n+3) loopFuel (ofN A,ofN B,s4,tw,())=some (.inl (ofN (Nat.gcd A B),s4,tw,())):=by
  have hod:=(od_spec hB h4).2.2
  have hpos:=od_pos hB h4
  have hle:=od_le B
  have hg:=gcd_od h3 hB h4
  have hm:∀ {x y:Nat},x<340282366920938463463374607431768211456→y<340282366920938463463374607431768211456→x*y<2^256:=fun hx hy=>Nat.lt_of_lt_of_le (Nat.mul_lt_mul'' hx hy) (by decide)
  rw[show loopFuel=(2^70-1)+1 from rfl,gcd_step n h1 h2 hB h4]
  by_cases h:od B<A
  · rw[if_pos h,gcd_l5 n s4 tw 256 _ (od B) (A-od B) hpos (by omega) hod (by omega) (by omega) (hm (by omega) (by omega)) (by decide),gcd_less (by omega),Nat.gcd_comm,hg]
  · rw[if_neg h,gcd_l5 n s4 tw 256 _ A (od B-A) h1 h2 h3 (by omega) (by omega) (hm (by omega) (by omega)) (by decide),gcd_less (by omega),hg]
theorem ratio_gcd (n:Nat) {x y:Nat} (hx:x<340282366920938463463374607431768211456) (hy:y<340282366920938463463374607431768211456):ratio_Gcd (n+4) (ofN x) (ofN y)=some (ofN (Nat.gcd x y)):=by
  rw[ratio_Gcd_eq,ratio_none_val,obs,or_ofN hx hy]
  by_cases h0:x=0
  · subst h0
    rw[decide_eq_true rfl,tft,Nat.gcd_zero_left,Nat.zero_or]
  rw[decide_eq_false h0,tff,ratio_none_val,obs]
  by_cases h1:y=0
  · subst h1
    rw[decide_eq_true rfl,tft,Nat.gcd_zero_right,Nat.or_zero]
  have hx0:0<x:=by omega
  have hy0:0<y:=by omega
  obtain ⟨a1,a2,a3⟩:=od_spec hx0 hx
  obtain ⟨b1,b2,b3⟩:=od_spec hy0 hy
  have hle:od x<340282366920938463463374607431768211456:=Nat.lt_of_le_of_lt (od_le x) hx
  rw[decide_eq_false h1,tff,noughts_val (n+1) hx0 hx,obs,noughts_val (n+1) hy0 hy,obs,obs,ratio_down_val (n+2) x _ a1 hx,obs]
  change obind (ratio_Gcd_l5 (n+3) loopFuel (ofN (od x),ofN y,_,_,())) _=_
  rw[gcd_any n _ _ (od_pos hx0 hx) hle a3 hy0 hy,obs,selim_inl]
  have e:(if ((tz 128 y:Nat):Int)<((tz 128 x:Nat):Int) then ((tz 128 y:Nat):Int) else ((tz 128 x:Nat):Int))=((min (tz 128 x) (tz 128 y):Nat):Int):=by
    split<;>omega
  have hg:=gcd_whole hx0 hx hy0 hy
  have hlt:Nat.gcd x y<340282366920938463463374607431768211456:=Nat.lt_of_le_of_lt (Nat.gcd_le_left y hx0) hx
  simp only
  rw[e,ratio_up_val (n+2) _ _ (by omega) (by rw[←hg];exact hlt),obs,←hg]
def bys (x:Nat):List Int:=(List.range 16).map fun j=>((byt x j:Nat):Int)
theorem bys_len (x:Nat):(bys x).length=16:=by simp[bys]
theorem bys_at (x:Nat) {j:Nat} (h:j<16):(bys x)[j]? = some ((byt x j:Nat):Int):=by
  unfold bys;rw[List.getElem?_map,List.getElem?_range h];rfl
theorem bys_eq (x:Nat):bys x=[((x % 256:Nat):Int),((x / 256 % 256:Nat):Int),((x / 65536 % 256:Nat):Int),((x / 16777216 % 256:Nat):Int),((x / 4294967296 % 256:Nat):Int),((x / 1099511627776 % 256:Nat):Int),((x / 281474976710656 % 256:Nat):Int),((x / 72057594037927936 % 256:Nat):Int),
    ((x / 18446744073709551616 % 256:Nat):Int),((x / 4722366482869645213696 % 256:Nat):Int),((x / 1208925819614629174706176 % 256:Nat):Int),((x / 309485009821345068724781056 % 256:Nat):Int),((x / 79228162514264337593543950336 % 256:Nat):Int),((x / 20282409603651670423947251286016 % 256:Nat):Int),((x / 5192296858534827628530496329220096 % 256:Nat):Int),((x / 1329227995784915872903807060280344576 % 256:Nat):Int)]:=by
  unfold bys byt
  simp[List.range,List.range.loop]
abbrev l16 (r:B16):List Int:=[r.1,r.2.1,r.2.2.1,r.2.2.2.1,r.2.2.2.2.1,r.2.2.2.2.2.1,r.2.2.2.2.2.2.1,r.2.2.2.2.2.2.2.1,r.2.2.2.2.2.2.2.2.1,r.2.2.2.2.2.2.2.2.2.1,r.2.2.2.2.2.2.2.2.2.2.1,r.2.2.2.2.2.2.2.2.2.2.2.1,r.2.2.2.2.2.2.2.2.2.2.2.2.1,r.2.2.2.2.2.2.2.2.2.2.2.2.2.1,r.2.2.2.2.2.2.2.2.2.2.2.2.2.2.1,r.2.2.2.2.2.2.2.2.2.2.2.2.2.2.2]
theorem bys_list (x:Nat):bys x=[((byt x 0:Nat):Int),((byt x 1:Nat):Int),((byt x 2:Nat):Int),((byt x 3:Nat):Int),((byt x 4:Nat):Int),((byt x 5:Nat):Int),((byt x 6:Nat):Int),((byt x 7:Nat):Int),((byt x 8:Nat):Int),((byt x 9:Nat):Int),((byt x 10:Nat):Int),((byt x 11:Nat):Int),((byt x 12:Nat):Int),((byt x 13:Nat):Int),((byt x 14:Nat):Int),((byt x 15:Nat):Int)]:=by
  unfold bys
  simp[List.range,List.range.loop]
theorem digits8 {v x0 x1 x2 x3 x4 x5 x6 x7:Int} (b:Byt x0∧Byt x1∧Byt x2∧Byt x3∧Byt x4∧Byt x5∧Byt x6∧Byt x7) (h:v=x0+x1*256+x2*65536+x3*16777216+x4*4294967296+x5*1099511627776+x6*281474976710656+x7*72057594037927936) :
    x0=v % 256∧x1=v / 256 % 256∧x2=v / 65536 % 256∧x3=v / 16777216 % 256∧x4=v / 4294967296 % 256∧x5=v / 1099511627776 % 256∧x6=v / 281474976710656 % 256∧x7=v / 72057594037927936 % 256:=by
  simp only[Byt] at b
  obtain ⟨⟨_,_⟩,⟨_,_⟩,⟨_,_⟩,⟨_,_⟩,⟨_,_⟩,⟨_,_⟩,⟨_,_⟩,⟨_,_⟩⟩:=b
  refine ⟨?_,?_,?_,?_,?_,?_,?_,?_⟩<;>omega
theorem r01_bytesN (n:Nat) {x:Nat} (h:x<340282366920938463463374607431768211456):∃r:B16,r01_Bytes (n+1) (ofN x)=some r∧l16 r=bys x:=by
  obtain ⟨x0,x1,x2,x3,x4,x5,x6,x7,x8,x9,x10,x11,x12,x13,x14,x15,hr,⟨b0,b1,b2,b3,b4,b5,b6,b7,b8,b9,b10,b11,b12,b13,b14,b15⟩,hlo,hhi⟩:=r01_bytes n (ofN_ok h)
  refine ⟨_,hr,?_⟩
  obtain ⟨c0,c1,c2,c3,c4,c5,c6,c7⟩:=digits8 ⟨b0,b1,b2,b3,b4,b5,b6,b7⟩ hlo
  obtain ⟨d0,d1,d2,d3,d4,d5,d6,d7⟩:=digits8 ⟨b8,b9,b10,b11,b12,b13,b14,b15⟩ hhi
  have elo:(ofN x).2=((x % 18446744073709551616:Nat):Int):=rfl
  have ehi:(ofN x).1=((x / 18446744073709551616:Nat):Int):=rfl
  rw[elo] at c0 c1 c2 c3 c4 c5 c6 c7
  rw[ehi] at d0 d1 d2 d3 d4 d5 d6 d7
  rw[bys_eq]
  simp only[l16]
  clear hr hlo hhi b0 b1 b2 b3 b4 b5 b6 b7 b8 b9 b10 b11 b12 b13 b14 b15
  subst c0 c1 c2 c3 c4 c5 c6 c7 d0 d1 d2 d3 d4 d5 d6 d7
  simp only[List.cons.injEq,and_true]
  refine ⟨?_,?_,?_,?_,?_,?_,?_,?_,?_,?_,?_,?_,?_,?_,?_,?_⟩
  all_goals omega
theorem r01_ofN (n:Nat) {x:Nat} (h:x<340282366920938463463374607431768211456):r01_Of (n+1) (((byt x 0:Nat):Int),((byt x 1:Nat):Int),((byt x 2:Nat):Int),((byt x 3:Nat):Int),((byt x 4:Nat):Int),((byt x 5:Nat):Int),((byt x 6:Nat):Int),((byt x 7:Nat):Int),((byt x 8:Nat):Int),((byt x 9:Nat):Int),((byt x 10:Nat):Int),((byt x 11:Nat):Int),((byt x 12:Nat):Int),((byt x 13:Nat):Int),((byt x 14:Nat):Int),((byt x 15:Nat):Int))=some (ofN x):=by
  obtain ⟨r,hr,hl⟩:=r01_bytesN n h
  obtain ⟨x0,x1,x2,x3,x4,x5,x6,x7,x8,x9,x10,x11,x12,x13,x14,x15,hr',hb,hlo,hhi⟩:=r01_bytes n (ofN_ok h)
  have hr':=Option.some.inj (hr.symm.trans hr')
  subst hr'
  rw[bys_list] at hl
  simp only[l16,List.cons.injEq,and_true] at hl
  obtain ⟨rfl,rfl,rfl,rfl,rfl,rfl,rfl,rfl,rfl,rfl,rfl,rfl,rfl,rfl,rfl,rfl⟩:=hl
  obtain ⟨b0,b1,b2,b3,b4,b5,b6,b7,b8,b9,b10,b11,b12,b13,b14,b15⟩:=hb
  rw[r01_of n b0 b1 b2 b3 b4 b5 b6 b7 b8 b9 b10 b11 b12 b13 b14 b15,←hlo,←hhi]
theorem r01_ofL (n:Nat) {x:Nat} (h:x<340282366920938463463374607431768211456) {R:Type} (k:Wd→Option R) {l:List Int} (hl:l=bys x) :
    (obind (l[0]?) fun r0=>obind (l[1]?) fun r1=>obind (l[2]?) fun r2=>obind (l[3]?) fun r3=>obind (l[4]?) fun r4=>obind (l[5]?) fun r5=>obind (l[6]?) fun r6=>obind (l[7]?) fun r7=>obind (l[8]?) fun r8=>obind (l[9]?) fun r9=>obind (l[10]?) fun r10=>obind (l[11]?) fun r11=>obind (l[12]?) fun r12=>obind (l[13]?) fun r13=>obind (l[14]?) fun r14=>obind (l[15]?) fun r15=>obind (r01_Of (n+1) (r0,(r1,(r2,(r3,(r4,(r5,(r6,(r7,(r8,(r9,(r10,(r11,(r12,(r13,(r14,r15)))))))))))))))) k)=k (ofN x):=by
  subst hl
  have e:∀j:Nat,j<16→(bys x)[j]? = some ((byt x j:Nat):Int):=fun j hj=>bys_at x hj
  rw[e 0 (by decide),e 1 (by decide),e 2 (by decide),e 3 (by decide),e 4 (by decide),e 5 (by decide),e 6 (by decide),e 7 (by decide),e 8 (by decide),e 9 (by decide),e 10 (by decide),e 11 (by decide),e 12 (by decide),e 13 (by decide),e 14 (by decide),e 15 (by decide)]
  simp only[obs,r01_ofN n h]
theorem r01_addN (n:Nat) {x y:Nat} (hx:x<340282366920938463463374607431768211456) (hy:y<340282366920938463463374607431768211456):r01_Add (n+2) (ofN x) (ofN y)=some (if x+y<340282366920938463463374607431768211456 then (ofN (x+y),0) else ((0,0),1)):=by
  rw[r01_add n (ofN_ok hx) (ofN_ok hy)]
  unfold addW
  rw[wv_ofN,wv_ofN]
  have e:(x:Int)+y=((x+y:Nat):Int):=by omega
  rw[e,mkW_nat]
  by_cases h:x+y<340282366920938463463374607431768211456
  · rw[if_pos h,if_pos (by omega)]
  · rw[if_neg h,if_neg (by omega)]
theorem r01_lessN (n:Nat) {x y:Nat} (hx:x<340282366920938463463374607431768211456) (hy:y<340282366920938463463374607431768211456):r01_Less (n+2) (ofN x) (ofN y)=some (decide (x<y)):=by
  rw[r01_less n (ofN_ok hx) (ofN_ok hy),wv_ofN,wv_ofN]
  congr 1
  exact decide_eq_decide.2 (by omega)
def subL (A B i:Nat):List Int:=(List.range 16).map fun j=>(((if j<i then byt (A-B) j else byt A j):Nat):Int)
def owe (A B i:Nat):Nat:=if A % 256^i<B % 256^i then 1 else 0
theorem subL_len (A B i:Nat):(subL A B i).length=16:=by simp[subL]
theorem subL_at (A B i:Nat) {j:Nat} (h:j<16):(subL A B i)[j]? = some (((if j<i then byt (A-B) j else byt A j):Nat):Int):=by
  unfold subL;rw[List.getElem?_map,List.getElem?_range h];rfl
theorem subL_set (A B:Nat) {i:Nat} (h:i<16):(subL A B i).set i ((byt (A-B) i:Nat):Int)=subL A B (i+1):=by
  apply List.ext_getElem?
  intro j
  rw[List.getElem?_set,subL_len]
  by_cases hj:j<16
  · rw[subL_at _ _ _ hj,subL_at _ _ _ hj]
    by_cases e:i=j
    · subst e;rw[if_pos rfl,if_pos h,if_pos (by omega)]
    · rw[if_neg e]
      by_cases hlt:j<i
      · rw[if_pos hlt,if_pos (by omega)]
      · rw[if_neg hlt,if_neg (by omega)]
  · rw[if_neg (by omega),List.getElem?_eq_none (by rw[subL_len];omega),List.getElem?_eq_none (by rw[subL_len];omega)]
theorem owe_step {A B:Nat} (hle:B≤A) (i:Nat) :
    (byt A i<byt B i+owe A B i→owe A B (i+1)=1∧byt (A-B) i+byt B i+owe A B i=byt A i+256) ∧
    (byt B i+owe A B i≤byt A i→owe A B (i+1)=0∧byt (A-B) i+byt B i+owe A B i=byt A i):=by
  have hp:0<256^i:=Nat.pow_pos (by decide)
  have ea:=Nat.div_add_mod A (256^i)
  have eb:=Nat.div_add_mod B (256^i)
  have la:=Nat.mod_lt A hp
  have lb:=Nat.mod_lt B hp
  have ea2:A % 256^(i+1)=256^i*(A / 256^i % 256)+A % 256^i:=by rw[Nat.pow_succ,Nat.mod_mul];omega
  have eb2:B % 256^(i+1)=256^i*(B / 256^i % 256)+B % 256^i:=by rw[Nat.pow_succ,Nat.mod_mul];omega
  unfold owe byt
  rw[ea2,eb2]
  generalize hP:256^i=P at *
  generalize hA':A / P=A' at *
  generalize hB':B / P=B' at *
  generalize ha:A % P=a at *
  generalize hb:B % P=b at *
  have key:(A-B) / P+B'+(if a<b then 1 else 0)=A':=by
    by_cases hlt:a<b
    · rw[if_pos hlt]
      have hAB:B'+1≤A':=by
        rcases Nat.lt_or_ge B' A' with q | q
        · exact q
        · have:=Nat.mul_le_mul_left P q;omega
      obtain ⟨c,hc⟩:∃c,A'=B'+1+c:=⟨A'-(B'+1),by omega⟩
      have e1:P*A'=P*B'+P+P*c:=by rw[hc,Nat.mul_add,Nat.mul_add,Nat.mul_one]
      have e2:A-B=P*c+(P+a-b):=by omega
      rw[e2,Nat.mul_add_div hp,Nat.div_eq_of_lt (by omega)]
      omega
    · rw[if_neg hlt]
      have hAB:B'≤A':=by
        rcases Nat.lt_or_ge A' B' with q | q
        · have:=Nat.mul_le_mul_left P q
          rw[Nat.mul_succ] at this
          omega
        · exact q
      obtain ⟨c,hc⟩:∃c,A'=B'+c:=⟨A'-B',by omega⟩
      have e1:P*A'=P*B'+P*c:=by rw[hc,Nat.mul_add]
      have e2:A-B=P*c+(a-b):=by omega
      rw[e2,Nat.mul_add_div hp,Nat.div_eq_of_lt (by omega)]
      omega
  generalize (A-B) / P=D at *
  have cmp:(P*(A' % 256)+a<P*(B' % 256)+b)↔(A' % 256<B' % 256∨A' % 256=B' % 256∧a<b):=by
    rcases Nat.lt_trichotomy (A' % 256) (B' % 256) with q | q | q
    · have:=Nat.mul_le_mul_left P q
      rw[Nat.mul_succ] at this
      constructor
      · intro _;exact .inl q
      · intro _;omega
    · rw[q];constructor
      · intro h;exact .inr ⟨rfl,by omega⟩
      · rintro (h | ⟨_,h⟩)<;>omega
    · have:=Nat.mul_le_mul_left P q
      rw[Nat.mul_succ] at this
      constructor
      · intro h;omega
      · rintro (h | ⟨h,_⟩)<;>omega
  by_cases hab:a<b
  · simp only[if_pos hab] at key ⊢
    constructor
    · intro h
      rw[if_pos (cmp.2 (by omega))]
      exact ⟨rfl,by omega⟩
    · intro h
      rw[if_neg (fun q=>by have:=cmp.1 q;omega)]
      exact ⟨rfl,by omega⟩
  · simp only[if_neg hab] at key ⊢
    constructor
    · intro h
      rw[if_pos (cmp.2 (by omega))]
      exact ⟨rfl,by omega⟩
    · intro h
      rw[if_neg (fun q=>by have:=cmp.1 q;omega)]
      exact ⟨rfl,by omega⟩
theorem r01_sub_l6 (n:Nat) {A B:Nat} (hle:B≤A) (s4:Wd):∀(k f i:Nat),i+k=16→k<f →
    r01_Sub_l6 n f (s4,subL A B i,bys B,((owe A B i:Nat):Int),(i:Int),())=some (.inl (s4,bys (A-B),())):=by
  intro k
  induction k with
  | zero =>
    intro f i hi hf
    obtain ⟨f,rfl⟩:∃g,f=g+1:=⟨f-1,by omega⟩
    have:i=16:=by omega
    subst this
    rw[r01_Sub_l6_eq,decide_eq_false (by decide),tff]
    congr 3
  | succ k ih =>
    intro f i hi hf
    obtain ⟨f,rfl⟩:∃g,f=g+1:=⟨f-1,by omega⟩
    have hlt:i<16:=by omega
    have g1:=byt_lt A i
    have g2:=byt_lt B i
    have g3:=byt_lt (A-B) i
    have g4:owe A B i≤1:=by unfold owe;split<;>omega
    obtain ⟨s1,s2⟩:=owe_step hle i
    have next:=ih f (i+1) (by omega) (by omega)
    rw[r01_Sub_l6_eq,subL_len,bys_len,Int.toNat_natCast,subL_at _ _ _ hlt,bys_at _ hlt,if_neg (Nat.lt_irrefl i)]
    simp only[decide_eq_true (show (i:Int)<16 by omega),decide_eq_true (show (0:Int)≤(i:Int) by omega),decide_eq_true (show (i:Int)<((16:Nat):Int) by omega),Bool.and_self,tft,obs]
    rw[w64 (x:=((byt A i:Nat):Int)-((byt B i:Nat):Int)) (by omega) (by omega),w64 (x:=((byt A i:Nat):Int)-((byt B i:Nat):Int)-((owe A B i:Nat):Int)) (by omega) (by omega),w64 (x:=(i:Int)+1) (by omega) (by omega),tfd]
    by_cases h:byt A i<byt B i+owe A B i
    · obtain ⟨t1,t2⟩:=s1 h
      rw[t1] at next
      rw[if_pos (by omega),w64 (by omega) (by omega),show ((byt A i:Nat):Int)-((byt B i:Nat):Int)-((owe A B i:Nat):Int)+256=((byt (A-B) i:Nat):Int) by omega,subL_set _ _ hlt]
      exact next
    · obtain ⟨t1,t2⟩:=s2 (by omega)
      rw[t1] at next
      rw[if_neg (by omega),show ((byt A i:Nat):Int)-((byt B i:Nat):Int)-((owe A B i:Nat):Int)=((byt (A-B) i:Nat):Int) by omega,subL_set _ _ hlt]
      exact next
theorem r01_subN (n:Nat) {A B:Nat} (hA:A<340282366920938463463374607431768211456) (hle:B≤A):r01_Sub (n+3) (ofN A) (ofN B)=some (ofN (A-B),0):=by
  obtain ⟨ra,ha,hla⟩:=r01_bytesN (n+1) hA
  obtain ⟨rb,hb,hlb⟩:=r01_bytesN (n+1) (Nat.lt_of_le_of_lt hle hA)
  rw[r01_Sub_eq,r01_lessN n hA (Nat.lt_of_le_of_lt hle hA),obs,decide_eq_false (by omega),tff,ha,obs,hb,obs]
  rw[show (decide (16=((((((((((((((((1+1)+1)+1)+1)+1)+1)+1)+1)+1)+1)+1)+1)+1)+1)+1) / 1)))=true from rfl,tft,tft]
  have e0:subL A B 0=bys A:=by unfold subL bys;apply List.map_congr_left;intro j _;rw[if_neg (Nat.not_lt_zero j)]
  have:=r01_sub_l6 (n+2) hle (0,0) 16 loopFuel 0 rfl (by decide)
  rw[e0,show owe A B 0=0 by unfold owe;simp[Nat.mod_one],←hla,←hlb] at this
  change obind (r01_Sub_l6 (n+2) loopFuel ((0,0),l16 ra,l16 rb,((0:Nat):Int),((0:Nat):Int),())) _=_
  rw[this,obs,selim_inl]
  exact r01_ofL (n+1) (Nat.lt_of_le_of_lt (Nat.sub_le _ _) hA) (fun r=>some (r,0)) rfl
theorem lo_ofN {b:Nat} (h:b<18446744073709551616):(((0:Int),(b:Int)):Wd)=ofN b:=by
  unfold ofN
  rw[Nat.div_eq_of_lt h,Nat.mod_eq_of_lt h];rfl
theorem shr64 (v k:Nat) (hk:k≤64):shrI .i64 (v:Int) (k:Int)=((v / 2^k:Nat):Int):=shrN v k hk
theorem and1 {v:Nat} (h:v<256):andI .i64 (v:Int) (1:Int)=((v % 2:Nat):Int):=by
  unfold andI
  have e2:(BitVec.ofInt IntKind.i64.bits (v:Int) &&& BitVec.ofInt IntKind.i64.bits (1:Int)).toNat=v % 2:=by
    show (BitVec.ofInt 64 (v:Int) &&& BitVec.ofInt 64 ((1:Nat):Int)).toNat=_
    rw[BitVec.toNat_and,BitVec.ofInt_natCast,BitVec.ofInt_natCast,BitVec.toNat_ofNat,BitVec.toNat_ofNat,Nat.mod_eq_of_lt (by omega),Nat.mod_eq_of_lt (by omega)]
    exact Nat.and_one_is_mod v
  rw[e2]
  exact w64 (by omega) (by omega)
theorem orbit {v j:Nat} (h:v<256) (hj:j<8):orI .i64 (v:Int) (shlI .i64 (1:Int) (j:Int))=((v ||| 2^j:Nat):Int):=by
  have hp:2^j<256:=Nat.lt_of_lt_of_le (Nat.pow_lt_pow_right (a:=2) (n:=8) (by decide) hj) (by decide)
  have e1:shlI .i64 (1:Int) (j:Int)=((2^j:Nat):Int):=by
    show IntKind.wrap .i64 ((1:Int)*2^(min (j:Int).toNat 64))=_
    rw[show min (j:Int).toNat 64=j by omega,Int.one_mul]
    have:(2:Int)^j=((2^j:Nat):Int):=by simp
    rw[this]
    generalize 2^j=p at hp
    exact w64 (by omega) (by omega)
  rw[e1]
  unfold orI
  have e2:(BitVec.ofInt IntKind.i64.bits (v:Int) ||| BitVec.ofInt IntKind.i64.bits ((2^j:Nat):Int)).toNat=v ||| 2^j:=by
    show (BitVec.ofInt 64 (v:Int) ||| BitVec.ofInt 64 ((2^j:Nat):Int)).toNat=_
    rw[BitVec.toNat_or,BitVec.ofInt_natCast,BitVec.ofInt_natCast,BitVec.toNat_ofNat,BitVec.toNat_ofNat,Nat.mod_eq_of_lt (by omega),Nat.mod_eq_of_lt (by omega)]
  rw[e2]
  have:v ||| 2^j<2^8:=Nat.or_lt_two_pow (by omega) (by omega)
  exact w64 (by omega) (by omega)
theorem bys_set {v i:Nat} (hi:i<128) (h:2^(i+1) ∣ v):(bys v).set (i / 8) ((byt v (i / 8) ||| 2^(i % 8):Nat):Int)=bys (v+2^i):=by
  apply List.ext_getElem?
  intro j
  rw[List.getElem?_set,bys_len]
  by_cases hj:j<16
  · rw[bys_at _ hj,bys_at _ hj,byt_or h]
    by_cases e:i / 8=j
    · rw[if_pos e,if_pos e,if_pos (by omega),e]
    · rw[if_neg e,if_neg e]
  · rw[if_neg (by omega),List.getElem?_eq_none (by rw[bys_len];omega),List.getElem?_eq_none (by rw[bys_len];omega)]
theorem bit_at (A:Nat) {k:Nat}:IntKind.wrap .u64 (andI .i64 (shrI .i64 ((byt A (k / 8):Nat):Int) ((k % 8:Nat):Int)) (1:Int))=((A / 2^k % 2:Nat):Int):=by
  have hb:=byt_lt A (k / 8)
  rw[shr64 _ _ (by omega),and1 (Nat.lt_of_le_of_lt (Nat.div_le_self _ _) hb),bit_byt,wu64 (by omega) (by omega)]
theorem r02_whole_l7 (n:Nat) {A D:Nat} (hA:A<340282366920938463463374607431768211456) (hD:D<340282366920938463463374607431768211456) (hD0:0<D) (s4 s5:Wd):∀(k f q r:Nat),k≤128→A / 2^k=D*q+r→r<D→k<f →
    r02_Whole_l7 (n+3) f (ofN D,s4,s5,bys (q*2^k),ofN r,bys A,(k:Int)-1,())=some (.inl (s4,s5,bys (A / D),ofN (A % D),())):=by
  intro k
  induction k with
  | zero =>
    intro f q r hk h hr hf
    obtain ⟨f,rfl⟩:∃g,f=g+1:=⟨f-1,by omega⟩
    rw[Nat.pow_zero,Nat.div_one] at h
    obtain ⟨e1,e2⟩:=(Nat.div_mod_unique (a:=A) (c:=r) (d:=q) hD0).2 ⟨by omega,hr⟩
    rw[r02_Whole_l7_eq,decide_eq_false (by omega),tff,e1,e2,Nat.pow_zero,Nat.mul_one]
  | succ k ih =>
    intro f q r hk h hr hf
    obtain ⟨f,rfl⟩:∃g,f=g+1:=⟨f-1,by omega⟩
    obtain ⟨d1,d2⟩:=div_step (L:=0) hD0 h hr
    have e1:IntKind.wrap .i64 (Int.tdiv (k:Int) 8)=((k / 8:Nat):Int):=by rw[tdiv_nn (by omega),w64 (by omega) (by omega)];omega
    have e2:Int.tmod (k:Int) 8=((k % 8:Nat):Int):=by rw[tmod_nn (by omega)];omega
    have eb:((k+1:Nat):Int)-1=(k:Int):=by omega
    have hk8:k / 8<16:=by omega
    have hbit:A / 2^k % 2<2:=Nat.mod_lt _ (by decide)
    have hdvd:2^(k+1) ∣ q*2^(k+1):=Nat.dvd_mul_left _ _
    have eq1:(2*q+1)*2^k=q*2^(k+1)+2^k:=by rw[Nat.pow_succ,Nat.add_mul,Nat.one_mul,Nat.mul_comm 2 q,Nat.mul_assoc,Nat.mul_comm 2 (2^k)]
    have eq0:(2*q)*2^k=q*2^(k+1):=by rw[Nat.pow_succ,Nat.mul_comm 2 q,Nat.mul_assoc,Nat.mul_comm 2 (2^k)]
    have hset:=bys_set (v:=q*2^(k+1)) (i:=k) (by omega) hdvd
    have hob:=orbit (v:=byt (q*2^(k+1)) (k / 8)) (j:=k % 8) (byt_lt _ _) (by omega)
    have c1:decide ((0:Int)≤((k / 8:Nat):Int))=true:=decide_eq_true (by omega)
    have c2:decide (((k / 8:Nat):Int)<(16:Int))=true:=decide_eq_true (by omega)
    have c3:decide (((k / 8:Nat):Int)<((16:Nat):Int))=true:=decide_eq_true (by omega)
    have c4:decide (((k % 8:Nat):Int)<(0:Int))=false:=decide_eq_false (by omega)
    rw[r02_Whole_l7_eq,eb,decide_eq_true (by omega),tft,r01_addN (n+1) (by omega) (by omega),obs]
    simp only[e1,e2,bys_len,c1,c2,c3,c4,Bool.and_self,tft,tff,Int.toNat_natCast,bys_at _ hk8,obs,bit_at,hob,hset]
    rw[w64 (x:=(k:Int)-1) (by omega) (by omega),lo_ofN (b:=A / 2^k % 2) (by omega)]
    generalize hb:A / 2^k % 2=b at *
    by_cases hov:r+r<340282366920938463463374607431768211456
    · rw[if_pos hov]
      simp only[decide_true,Bool.not_true,tff]
      rw[r01_addN (n+1) hov (by omega),obs,if_pos (by omega)]
      simp only
      rw[r01_lessN (n+1) (by omega) hD,obs,tfn,tfd]
      by_cases hlt:r+r+b<D
      · rw[if_pos hlt]
        have:=ih f (2*q) (r+r+b) (by omega) (by rw[d2 (by omega)];omega) hlt (by omega)
        rw[eq0] at this
        exact this
      · obtain ⟨t1,t2⟩:=d1 (by omega)
        rw[if_neg hlt,r01_subN n (by omega) (by omega),obs]
        have:=ih f (2*q+1) (r+r+b-D) (by omega) (by rw[t1];omega) (by omega) (by omega)
        rw[eq1] at this
        exact this
    · rw[if_neg hov]
      simp only[show (decide ((1:Int)=0))=false from rfl,Bool.not_false,tft]
      obtain ⟨t1,t2⟩:=d1 (by omega)
      rw[r01_subN n hD (by omega),obs]
      simp only
      rw[r01_subN n (by omega) (by omega),obs]
      simp only
      rw[r01_addN (n+1) (by omega) (by omega),obs,if_pos (by omega)]
      simp only
      have:=ih f (2*q+1) (r-(D-r)+b) (by omega) (by rw[t1];omega) (by omega) (by omega)
      rw[eq1] at this
      exact this
theorem r02_whole (n:Nat) {A D:Nat} (hA:A<340282366920938463463374607431768211456) (hD:D<340282366920938463463374607431768211456):r02_Whole (n+4) (ofN A) (ofN D)=some (if D=0 then (ofN 0,ofN A) else (ofN (A / D),ofN (A % D))):=by
  rw[r02_Whole_eq,ofN_zero,tfd]
  by_cases h0:D=0
  · rw[if_pos h0,if_pos h0];rfl
  · obtain ⟨ra,ha,hla⟩:=r01_bytesN (n+2) hA
    rw[if_neg h0,if_neg h0,ha,obs]
    rw[show (decide (16=((((((((((((((((1+1)+1)+1)+1)+1)+1)+1)+1)+1)+1)+1)+1)+1)+1)+1) / 1)))=true from rfl,tft]
    have:=r02_whole_l7 n hA hD (by omega) (0,0) (0,0) 128 loopFuel 0 0 (Nat.le_refl _) (by rw[Nat.mul_zero];exact Nat.div_eq_of_lt hA) (by omega) (by unfold loopFuel;omega)
    rw[Nat.zero_mul,show bys 0=List.replicate 16 (0:Int) from rfl,←hla,show (((128:Nat):Int)-1)=127 from rfl,←zero_ofN] at this
    change obind (r02_Whole_l7 (n+3) loopFuel (ofN D,(0,0),(0,0),List.replicate 16 (0:Int),(0,0),l16 ra,127,())) _=_
    rw[this,obs,selim_inl]
    exact r01_ofL (n+2) (Nat.lt_of_le_of_lt (Nat.div_le_self _ _) hA) (fun r=>some (r,ofN (A % D))) rfl
def redV (x y:Nat):(Wd×Wd)×Int:=if y=0 then (((0,0),(0,0)),1) else ((ofN (x / Nat.gcd x y),ofN (y / Nat.gcd x y)),0)
theorem ratio_reduce (n:Nat) {x y:Nat} (hx:x<340282366920938463463374607431768211456) (hy:y<340282366920938463463374607431768211456):ratio_Reduce (n+5) (ofN x) (ofN y)=some (redV x y):=by
  rw[ratio_Reduce_eq,ratio_none_val,obs,tfd]
  unfold redV
  by_cases h:y=0
  · rw[if_pos h,if_pos h]
  · have hg:0<Nat.gcd x y:=Nat.gcd_pos_of_pos_right x (by omega)
    have hl:Nat.gcd x y<340282366920938463463374607431768211456:=Nat.lt_of_le_of_lt (Nat.gcd_le_right x (by omega)) hy
    rw[if_neg h,if_neg h,ratio_gcd n hx hy,obs,ratio_whole_val n hx hg hl,obs,ratio_whole_val n hy hg hl,obs]
def rateV (a:Wd) (ms:Int):(Wd×Wd)×Int :=
  if ms=0 then (((0,0),(0,0)),12) else if wv a*1000<340282366920938463463374607431768211456 then redV (wv a*1000).toNat ms.toNat else (((0,0),(0,0)),1)
theorem rate_parts {a:Wd} (ha:WdOk a) {ms:Int} (hm:0≤ms∧ms≤18446744073709551615) (h:wv a*1000<340282366920938463463374607431768211456):mkW (wv a*1000)=ofN (wv a*1000).toNat∧(wv a*1000).toNat<340282366920938463463374607431768211456∧(((0:Int),ms):Wd)=ofN ms.toNat∧ms.toNat<340282366920938463463374607431768211456:=by
  obtain ⟨h1,h2⟩:=wv_range ha
  have e:wv a*1000=(((wv a*1000).toNat:Nat):Int):=by omega
  refine ⟨?_,by omega,?_,by omega⟩
  · conv=>lhs;rw[e]
    exact mkW_nat _
  · rw[←lo_ofN (by omega)]
    congr 1;omega
theorem ratio_rate (n:Nat) {a:Wd} (ha:WdOk a) {ms:Int} (hm:0≤ms∧ms≤18446744073709551615):ratio_Rate (n+6) a ms=some (rateV a ms):=by
  rw[ratio_Rate_eq,tfd]
  unfold rateV
  by_cases h0:ms=0
  · rw[if_pos h0,if_pos h0]
  rw[if_neg h0,if_neg h0,wide_times (n+3) ha 1000 (by omega),obs]
  unfold timesW
  by_cases h:wv a*1000<340282366920938463463374607431768211456
  · obtain ⟨p1,p2,p3,p4⟩:=rate_parts ha hm h
    rw[if_pos h,if_pos h]
    simp only[decide_true,Bool.not_true,tff]
    rw[wide_of,obs,p1,p3,ratio_reduce n p2 p4,obs]
  · rw[if_neg h,if_neg h];rfl
end Go.Proofs.YtefpnjjbopdplaaGreatDoor

namespace Go.Plim
set_option linter.unusedVariables false
end Go.Plim

namespace Go.Proofs.YtefpnjjbopdplaaGreatDoor
open Go.Flat Go.Plim
set_option linter.unusedVariables false
set_option linter.unusedSimpArgs false
def FrR (x y:Nat):Prop:=y≠0∧Nat.gcd x y=1
instance (x y:Nat):Decidable (FrR x y):=inferInstanceAs (Decidable (_∧_))
def FracOk (f:Wd×Wd):Prop:=FrR (wv f.1).toNat (wv f.2).toNat
instance (f:Wd×Wd):Decidable (FracOk f):=inferInstanceAs (Decidable (FrR _ _))
structure FrW (f:Wd×Wd):Prop where
  n:WdOk f.1
  d:WdOk f.2
theorem FrW.nat {f:Wd×Wd} (h:FrW f):∃x y:Nat,x<340282366920938463463374607431768211456∧y<340282366920938463463374607431768211456∧f=(ofN x,ofN y):=by
  obtain ⟨x,hx,e1,_⟩:=ofN_of h.n
  obtain ⟨y,hy,e2,_⟩:=ofN_of h.d
  exact ⟨x,y,hx,hy,by rw[←e1,←e2]⟩
theorem fracOk_nat (x y:Nat):FracOk (ofN x,ofN y)=FrR x y:=by
  unfold FracOk
  rw[wv_ofN,wv_ofN,Int.toNat_natCast,Int.toNat_natCast]
theorem ofN_isOne (g:Nat):(decide ((ofN g).1=(0:Int))&&decide ((ofN g).2=(1:Int)))=decide (g=1):=by
  rw[←Bool.decide_and]
  apply decide_eq_decide.2
  unfold ofN
  constructor
  · rintro ⟨h1,h2⟩;simp only at h1 h2;omega
  · rintro rfl;exact ⟨rfl,rfl⟩
theorem ratio_check (n:Nat) {f:Wd×Wd} (h:FrW f):ratio_Check (n+5) f=some (if FracOk f then 0 else 2):=by
  obtain ⟨x,y,hx,hy,rfl⟩:=h.nat
  rw[ratio_Check_eq]
  simp only[fracOk_nat]
  rw[ratio_none_val,obs,tfd]
  by_cases hd:y=0
  · rw[if_pos hd,if_neg (fun k:FrR x y=>k.1 hd)]
  rw[if_neg hd,ratio_gcd n hx hy,obs,wide_of,obs,tfn,ofN_isOne,tfd]
  by_cases hg:Nat.gcd x y=1
  · rw[if_pos hg,if_pos (show FrR x y from ⟨hd,hg⟩)]
  · rw[if_neg hg,if_neg (fun e:FrR x y=>hg e.2)]
def timesF (x y:Nat):Wd×Int:=if x*y<340282366920938463463374607431768211456 then (ofN (x*y),0) else ((0,0),1)
theorem timesW_nat (x k:Nat):timesW (ofN x) (k:Int)=timesF x k:=by
  unfold timesW timesF
  rw[wv_ofN]
  by_cases h:x*k<340282366920938463463374607431768211456
  · rw[if_pos h,if_pos (by rw[←Int.natCast_mul];omega),←Int.natCast_mul,mkW_nat]
  · rw[if_neg h,if_neg (by rw[←Int.natCast_mul];omega)]
theorem timesF_comm (x y:Nat):timesF x y=timesF y x:=by unfold timesF;rw[Nat.mul_comm]
theorem hi_zero (x:Nat):((ofN x).1=(0:Int))↔x<18446744073709551616:=by
  show (((x / 18446744073709551616:Nat):Int)=0)↔_
  omega
theorem lo_val {x:Nat} (h:x<18446744073709551616):(ofN x).2=(x:Int):=by
  show ((x % 18446744073709551616:Nat):Int)=_
  omega
theorem ratio_times_val (n:Nat) {x y:Nat} (hx:x<340282366920938463463374607431768211456) (hy:y<340282366920938463463374607431768211456):ratio_times (n+3) (ofN x) (ofN y)=some (timesF x y):=by
  rw[ratio_times_eq]
  simp only[tfn,tfd,hi_zero]
  by_cases h1:x<18446744073709551616
  · rw[if_pos h1,if_pos h1,lo_val h1,wide_times n (ofN_ok hy) _ (by omega),obs,timesW_nat,timesF_comm]
  rw[if_neg h1]
  by_cases h2:y<18446744073709551616
  · rw[if_pos h2,lo_val h2,wide_times n (ofN_ok hx) _ (by omega),obs,timesW_nat]
  · rw[if_neg h2]
    unfold timesF
    have:18446744073709551616*18446744073709551616≤x*y:=Nat.mul_le_mul (by omega) (by omega)
    rw[if_neg (by omega)]
def lessN (a b c d:Nat):Bool×Int :=
  if FrR a b∧FrR c d then (if a*d<340282366920938463463374607431768211456∧c*b<340282366920938463463374607431768211456 then (decide (a*d<c*b),0) else (false,1)) else (false,2)
def lessF (a b:Wd×Wd):Bool×Int:=lessN (wv a.1).toNat (wv a.2).toNat (wv b.1).toNat (wv b.2).toNat
theorem lessF_nat (a b c d:Nat):lessF (ofN a,ofN b) (ofN c,ofN d)=lessN a b c d:=by
  unfold lessF
  simp only[wv_ofN,Int.toNat_natCast]
theorem ratio_lessV (n:Nat) {f g:Wd×Wd} (hf:FrW f) (hg:FrW g):ratio_Less (n+6) f g=some (lessF f g):=by
  rw[ratio_Less_eq,ratio_check n hf,obs,ratio_check n hg,obs]
  obtain ⟨a,b,ha,hb,rfl⟩:=hf.nat
  obtain ⟨c,d,hc,hd,rfl⟩:=hg.nat
  simp only[fracOk_nat,lessF_nat]
  unfold lessN
  by_cases h1:FrR a b
  case neg=>rw[if_neg h1,if_neg (fun e:FrR a b∧FrR c d=>h1 e.1)];rfl
  by_cases h2:FrR c d
  case neg=>rw[if_neg h2,if_pos h1,if_neg (fun e:FrR a b∧FrR c d=>h2 e.2)];rfl
  rw[if_pos h1,if_pos h2,if_pos ⟨h1,h2⟩]
  simp only[decide_true,Bool.not_true,tff]
  rw[ratio_times_val (n+2) ha hd,obs,ratio_times_val (n+2) hc hb,obs]
  unfold timesF
  by_cases h3:a*d<340282366920938463463374607431768211456
  case neg=>rw[if_neg h3,if_neg (fun e:a*d<340282366920938463463374607431768211456∧c*b<340282366920938463463374607431768211456=>h3 e.1)];rfl
  by_cases h4:c*b<340282366920938463463374607431768211456
  case neg=>rw[if_pos h3,if_neg h4,if_neg (fun e:a*d<340282366920938463463374607431768211456∧c*b<340282366920938463463374607431768211456=>h4 e.2)];rfl
  rw[if_pos h3,if_pos h4,if_pos ⟨h3,h4⟩]
  simp only[decide_true,Bool.not_true,tff]
  rw[wide_lessN (n+4) h3 h4,obs]
theorem redV_w {x y:Nat} (hx:x<340282366920938463463374607431768211456) (hy:y<340282366920938463463374607431768211456):FrW (redV x y).1∧((redV x y).2=0→FracOk (redV x y).1):=by
  unfold redV
  by_cases h:y=0
  · rw[if_pos h]
    exact ⟨⟨ofN_ok (x:=0) (by omega),ofN_ok (x:=0) (by omega)⟩,fun e=>by cases e⟩
  · rw[if_neg h]
    have hg:0<Nat.gcd x y:=Nat.gcd_pos_of_pos_right x (by omega)
    refine ⟨⟨ofN_ok (Nat.lt_of_le_of_lt (Nat.div_le_self _ _) hx),ofN_ok (Nat.lt_of_le_of_lt (Nat.div_le_self _ _) hy)⟩,fun _ => ?_⟩
    simp only
    rw[fracOk_nat]
    refine ⟨?_,Nat.gcd_div_gcd_div_gcd_of_pos_right (show 0<y by omega)⟩
    have:=Nat.div_pos (Nat.gcd_le_right x (show 0<y by omega)) hg
    omega
theorem rateV_w {a:Wd} (ha:WdOk a) {ms:Int} (hm:0≤ms∧ms≤18446744073709551615):FrW (rateV a ms).1∧((rateV a ms).2=0→FracOk (rateV a ms).1):=by
  have hz:FrW (((0,0),(0,0)):Wd×Wd):=⟨ofN_ok (x:=0) (by omega),ofN_ok (x:=0) (by omega)⟩
  unfold rateV
  by_cases h0:ms=0
  · rw[if_pos h0];exact ⟨hz,fun e=>by cases e⟩
  rw[if_neg h0]
  by_cases h:wv a*1000<340282366920938463463374607431768211456
  · rw[if_pos h]
    obtain ⟨h1,h2⟩:=wv_range ha
    exact redV_w (by omega) (by omega)
  · rw[if_neg h];exact ⟨hz,fun e=>by cases e⟩
theorem lessN_self {x y:Nat} (h:FrR x y):lessN x y x y=(if x*y<340282366920938463463374607431768211456 then (false,0) else (false,1)):=by
  unfold lessN
  rw[if_pos ⟨h,h⟩]
  by_cases c:x*y<340282366920938463463374607431768211456
  · rw[if_pos ⟨c,c⟩,if_pos c,decide_eq_false (by omega)]
  · rw[if_neg fun e=>c e.1,if_neg c]
theorem lessN_nought {x y:Nat} (h:FrR x y) (hx:x<340282366920938463463374607431768211456):lessN x y 0 1=(false,0):=by
  unfold lessN
  rw[if_pos ⟨h,by decide,by decide⟩,if_pos ⟨by omega,by omega⟩,decide_eq_false (by omega)]
theorem lessN_trans {a b c d e f:Nat} (h1:lessN c d e f=(false,0)) (h2:lessN a b c d=(false,0)) (h3:(lessN a b e f).2=0):(lessN a b e f).1=false:=by
  unfold lessN at *
  by_cases k1:FrR c d∧FrR e f
  case neg=>rw[if_neg k1] at h1;cases h1
  by_cases k2:FrR a b∧FrR c d
  case neg=>rw[if_neg k2] at h2;cases h2
  have hd:=k1.1.1
  rw[if_pos k1] at h1
  rw[if_pos k2] at h2
  rw[if_pos ⟨k2.1,k1.2⟩] at h3 ⊢
  by_cases l1:c*f<340282366920938463463374607431768211456∧e*d<340282366920938463463374607431768211456
  case neg=>rw[if_neg l1] at h1;cases h1
  by_cases l2:a*d<340282366920938463463374607431768211456∧c*b<340282366920938463463374607431768211456
  case neg=>rw[if_neg l2] at h2;cases h2
  by_cases l3:a*f<340282366920938463463374607431768211456∧e*b<340282366920938463463374607431768211456
  case neg=>rw[if_neg l3]
  rw[if_pos l1] at h1;rw[if_pos l2] at h2;rw[if_pos l3]
  have q1:=of_decide_eq_false (congrArg Prod.fst h1)
  have q2:=of_decide_eq_false (congrArg Prod.fst h2)
  refine decide_eq_false fun hlt => ?_
  have e1:e*d*b≤c*f*b:=Nat.mul_le_mul_right b (by omega)
  have e2:c*b*f≤a*d*f:=Nat.mul_le_mul_right f (by omega)
  have e3:a*f*d<e*b*d:=Nat.mul_lt_mul_of_pos_right hlt (by omega)
  rw[Nat.mul_right_comm e d b,Nat.mul_right_comm c f b] at e1
  rw[Nat.mul_right_comm a d f] at e2
  omega
theorem at_mid {α:Type} {l pre rest:List α} {x:α} {i:Int} (h:l=pre++x::rest) (hi:i=pre.length):at? l i=some x:=by
  subst h hi;simp[at?]
theorem idx {α:Type} {l pre rest:List α} {x:α} {i len:Int} (h:l=pre++x::rest) (hi:i=pre.length) (hn:len=l.length):i<len:=by
  have:=congrArg List.length h
  simp at this
  omega
theorem idxe {α:Type} {l pre:List α} {i len:Int} (h:l=pre++[]) (hi:i=pre.length) (hn:len=l.length):¬(i<len):=by
  have:=congrArg List.length h
  simp at this
  omega
theorem idxw {α:Type} {l pre rest:List α} {x:α} {i:Int} (h:l=pre++x::rest) (hi:i=pre.length) (hL:l.length≤1000000000000):IntKind.wrap .i64 (i+1)=i+1:=by
  have:=congrArg List.length h
  simp at this
  rw[w64 (by omega) (by omega)]
theorem idxs {α:Type} {pre:List α} {x:α} {i:Int} (hi:i=pre.length):i+1=((pre++[x]).length:Int):=by simp;omega
theorem idxl {α:Type} {l pre rest:List α} {x:α} (h:l=pre++x::rest):l=(pre++[x])++rest:=by rw[h];simp
theorem evEq (a b:Ev):((decide (a.1=b.1))&&((decide (a.2.1=b.2.1))&&((decide (a.2.2.1=b.2.2.1))&&(a.2.2.2==b.2.2.2))))=decide (a=b):=by
  rw[Bool.eq_iff_iff];simp[Prod.ext_iff]
theorem celEq (a b:Cel):((decide (a.1=b.1))&&((decide (a.2.1.1=b.2.1.1))&&((decide (a.2.1.2.1=b.2.1.2.1))&&((decide (a.2.1.2.2.1=b.2.1.2.2.1))&&((a.2.1.2.2.2==b.2.1.2.2.2)&&((decide (a.2.2.1.1=b.2.2.1.1))&&((decide (a.2.2.1.2.1=b.2.2.1.2.1))&&((decide (a.2.2.1.2.2.1=b.2.2.1.2.2.1))&&((a.2.2.1.2.2.2==b.2.2.1.2.2.2)&&((decide (a.2.2.2.1.1=b.2.2.2.1.1))&&((decide (a.2.2.2.1.2=b.2.2.2.1.2))&&((decide (a.2.2.2.2.1=b.2.2.2.2.1))&&((decide (a.2.2.2.2.2.1=b.2.2.2.2.2.1))&&(decide (a.2.2.2.2.2.2=b.2.2.2.2.2.2)))))))))))))))=decide (a=b):=by
  rw[Bool.eq_iff_iff];simp[Prod.ext_iff];grind
theorem celEq0 (a:Cel):((decide (a.1=(0:Int)))&&((decide (a.2.1.1=(0:Int)))&&((decide (a.2.1.2.1=(0:Int)))&&((decide (a.2.1.2.2.1=(0:Int)))&&((a.2.1.2.2.2==false)&&((decide (a.2.2.1.1=(0:Int)))&&((decide (a.2.2.1.2.1=(0:Int)))&&((decide (a.2.2.1.2.2.1=(0:Int)))&&((a.2.2.1.2.2.2==false)&&((decide (a.2.2.2.1.1=(0:Int)))&&((decide (a.2.2.2.1.2=(0:Int)))&&((decide (a.2.2.2.2.1=(0:Int)))&&((decide (a.2.2.2.2.2.1=(0:Int)))&&(decide (a.2.2.2.2.2.2=(0:Int))))))))))))))))=decide (a=z0):=celEq a z0
def I64 (x:Int):Prop := -9223372036854775808≤x∧x≤9223372036854775807
structure EvW (e:Ev):Prop where
  t:I64 e.1
  v:0≤e.2.1∧e.2.1≤18446744073709551615
  c:I64 e.2.2.1
structure CelW (c:Cel):Prop where
  n:I64 c.1
  f:EvW c.2.1
  l:EvW c.2.2.1
  w:WdOk c.2.2.2.1
  r:I64 c.2.2.2.2.1
  g:I64 c.2.2.2.2.2.1
  s:I64 c.2.2.2.2.2.2
theorem EvW.of {e:Ev} (h:EvOk e):EvW e:=by
  obtain ⟨a,b,c,d,f,g,_⟩:=h
  exact ⟨by unfold I64;omega,⟨c,d⟩,by unfold I64;omega⟩
theorem CelW.ofN {c:Cel} (h:CellN c):CelW c:=by
  have:=h.small;have:=h.n1;have:=h.f.t0;have:=h.f.t1;have:=h.l.t0;have:=h.l.t1;have:=h.r;have:=h.g;have:=h.rg;have:=h.s0;have:=h.s1
  exact ⟨by unfold I64;omega,.of h.f,.of h.l,h.w,by unfold I64;omega,by unfold I64;omega,by unfold I64;omega⟩
theorem celW_z0:CelW z0:=⟨by simp[I64,z0],⟨by simp[I64,z0,e0],by simp[z0,e0],by simp[I64,z0,e0]⟩,⟨by simp[I64,z0,e0],by simp[z0,e0],by simp[I64,z0,e0]⟩,⟨by simp[z0],by simp[z0]⟩,by simp[I64,z0],by simp[I64,z0],by simp[I64,z0]⟩
theorem CelW.of {c:Cel} (h:CellOk c):CelW c:=by
  rcases h with rfl | h
  · exact celW_z0
  · exact .ofN h
def sumW (l:List Wd):Int:=(l.map wv).sum
theorem sumW_nn {l:List Wd} (h:∀x∈l,WdOk x):0≤sumW l:=by
  induction l with
  | nil=>simp[sumW]
  | cons x l ih =>
    have:=ih fun y hy=>h y (by simp[hy])
    have:=wv_range (h x (by simp))
    simp only[sumW,List.map_cons,List.sum_cons] at *
    omega
theorem wide_sum_l (n:Nat) (s2:Wd) (l:List Wd) (hL:l.length≤1000000000000) (hok:∀x∈l,WdOk x):∀(rest pre:List Wd) (f:Nat) (a:Wd) (i len:Int),l=pre++rest→i=pre.length→len=l.length→rest.length<f→WdOk a→wv a+sumW rest<340282366920938463463374607431768211456 →
    wide_Sum_l3 (n+2) f (s2,a,l,len,i,())=some (.inl (s2,mkW (wv a+sumW rest),())):=by
  intro rest
  induction rest with
  | nil =>
    intro pre f a i len hl hi hn hf ha hs
    obtain ⟨f,rfl⟩:∃g,f=g+1:=⟨f-1,by simp at hf;omega⟩
    rw[wide_Sum_l3_eq]
    have:=idxe hl hi hn
    simp only[tfd,if_neg this,sumW,List.map_nil,List.sum_nil,Int.add_zero,mkW_wv ha]
  | cons x rest ih =>
    intro pre f a i len hl hi hn hf ha hs
    obtain ⟨f,rfl⟩:∃g,f=g+1:=⟨f-1,by simp at hf;omega⟩
    rw[wide_Sum_l3_eq]
    have hlt:=idx hl hi hn
    have hxo:WdOk x:=hok x (by rw[hl];simp)
    have hr:=sumW_nn (l:=rest) fun y hy=>hok y (by rw[hl];simp[hy])
    have hx:=wv_range hxo
    have hb:=wv_range ha
    have es:sumW (x::rest)=wv x+sumW rest:=by simp[sumW]
    rw[es] at hs
    have ew:addW a x=(mkW (wv a+wv x),0):=if_pos (by omega)
    simp only[tfd,tfn,if_pos hlt,at_mid hl hi,obs,wide_add n ha hxo,ew,if_pos trivial]
    rw[idxw hl hi hL]
    rw[ih (pre++[x]) f (mkW (wv a+wv x)) (i+1) len (idxl hl) (idxs hi) hn (by simp at hf;omega) (mkW_ok (by omega) (by omega)) (by rw[wv_mkW];omega),wv_mkW,es]
    rw[show wv a+wv x+sumW rest=wv a+(wv x+sumW rest) by omega]
theorem wide_sum (n:Nat) (l:List Wd) (hL:l.length≤1000000000000) (hok:∀x∈l,WdOk x) (hs:sumW l<340282366920938463463374607431768211456):wide_Sum (n+3) l=some (mkW (sumW l),0):=by
  rw[wide_Sum_eq,wide_sum_l n (0,0) l hL hok l [] loopFuel (0,0) 0 l.length rfl rfl rfl (by unfold loopFuel;omega) ⟨by simp,by simp⟩ (by simpa [wv_zero] using hs)]
  simp[wv_zero]
theorem r01_sum_l (n:Nat) (s2:Wd) (l:List Wd) (hL:l.length≤1000000000000) (hok:∀x∈l,WdOk x):∀(rest pre:List Wd) (f:Nat) (a:Wd) (i len:Int),l=pre++rest→i=pre.length→len=l.length→rest.length<f→WdOk a→wv a+sumW rest<340282366920938463463374607431768211456 →
    r01_Sum_l3 (n+2) f (s2,a,l,len,i,())=some (.inl (s2,mkW (wv a+sumW rest),())):=by
  intro rest
  induction rest with
  | nil =>
    intro pre f a i len hl hi hn hf ha hs
    obtain ⟨f,rfl⟩:∃g,f=g+1:=⟨f-1,by simp at hf;omega⟩
    rw[r01_Sum_l3_eq]
    have:=idxe hl hi hn
    simp only[tfd,if_neg this,sumW,List.map_nil,List.sum_nil,Int.add_zero,mkW_wv ha]
  | cons x rest ih =>
    intro pre f a i len hl hi hn hf ha hs
    obtain ⟨f,rfl⟩:∃g,f=g+1:=⟨f-1,by simp at hf;omega⟩
    rw[r01_Sum_l3_eq]
    have hlt:=idx hl hi hn
    have hxo:WdOk x:=hok x (by rw[hl];simp)
    have hr:=sumW_nn (l:=rest) fun y hy=>hok y (by rw[hl];simp[hy])
    have hx:=wv_range hxo
    have hb:=wv_range ha
    have es:sumW (x::rest)=wv x+sumW rest:=by simp[sumW]
    rw[es] at hs
    have ew:addW a x=(mkW (wv a+wv x),0):=if_pos (by omega)
    simp only[tfd,tfn,if_pos hlt,at_mid hl hi,obs,r01_add n ha hxo,ew,if_pos trivial]
    rw[idxw hl hi hL]
    rw[ih (pre++[x]) f (mkW (wv a+wv x)) (i+1) len (idxl hl) (idxs hi) hn (by simp at hf;omega) (mkW_ok (by omega) (by omega)) (by rw[wv_mkW];omega),wv_mkW,es]
    rw[show wv a+wv x+sumW rest=wv a+(wv x+sumW rest) by omega]
theorem r01_sum (n:Nat) (l:List Wd) (hL:l.length≤1000000000000) (hok:∀x∈l,WdOk x) (hs:sumW l<340282366920938463463374607431768211456):r01_Sum (n+3) l=some (mkW (sumW l),0):=by
  rw[r01_Sum_eq,r01_sum_l n (0,0) l hL hok l [] loopFuel (0,0) 0 l.length rfl rfl rfl (by unfold loopFuel;omega) ⟨by simp,by simp⟩ (by simpa [wv_zero] using hs)]
  simp[wv_zero]
theorem r01_times_over (n:Nat) (s4 out:Wd):∀(k f:Nat) (m:Int) (a:Wd),m≤k→k<f→0<m→m≤18446744073709551615→WdOk a→r01_Times_l4 (n+2) f (m,a,s4,out,true,())=some (.inr ((0,0),1)):=by
  intro k
  induction k with
  | zero=>intro f m a h1 h2 h3;omega
  | succ k ih =>
    intro f m a h1 h2 h3 h4 ha
    obtain ⟨f,rfl⟩:∃g,f=g+1:=⟨f-1,by omega⟩
    rw[r01_Times_l4_eq]
    simp only[tfd,if_pos h3,tmod_nn (a:=m) (by omega),tft]
    by_cases c:m % 2=1
    · rw[if_pos c]
    · rw[if_neg c,r01_add n ha ha]
      simp only[obs]
      rw[tdiv_nn (by omega),wu64 (by omega) (by omega)]
      exact ih f (m / 2) (addW a a).1 (by omega) (by omega) (by omega) (by omega) (by
        unfold addW;have:=wv_range ha
        split
        · exact mkW_ok (by omega) (by omega)
        · exact ⟨by simp,by simp⟩)
theorem r01_times_l (n:Nat) (s4:Wd):∀(k f:Nat) (m:Int) (a out:Wd),m≤k→k<f→0≤m→m≤18446744073709551615→WdOk a→WdOk out→∀p,p=wv a*m →
    r01_Times_l4 (n+2) f (m,a,s4,out,false,())=some (if wv out+p<340282366920938463463374607431768211456 then .inl (s4,mkW (wv out+p),()) else .inr ((0,0),1)):=by
  intro k
  induction k with
  | zero =>
    intro f m a out h1 h2 h3 h4 ha ho p hp
    obtain ⟨f,rfl⟩:∃g,f=g+1:=⟨f-1,by omega⟩
    obtain rfl:m=0:=by omega
    rw[r01_Times_l4_eq]
    have:=wv_range ho
    rw[Int.mul_zero] at hp
    subst hp
    simp only[tfd,if_neg (show ¬((0:Int)<0) by omega),Int.add_zero]
    rw[if_pos (by omega),mkW_wv ho]
  | succ k ih =>
    intro f m a out h1 h2 h3 h4 ha ho p hp
    obtain ⟨f,rfl⟩:∃g,f=g+1:=⟨f-1,by omega⟩
    rw[r01_Times_l4_eq]
    have ra:=wv_range ha
    have ro:=wv_range ho
    by_cases h0:0<m
    · have hp0:0≤p:=by rw[hp];exact Int.mul_nonneg ra.1 h3
      have hq:wv a*m=2*(wv a*(m / 2))+wv a*(m % 2):=by
        have e:m=2*(m / 2)+m % 2:=by omega
        conv=>lhs;rw[e,Int.mul_add,Int.mul_left_comm]
      have hq0:0≤wv a*(m / 2):=Int.mul_nonneg ra.1 (by omega)
      have hq1:1≤m / 2→wv a≤wv a*(m / 2):=fun h=>by
        have:=Int.mul_le_mul_of_nonneg_left h ra.1
        omega
      have hz:m / 2=0→wv a*(m / 2)=0:=fun h=>by rw[h,Int.mul_zero]
      rw[←hp] at hq
      have next:∀out':Wd,WdOk out'→obind (some (addW a a)) (fun r1=>tif false (r01_Times_l4 (n+2) f (IntKind.wrap .u64 (Int.tdiv m 2),r1.1,s4,out',true,())) (r01_Times_l4 (n+2) f (IntKind.wrap .u64 (Int.tdiv m 2),r1.1,s4,out',!(decide (r1.2=(0:Int))),()))) =
          some (if wv out'+2*(wv a*(m / 2))<340282366920938463463374607431768211456 then .inl (s4,mkW (wv out'+2*(wv a*(m / 2))),()) else .inr ((0,0),1)):=by
        intro out' ho'
        have ro':=wv_range ho'
        rw[tdiv_nn (by omega),wu64 (by omega) (by omega)]
        simp only[obs,tff]
        by_cases hov:wv a+wv a<340282366920938463463374607431768211456
        · have ew:addW a a=(mkW (wv a+wv a),0):=if_pos hov
          rw[ew]
          have:=ih f (m / 2) (mkW (wv a+wv a)) out' (by omega) (by omega) (by omega) (by omega) (mkW_ok (by omega) hov) ho' (2*(wv a*(m / 2))) (by rw[wv_mkW,←Int.two_mul,Int.mul_assoc])
          simpa using this
        · have ew:addW a a=((0,0),1):=if_neg hov
          rw[ew]
          by_cases hm:0<m / 2
          · have:=r01_times_over n s4 out' k f (m / 2) (0,0) (by omega) (by omega) hm (by omega) ⟨by simp,by simp⟩
            have:=hq1 (by omega)
            rw[if_neg (by omega)]
            simpa using by assumption
          · obtain ⟨f,rfl⟩:∃g,f=g+1:=⟨f-1,by omega⟩
            have e0:m / 2=0:=by omega
            rw[hz e0,e0,r01_Times_l4_eq]
            simp only[tfd,if_neg (show ¬((0:Int)<0) by omega),Int.mul_zero,Int.add_zero]
            rw[if_pos (by omega),mkW_wv ho']
      simp only[tfd,if_pos h0,tmod_nn (a:=m) (by omega),tff]
      by_cases c:m % 2=1
      · rw[if_pos c,r01_add n ho ha]
        rw[c,Int.mul_one] at hq
        by_cases hov:wv out+wv a<340282366920938463463374607431768211456
        · have ew:addW out a=(mkW (wv out+wv a),0):=if_pos hov
          rw[ew]
          have:=next (mkW (wv out+wv a)) (mkW_ok (by omega) hov)
          rw[wv_mkW] at this
          rw[r01_add n ha ha]
          simp only[tff] at this
          simp only[obs,tfn,tfd,if_pos trivial,tff] at this ⊢
          rw[this,hq]
          rw[show wv out+(2*(wv a*(m / 2))+wv a)=wv out+wv a+2*(wv a*(m / 2)) by omega]
        · have ew:addW out a=((0,0),1):=if_neg hov
          rw[ew]
          simp only[obs,tfn,tfd]
          rw[if_neg (by decide),if_neg (by omega)]
      · rw[if_neg c,r01_add n ha ha]
        have c0:m % 2=0:=by omega
        rw[c0,Int.mul_zero,Int.add_zero] at hq
        have:=next out ho
        simp only[tff] at this
        simp only[obs] at this ⊢
        rw[this,hq]
    · obtain rfl:m=0:=by omega
      rw[Int.mul_zero] at hp
      subst hp
      simp only[tfd,if_neg (show ¬((0:Int)<0) by omega),Int.add_zero]
      rw[if_pos (by omega),mkW_wv ho]
theorem r01_times (n:Nat) {a:Wd} (ha:WdOk a) (k:Int) (hk:0≤k∧k≤18446744073709551615):r01_Times (n+3) a k=some (timesW a k):=by
  rw[r01_Times_eq,r01_times_l n (0,0) 18446744073709551615 loopFuel k a (0,0) (by omega) (by unfold loopFuel;omega) hk.1 hk.2 ha ⟨by simp,by simp⟩ _ rfl]
  simp only[wv_zero,Int.zero_add,obs]
  unfold timesW
  by_cases h:wv a*k<340282366920938463463374607431768211456
  · rw[if_pos h,if_pos h];simp
  · rw[if_neg h,if_neg h];simp
theorem event_check (n:Nat) {e:Ev} (h:EvW e):event_Check (n+1) e=some (if EvOk e then 0 else 2):=by
  obtain ⟨_,hv,_⟩:=h
  rw[event_Check_eq]
  simp only[tfd]
  by_cases h1:e.1<0
  · rw[if_pos h1,if_neg (fun k=>by have:=k.t0;omega)]
  by_cases h2:(35184372088832:Int)≤e.1
  · rw[if_neg h1,if_pos h2,if_neg (fun k=>by have:=k.t1;omega)]
  by_cases h3:e.2.2.1<0
  · rw[if_neg h1,if_neg h2,if_pos h3,if_neg (fun k=>by have:=k.c0;omega)]
  by_cases h4:e.1<e.2.2.1
  · rw[if_neg h1,if_neg h2,if_neg h3,if_pos h4,if_neg (fun k=>by have:=k.c1;omega)]
  rw[if_neg h1,if_neg h2,if_neg h3,if_neg h4]
  cases h5:e.2.2.2 with
  | false =>
    rw[tff,if_pos ⟨by omega,by omega,hv.1,hv.2,by omega,by omega,fun k=>by rw[h5] at k;cases k⟩]
  | true =>
    rw[tft]
    by_cases h6:e.2.1=0∧e.2.2.1=0
    · rw[if_pos ⟨by omega,by omega,hv.1,hv.2,by omega,by omega,fun _=>h6⟩]
      simp[h6]
    · rw[if_neg (fun k=>h6 (k.st h5))]
      by_cases h7:e.2.1=0
      · have h8:¬(e.2.2.1=0):=fun k=>h6 ⟨h7,k⟩
        simp[h7,h8]
      · simp[h7]
theorem r07_check (n:Nat) {e:Ev} (h:EvW e):r07_Check (n+1) e=some (if EvOk e then 0 else 2):=by
  obtain ⟨_,hv,_⟩:=h
  rw[r07_Check_eq]
  simp only[tfd,tfn]
  by_cases h1:e.1<0
  · rw[if_pos h1,if_neg (fun k=>by have:=k.t0;omega)]
  by_cases h2:(35184372088832:Int)≤e.1
  · rw[if_neg h1,if_pos h2,if_neg (fun k=>by have:=k.t1;omega)]
  by_cases h3:e.2.2.1<0
  · rw[if_neg h1,if_neg h2,if_pos h3,if_neg (fun k=>by have:=k.c0;omega)]
  by_cases h4:e.1<e.2.2.1
  · rw[if_neg h1,if_neg h2,if_neg h3,if_pos h4,if_neg (fun k=>by have:=k.c1;omega)]
  rw[if_neg h1,if_neg h2,if_neg h3,if_neg h4]
  cases h5:e.2.2.2 with
  | false =>
    rw[tff,if_pos ⟨by omega,by omega,hv.1,hv.2,by omega,by omega,fun k=>by rw[h5] at k;cases k⟩]
  | true =>
    rw[tft]
    by_cases h6:e.2.1=0∧e.2.2.1=0
    · rw[if_pos h6.1,if_pos h6.2,if_pos ⟨by omega,by omega,hv.1,hv.2,by omega,by omega,fun _=>h6⟩]
    · by_cases h7:e.2.1=0
      · have h8:¬(e.2.2.1=0):=fun k=>h6 ⟨h7,k⟩
        rw[if_pos h7,if_neg h8,if_neg (fun k=>h6 (k.st h5))]
      · rw[if_neg h7,if_neg (fun k=>h6 (k.st h5))]
theorem zif (p:Prop) [Decidable p]:decide ((if p then (0:Int) else 2)=0)=decide p:=by by_cases h:p<;>simp[h]
theorem event_right_l (n:Nat) (l:List Ev) (hL:l.length≤1000000000000) (hw:∀e∈l,EvW e):∀(rest pre:List Ev) (f:Nat) (i len:Int),l=pre++rest→i=pre.length→len=l.length→rest.length<f →
    event_right_l2 (n+1) f (l,len,i,())=some (if ∀e∈rest,EvOk e then .inl () else .inr false):=by
  intro rest
  induction rest with
  | nil =>
    intro pre f i len hl hi hn hf
    obtain ⟨f,rfl⟩:∃g,f=g+1:=⟨f-1,by simp at hf;omega⟩
    rw[event_right_l2_eq]
    have:=idxe hl hi hn
    simp[tfd,if_neg this]
  | cons x rest ih =>
    intro pre f i len hl hi hn hf
    obtain ⟨f,rfl⟩:∃g,f=g+1:=⟨f-1,by simp at hf;omega⟩
    rw[event_right_l2_eq]
    have hlt:=idx hl hi hn
    have hx:EvW x:=hw x (by rw[hl];simp)
    simp only[tfd,tfn,if_pos hlt,at_mid hl hi,obs,event_check n hx,idxw hl hi hL]
    by_cases ho:EvOk x
    · rw[if_pos ho,if_pos rfl,ih (pre++[x]) f (i+1) len (idxl hl) (idxs hi) hn (by simp at hf;omega)]
      have e:(∀e∈x::rest,EvOk e)↔(∀e∈rest,EvOk e):=by simp[ho]
      by_cases hr:∀e∈rest,EvOk e
      · rw[if_pos hr,if_pos (e.2 hr)]
      · rw[if_neg hr,if_neg (fun k=>hr (e.1 k))]
    · have h2:¬(∀e∈x::rest,EvOk e):=fun k=>ho (k x (by simp))
      rw[if_neg ho,if_neg (by decide),if_neg h2]
theorem event_right_val (n:Nat) (l:List Ev) (hL:l.length≤1000000000000) (hw:∀e∈l,EvW e):event_right (n+2) l=some (decide (∀e∈l,EvOk e)):=by
  rw[event_right_eq,event_right_l n l hL hw l [] loopFuel 0 l.length rfl rfl rfl (by unfold loopFuel;omega)]
  by_cases h:∀e∈l,EvOk e
  · rw[if_pos h,decide_eq_true h];simp
  · rw[if_neg h,decide_eq_false h];simp
theorem event_right2 (n:Nat) {p c:Ev} (hp:EvW p) (hc:EvW c):event_right (n+2) [p,c]=some (decide (EvOk p∧EvOk c)):=by
  rw[event_right_val n [p,c] (by simp) (by simp[hp,hc])]
  simp
theorem event_follow (n:Nat) {p c:Ev} (hp:EvW p) (hc:EvW c):event_Follow (n+3) p c=some (decide (EvOk p∧EvOk c∧p.1<c.1)):=by
  rw[event_Follow_eq,event_right2 n hp hc]
  by_cases h:EvOk p∧EvOk c
  · simp[h.1,h.2]
  · have h2:¬(EvOk p∧EvOk c∧p.1<c.1):=fun k=>h ⟨k.1,k.2.1⟩
    rw[decide_eq_false h,decide_eq_false h2];simp
def dcell (d:Int×(Int×(Int×Int))):Cel:=(0,(e0,(e0,((0,d.1),(d.2.1,(d.2.2.1,d.2.2.2))))))
theorem event_anew_val (n:Nat) (c:Ev) (s:Int):event_anew (n+2) c s=some (dcell (c.2.1,1,0,s)):=by
  rw[event_anew_eq,wide_of];rfl
theorem event_between (n:Nat) {p c:Ev} (hp:EvOk p) (hc:EvOk c):event_Between (n+3) p c=some (if p.1<c.1 then (dcell (btw p c),0) else (z0,9)):=by
  rw[event_Between_eq,event_right2 n (.of hp) (.of hc),decide_eq_true ⟨hp,hc⟩]
  simp only[obs,Bool.not_true,tff,tfd]
  by_cases h:p.1<c.1
  · have h':¬(c.1≤p.1):=by omega
    rw[if_neg h',if_pos h]
    obtain ⟨a1,a2,a3,a4,a5,a6,a7⟩:=hp
    obtain ⟨b1,b2,b3,b4,b5,b6,b7⟩:=hc
    unfold btw
    cases k1:c.2.2.2 with
    | true=>rw[tft,if_pos rfl];rfl
    | false =>
      rw[tff,if_neg Bool.false_ne_true]
      by_cases k2:p.1<c.2.2.1
      · rw[if_pos k2,if_pos k2,event_anew_val,w64 (by omega) (by omega)];rfl
      rw[if_neg k2,if_neg k2]
      cases k3:p.2.2.2 with
      | true=>rw[tft,if_pos rfl];rfl
      | false =>
        rw[tff,if_neg Bool.false_ne_true]
        by_cases k4:c.2.1<p.2.1
        · rw[if_pos k4,if_pos k4,event_anew_val,w64 (by omega) (by omega)];rfl
        · rw[if_neg k4,if_neg k4,wide_of,w64 (by omega) (by omega),wu64 (by omega) (by omega)];rfl
  · rw[if_pos (by omega),if_neg h];rfl
theorem r07_between (n:Nat) {p c:Ev} (hp:EvOk p) (hc:EvOk c):r07_Between (n+2) p c=some (if p.1<c.1 then (dcell (btw p c),0) else (z0,9)):=by
  rw[r07_Between_eq,r07_check n (.of hp),r07_check n (.of hc)]
  simp only[obs,if_pos hp,if_pos hc,tfn,tfd,if_pos trivial]
  by_cases h:p.1<c.1
  · have h':¬(c.1≤p.1):=by omega
    rw[if_neg h',if_pos h]
    obtain ⟨a1,a2,a3,a4,a5,a6,a7⟩:=hp
    obtain ⟨b1,b2,b3,b4,b5,b6,b7⟩:=hc
    unfold btw
    cases k1:c.2.2.2 with
    | true=>rw[tft,if_pos rfl];rfl
    | false =>
      rw[tff,if_neg Bool.false_ne_true]
      by_cases k2:p.1<c.2.2.1
      · rw[if_pos k2,if_pos k2,w64 (by omega) (by omega)];rfl
      rw[if_neg k2,if_neg k2]
      cases k3:p.2.2.2 with
      | true=>rw[tft,if_pos rfl];rfl
      | false =>
        rw[tff,if_neg Bool.false_ne_true]
        by_cases k4:c.2.1<p.2.1
        · rw[if_pos k4,if_pos k4,w64 (by omega) (by omega)];rfl
        · rw[if_neg k4,if_neg k4,w64 (by omega) (by omega),wu64 (by omega) (by omega)];rfl
  · rw[if_pos (by omega),if_neg h];rfl
theorem cell_none_val (n:Nat) (c:Cel):cell_none (n+1) c=some (decide (c=z0)):=by rw[cell_none_eq,celEq0]
theorem cell_in_val (n:Nat) (x m:Int):cell_in (n+1) x m=some (decide (0≤x∧x≤m)):=by
  rw[cell_in_eq]
  by_cases h1:(0:Int)≤x<;>by_cases h2:x≤m<;>simp[h1,h2]
def Spans (c:Cel):Prop:=(c.1=1∧c.2.1=c.2.2.1∧EvOk c.2.1)∨(1<c.1∧EvOk c.2.1∧EvOk c.2.2.1∧c.2.1.1<c.2.2.1.1∧c.1-1≤c.2.2.1.1-c.2.1.1)
instance (c:Cel):Decidable (Spans c):=by unfold Spans;infer_instance
theorem cell_spans_val (n:Nat) {c:Cel} (hw:CelW c):cell_spans (n+4) c=some (decide (Spans c)):=by
  rw[cell_spans_eq,evEq]
  simp only[tfd]
  by_cases h1:c.1=1
  · rw[if_pos h1]
    by_cases h2:c.2.1=c.2.2.1
    · rw[if_pos h2,event_check _ hw.f]
      simp only[obs,zif]
      congr 1
      refine decide_eq_decide.2 ⟨fun h => .inl ⟨h1,h2,h⟩,fun h => ?_⟩
      rcases h with h | h
      · exact h.2.2
      · exact h.2.1
    · rw[if_neg h2,decide_eq_false]
      rintro (h | h)
      · exact h2 h.2.1
      · omega
  · rw[if_neg h1]
    by_cases h2:1<c.1
    · rw[if_pos h2,event_follow _ hw.f hw.l]
      simp only[obs,tfd]
      by_cases h3:EvOk c.2.1∧EvOk c.2.2.1∧c.2.1.1<c.2.2.1.1
      · rw[if_pos h3]
        obtain ⟨h3,h4,h5⟩:=h3
        have:=hw.n;unfold I64 at this
        have:=h3.t0;have:=h4.t1;have:=h3.t1;have:=h4.t0
        rw[w64 (by omega) (by omega),w64 (by omega) (by omega)]
        congr 1
        refine decide_eq_decide.2 ⟨fun h => .inr ⟨h2,h3,h4,h5,h⟩,fun h => ?_⟩
        rcases h with h | h
        · omega
        · exact h.2.2.2.2
      · rw[if_neg h3,decide_eq_false]
        rintro (h | h)
        · omega
        · exact h3 ⟨h.2.1,h.2.2.1,h.2.2.2.1⟩
    · rw[if_neg h2,decide_eq_false]
      rintro (h | h)<;>omega
theorem CellN.spans {c:Cel} (h:CellN c):Spans c:=by
  by_cases h1:c.1=1
  · exact .inl ⟨h1,h.one h1,h.f⟩
  · have:=h.n1
    exact .inr ⟨by omega,h.f,h.l,h.more (by omega),h.n2⟩
theorem cellN_of {c:Cel} (hw:CelW c) (hs:Spans c) (hi:wv c.2.2.2.1≤18446744073709551615*(c.1-1)) (hr:0≤c.2.2.2.2.1) (hg:0≤c.2.2.2.2.2.1) (hrg:c.2.2.2.2.1+c.2.2.2.2.2.1≤c.1-1)
    (h0:0≤c.2.2.2.2.2.2) (h1:c.2.2.2.2.2.2≤c.2.2.1.1-c.2.1.1):CellN c:=by
  rcases hs with ⟨a,b,d⟩ | ⟨a,b,d,e,f⟩
  · exact ⟨by omega,d,b ▸ d,fun _=>b,fun h=>by omega,by rw[b];omega,hw.w,hi,hr,hg,hrg,h0,h1⟩
  · exact ⟨by omega,b,d,fun h=>by omega,fun _=>e,f,hw.w,hi,hr,hg,hrg,h0,h1⟩
theorem spans_small {c:Cel} (h:Spans c):1≤c.1∧c.1≤35184372088832∧0≤c.2.2.1.1-c.2.1.1∧c.2.2.1.1-c.2.1.1≤35184372088832:=by
  rcases h with ⟨a,b,d⟩ | ⟨a,b,d,e,f⟩
  · rw[b];have:=d.t0;omega
  · have:=b.t0;have:=d.t1;omega
theorem times_most {k:Int} (h:0≤k∧k≤35184372088832):timesW (0,18446744073709551615) k=(mkW (18446744073709551615*k),0):=by
  unfold timesW
  rw[show wv (0,18446744073709551615)=18446744073709551615 from rfl,if_pos (by omega)]
theorem cell_check (n:Nat) {c:Cel} (hw:CelW c):cell_Check (n+5) c=some (if CellOk c then 0 else 2):=by
  rw[cell_Check_eq,cell_none_val,cell_spans_val n hw]
  simp only[obs,tfd,tfn]
  by_cases h0:c=z0
  · rw[if_pos h0,if_pos (.inl h0)]
  rw[if_neg h0]
  by_cases hs:Spans c
  · rw[if_pos hs]
    obtain ⟨s1,s2,s3,s4⟩:=spans_small hs
    have hg:=hw.g;have hr:=hw.r;have hse:=hw.s
    unfold I64 at hg hr hse
    have hmw:WdOk (mkW (18446744073709551615*(c.1-1))):=mkW_ok (by omega) (by omega)
    rw[wide_of,w64 (x:=c.1-1) (by omega) (by omega),wu64 (by omega) (by omega)]
    simp only[obs]
    rw[wide_times (n+2) ⟨by simp,by simp⟩ _ (by omega),times_most (by omega)]
    simp only[obs,if_pos trivial,wide_less (n+3) hmw hw.w,wv_mkW,cell_in_val,tfd]
    by_cases c1:18446744073709551615*(c.1-1)<wv c.2.2.2.1
    · rw[if_pos c1,if_neg (fun k=>by have:=(k.n h0).inc;omega)]
    rw[if_neg c1]
    by_cases c2:0≤c.2.2.2.2.2.1∧c.2.2.2.2.2.1≤c.1-1
    · rw[if_pos c2,w64 (by omega) (by omega)]
      by_cases c3:0≤c.2.2.2.2.1∧c.2.2.2.2.1≤c.1-1-c.2.2.2.2.2.1
      · rw[if_pos c3,w64 (by omega) (by omega)]
        by_cases c4:0≤c.2.2.2.2.2.2∧c.2.2.2.2.2.2≤c.2.2.1.1-c.2.1.1
        · rw[if_pos c4,if_pos (.inr (cellN_of hw hs (by omega) c3.1 c2.1 (by omega) c4.1 c4.2))]
        · rw[if_neg c4,if_neg (fun k=>c4 ⟨(k.n h0).s0,(k.n h0).s1⟩)]
      · rw[if_neg c3,if_neg (fun k=>c3 (by have:=(k.n h0).r;have:=(k.n h0).rg;omega))]
    · rw[if_neg c2,if_neg (fun k=>c2 (by have:=(k.n h0).r;have:=(k.n h0).g;have:=(k.n h0).rg;omega))]
  · rw[if_neg hs,if_neg (fun k=>hs (CellN.spans (k.n h0)))]
theorem r08_check (n:Nat) {c:Cel} (hw:CelW c):r08_Check (n+4) c=some (if CellOk c then 0 else 2):=by
  rw[r08_Check_eq,evEq,celEq0,r07_check _ hw.f,r07_check _ hw.l]
  simp only[obs,tfd,tfn]
  by_cases h0:c=z0
  · rw[if_pos h0,if_pos (.inl h0)]
  rw[if_neg h0]
  have no:∀ {p:Prop},(CellN c→p)→¬p→(if CellOk c then (0:Int) else 2)=2:=fun h h'=>if_neg (fun k=>h' (h (k.n h0)))
  by_cases c1:c.1<1
  · rw[if_pos c1,no (fun k=>k.n1) (by omega)]
  rw[if_neg c1]
  by_cases c2:EvOk c.2.1
  case neg=>rw[if_neg c2,if_neg (by decide),no (fun k=>k.f) c2]
  by_cases c3:EvOk c.2.2.1
  case neg=>rw[if_pos c2,if_pos rfl,if_neg c3,if_neg (by decide),no (fun k=>k.l) c3]
  rw[if_pos c2,if_pos rfl,if_pos c3,if_pos rfl]
  have t0:=c2.t0;have t1:=c2.t1;have t2:=c3.t0;have t3:=c3.t1
  by_cases c4:c.2.2.1.1<c.2.1.1
  · rw[if_pos c4,no (fun k=>k.ft) (by omega)]
  rw[if_neg c4,w64 (x:=c.2.2.1.1-c.2.1.1) (by omega) (by omega),w64 (x:=c.2.2.1.1-c.2.1.1+1) (by omega) (by omega)]
  by_cases c5:c.2.2.1.1-c.2.1.1+1<c.1
  · rw[if_pos c5,no (fun k=>k.n2) (by omega)]
  rw[if_neg c5]
  have hg:=hw.g;have hr:=hw.r;have hse:=hw.s
  unfold I64 at hg hr hse
  have hmw:WdOk (mkW (18446744073709551615*(c.1-1))):=mkW_ok (by omega) (by omega)
  rw[w64 (x:=c.1-1) (by omega) (by omega),wu64 (by omega) (by omega),r01_times n (a:=(0,18446744073709551615)) ⟨by simp,by simp⟩ _ (by omega),times_most (by omega)]
  simp only[obs,r01_less (n+1) hmw hw.w,wv_mkW,tfd]
  have tail:Spans c→(if c.2.2.2.2.1<0 then some (2:Int) else if c.2.2.2.2.2.1<0 then some 2 else if c.2.2.2.2.2.2<0 then some 2 else if c.1≤c.2.2.2.2.1 then some 2 else if c.1≤c.2.2.2.2.2.1 then some 2
      else if c.1≤IntKind.wrap .i64 (c.2.2.2.2.1+c.2.2.2.2.2.1) then some 2 else if c.2.2.1.1-c.2.1.1<c.2.2.2.2.2.2 then some 2 else if 18446744073709551615*(c.1-1)<wv c.2.2.2.1 then some 2 else some 0)=some (if CellOk c then 0 else 2):=by
    intro hs
    by_cases d1:c.2.2.2.2.1<0
    · rw[if_pos d1,no (fun k=>k.r) (by omega)]
    by_cases d2:c.2.2.2.2.2.1<0
    · rw[if_neg d1,if_pos d2,no (fun k=>k.g) (by omega)]
    by_cases d3:c.2.2.2.2.2.2<0
    · rw[if_neg d1,if_neg d2,if_pos d3,no (fun k=>k.s0) (by omega)]
    by_cases d4:c.1≤c.2.2.2.2.1
    · rw[if_neg d1,if_neg d2,if_neg d3,if_pos d4,no (fun k=>k.rg) (by omega)]
    by_cases d5:c.1≤c.2.2.2.2.2.1
    · rw[if_neg d1,if_neg d2,if_neg d3,if_neg d4,if_pos d5,no (fun k=>k.rg) (by omega)]
    rw[if_neg d1,if_neg d2,if_neg d3,if_neg d4,if_neg d5,w64 (x:=c.2.2.2.2.1+c.2.2.2.2.2.1) (by omega) (by omega)]
    by_cases d6:c.1≤c.2.2.2.2.1+c.2.2.2.2.2.1
    · rw[if_pos d6,no (fun k=>k.rg) (by omega)]
    by_cases d7:c.2.2.1.1-c.2.1.1<c.2.2.2.2.2.2
    · rw[if_neg d6,if_pos d7,no (fun k=>k.s1) (by omega)]
    by_cases d8:18446744073709551615*(c.1-1)<wv c.2.2.2.1
    · rw[if_neg d6,if_neg d7,if_pos d8,no (fun k=>k.inc) (by omega)]
    · rw[if_neg d6,if_neg d7,if_neg d8,if_pos (.inr (cellN_of hw hs (by omega) (by omega) (by omega) (by omega) (by omega) (by omega)))]
  by_cases c6:c.1=1
  · rw[if_pos c6]
    by_cases c7:c.2.1=c.2.2.1
    · rw[if_pos c7,if_neg (show ¬(1<c.1) by omega)]
      exact tail (.inl ⟨c6,c7,c2⟩)
    · rw[if_neg c7,no (fun k=>k.one c6) c7]
  · rw[if_neg c6]
    have c8:1<c.1:=by omega
    rw[if_pos c8]
    by_cases c9:c.2.1.1=c.2.2.1.1
    · rw[if_pos c9,no (fun k=>k.more c8) (by omega)]
    · rw[if_neg c9]
      exact tail (.inr ⟨c8,c2,c3,by omega,by omega⟩)
theorem z02 (p:Prop) [Decidable p]:((if p then (0:Int) else 2)=0)↔p:=by by_cases h:p<;>simp[h]
theorem ahead_n {a b:Cel} (ha:a≠z0) (hb:b≠z0):Ahead a b↔a.2.2.1.1<b.2.1.1:=⟨fun h=>(h.resolve_left ha).resolve_left hb,fun h => .inr (.inr h)⟩
theorem join_facts {a b:Cel} (na:CellN a) (nb:CellN b) (h:a.2.2.1.1<b.2.1.1) :
    (∀x∈[a.2.2.2.1,(dcell (btw a.2.2.1 b.2.1)).2.2.2.1,b.2.2.2.1],WdOk x)∧sumW [a.2.2.2.1,(dcell (btw a.2.2.1 b.2.1)).2.2.2.1,b.2.2.2.1]=wv a.2.2.2.1+(btw a.2.2.1 b.2.1).1+wv b.2.2.2.1 ∧
    wv a.2.2.2.1+(btw a.2.2.1 b.2.1).1+wv b.2.2.2.1<340282366920938463463374607431768211456:=by
  have d:=btw_ok na.l nb.f h
  have ia:=na.inc;have ib:=nb.inc
  have sa:=na.small;have sb:=nb.small
  have d1:=d.i
  refine ⟨?_,?_,by omega⟩
  · intro x hx
    simp only[List.mem_cons,List.not_mem_nil,or_false] at hx
    rcases hx with rfl | rfl | rfl
    · exact na.w
    · exact ⟨by simp[dcell],d1⟩
    · exact nb.w
  · simp[sumW,dcell,wv_lo];omega
theorem cell_merge (n:Nat) {a b:Cel} (ha:CelW a) (hb:CelW b):cell_Merge (n+6) a b=some (mrgE a b):=by
  rw[cell_Merge_eq,cell_check n ha,cell_check n hb,cell_none_val,cell_none_val]
  simp only[obs,tfd,tfn,z02]
  unfold mrgE
  by_cases h1:CellOk a
  case neg=>rw[if_neg h1,if_neg (fun k=>h1 k.1)];rfl
  by_cases h2:CellOk b
  case neg=>rw[if_pos h1,if_neg h2,if_neg (fun k=>h2 k.2)];rfl
  rw[if_pos h1,if_pos h2,if_pos (And.intro h1 h2)]
  by_cases h3:a=z0
  · rw[if_pos h3,if_pos (.inl h3),h3,z0_mrg]
  by_cases h4:b=z0
  · rw[if_neg h3,if_pos h4,if_pos (.inr (.inl h4)),h4,mrg_z0]
  rw[if_neg h3,if_neg h4]
  have na:=h1.n h3;have nb:=h2.n h4
  rw[cell_join_eq,event_between (n+1) na.l nb.f]
  simp only[obs]
  by_cases h5:a.2.2.1.1<b.2.1.1
  · obtain ⟨w1,w2,w3⟩:=join_facts na nb h5
    have d:=btw_ok na.l nb.f h5
    rw[if_pos h5,if_pos ((ahead_n h3 h4).2 h5)]
    simp only[decide_true,Bool.not_true,tff]
    rw[wide_sum (n+1) _ (by simp) w1 (by rw[w2];exact w3),w2]
    simp only[obs]
    rw[mrg_n na nb]
    have:=na.small;have:=nb.small;have:=na.n1;have:=nb.n1
    have:=na.r;have:=na.g;have:=na.rg;have:=nb.r;have:=nb.g;have:=nb.rg
    have:=na.s0;have:=na.s1;have:=nb.s0;have:=nb.s1
    have:=na.f.t0;have:=na.l.t1;have:=nb.f.t0;have:=nb.l.t1
    obtain ⟨d1,d2,d3,d4,d5⟩:=d
    simp only[dcell]
    rw[w64 (x:=a.1+b.1) (by omega) (by omega),w64 (x:=a.2.2.2.2.1+b.2.2.2.2.1) (by omega) (by omega),w64 (x:=a.2.2.2.2.2.1+b.2.2.2.2.2.1) (by omega) (by omega),w64 (x:=a.2.2.2.2.2.2+b.2.2.2.2.2.2) (by omega) (by omega)]
    rw[w64 (by omega) (by omega),w64 (by omega) (by omega),w64 (by omega) (by omega)]
    refine congrArg some (Prod.ext (Prod.ext rfl (Prod.ext rfl (Prod.ext rfl (Prod.ext rfl (Prod.ext ?_ (Prod.ext ?_ ?_)))))) rfl)<;>simp only<;>omega
  · rw[if_neg h5,if_neg (fun k=>h5 ((ahead_n h3 h4).1 k))]
    simp only[tfn,tfd]
    rw[if_neg (by decide)]
    rfl
theorem r08_merge (n:Nat) {a b:Cel} (ha:CelW a) (hb:CelW b):r08_Merge (n+5) a b=some (mrgE a b):=by
  rw[r08_Merge_eq,r08_check n ha,r08_check n hb]
  simp only[obs,tfd,tfn,z02]
  unfold mrgE
  by_cases h1:CellOk a
  case neg=>rw[if_neg h1,if_neg (fun k=>h1 k.1)];rfl
  by_cases h2:CellOk b
  case neg=>rw[if_pos h1,if_neg h2,if_neg (fun k=>h2 k.2)];rfl
  rw[if_pos h1,if_pos h2,if_pos (And.intro h1 h2)]
  by_cases h3:a=z0
  · rw[if_pos (h1.count.1.2 h3),if_pos (.inl h3),h3,z0_mrg]
  by_cases h4:b=z0
  · rw[if_neg (mt h1.count.1.1 h3),if_pos (h2.count.1.2 h4),if_pos (.inr (.inl h4)),h4,mrg_z0]
  rw[if_neg (mt h1.count.1.1 h3),if_neg (mt h2.count.1.1 h4)]
  have na:=h1.n h3;have nb:=h2.n h4
  by_cases h5:a.2.2.1.1<b.2.1.1
  · obtain ⟨w1,w2,w3⟩:=join_facts na nb h5
    have d:=btw_ok na.l nb.f h5
    rw[if_neg (by omega),if_pos ((ahead_n h3 h4).2 h5),r07_between (n+2) na.l nb.f,if_pos h5]
    simp only[obs]
    rw[r01_sum (n+1) _ (by simp) w1 (by rw[w2];exact w3),w2]
    simp only[obs]
    rw[mrg_n na nb]
    have:=na.small;have:=nb.small;have:=na.n1;have:=nb.n1
    have:=na.r;have:=na.g;have:=na.rg;have:=nb.r;have:=nb.g;have:=nb.rg
    have:=na.s0;have:=na.s1;have:=nb.s0;have:=nb.s1
    have:=na.f.t0;have:=na.l.t1;have:=nb.f.t0;have:=nb.l.t1
    obtain ⟨d1,d2,d3,d4,d5⟩:=d
    simp only[dcell]
    rw[w64 (x:=a.1+b.1) (by omega) (by omega),w64 (x:=a.2.2.2.2.1+_) (by omega) (by omega),w64 (x:=a.2.2.2.2.2.1+_) (by omega) (by omega),w64 (x:=a.2.2.2.2.2.2+_) (by omega) (by omega)]
    rw[w64 (by omega) (by omega),w64 (by omega) (by omega),w64 (by omega) (by omega)]
  · rw[if_pos (by omega),if_neg (fun k=>h5 ((ahead_n h3 h4).1 k))]
    rfl
theorem mrgE_ok {a b:Cel} (h:(mrgE a b).2=0):CellOk a∧CellOk b∧Ahead a b∧(mrgE a b).1=mrg a b∧CellOk (mrgE a b).1:=by
  unfold mrgE at h ⊢
  by_cases h1:CellOk a∧CellOk b
  · rw[if_pos h1] at h ⊢
    by_cases h2:Ahead a b
    · rw[if_pos h2];exact ⟨h1.1,h1.2,h2,rfl,mrg_ok h1.1 h1.2 h2⟩
    · rw[if_neg h2] at h;simp at h
  · rw[if_neg h1] at h;simp at h
theorem mrgE_w (a b:Cel):CelW (mrgE a b).1:=by
  by_cases h:(mrgE a b).2=0
  · exact .of (mrgE_ok h).2.2.2.2
  · unfold mrgE at h ⊢
    by_cases h1:CellOk a∧CellOk b
    · rw[if_pos h1] at h ⊢
      by_cases h2:Ahead a b
      · rw[if_pos h2] at h;simp at h
      · rw[if_neg h2];exact celW_z0
    · rw[if_neg h1];exact celW_z0
theorem cell_all_l (n:Nat) (s2:Cel) (l:List Cel) (hL:l.length≤1000000000000) (hw:∀x∈l,CelW x):∀(rest pre:List Cel) (f:Nat) (c:Cel) (i len:Int),l=pre++rest→i=pre.length→len=l.length→rest.length<f→CelW c →
    cell_All_l3 (n+6) f (s2,c,l,len,i,())=some (if (allE c rest).2=0 then .inl (s2,(allE c rest).1,()) else .inr (z0,(allE c rest).2)):=by
  intro rest
  induction rest with
  | nil =>
    intro pre f c i len hl hi hn hf hc
    obtain ⟨f,rfl⟩:∃g,f=g+1:=⟨f-1,by simp at hf;omega⟩
    rw[cell_All_l3_eq]
    simp only[tfd,if_neg (idxe hl hi hn),allE,if_pos trivial]
  | cons x rest ih =>
    intro pre f c i len hl hi hn hf hc
    obtain ⟨f,rfl⟩:∃g,f=g+1:=⟨f-1,by simp at hf;omega⟩
    rw[cell_All_l3_eq]
    have hx:CelW x:=hw x (by rw[hl];simp)
    simp only[tfd,tfn,if_pos (idx hl hi hn),at_mid hl hi,obs,cell_merge n hc hx,idxw hl hi hL]
    by_cases h:(mrgE c x).2=0
    · rw[if_pos h,ih (pre++[x]) f _ (i+1) len (idxl hl) (idxs hi) hn (by simp at hf;omega) (mrgE_w c x)]
      simp only[allE,if_pos h]
    · rw[if_neg h]
      simp only[allE,if_neg h]
      rfl
theorem allE_z0 (l:List Cel):∀c,(allE c l).2≠0→(allE c l).1=z0:=by
  induction l with
  | nil=>intro c h;exact absurd rfl h
  | cons x l ih =>
    intro c h
    simp only[allE] at h ⊢
    split at h
    · rename_i k;rw[if_pos k];exact ih _ h
    · rename_i k;rw[if_neg k]
theorem cell_all (n:Nat) (l:List Cel) (hL:l.length≤1000000000000) (hw:∀x∈l,CelW x):cell_All (n+7) l=some (allE z0 l):=by
  have:=cell_all_l n z0 l hL hw l [] loopFuel z0 0 l.length rfl rfl rfl (by unfold loopFuel;omega) celW_z0
  rw[cell_All_eq]
  have e:cell_All_l3 (n+6) loopFuel (((0:Int),(((0:Int),((0:Int),((0:Int),false))),(((0:Int),((0:Int),((0:Int),false))),(((0:Int),(0:Int)),((0:Int),((0:Int),(0:Int))))))),((0:Int),(((0:Int),((0:Int),((0:Int),false))),(((0:Int),((0:Int),((0:Int),false))),(((0:Int),(0:Int)),((0:Int),((0:Int),(0:Int))))))),l,(l.length:Int),(0:Int),())=_:=this
  rw[e]
  by_cases h:(allE z0 l).2=0
  · rw[if_pos h];simp only[obs,selim_inl]
    exact congrArg some (Prod.ext rfl h.symm)
  · rw[if_neg h];simp only[obs,selim_inr]
    exact congrArg some (Prod.ext (allE_z0 l z0 h).symm rfl)
theorem r08_all_l (n:Nat) (s2:Cel) (l:List Cel) (hL:l.length≤1000000000000) (hw:∀x∈l,CelW x):∀(rest pre:List Cel) (f:Nat) (c:Cel) (i len:Int),l=pre++rest→i=pre.length→len=l.length→rest.length<f→CelW c →
    r08_All_l3 (n+5) f (s2,c,l,len,i,())=some (if (allE c rest).2=0 then .inl (s2,(allE c rest).1,()) else .inr (z0,(allE c rest).2)):=by
  intro rest
  induction rest with
  | nil =>
    intro pre f c i len hl hi hn hf hc
    obtain ⟨f,rfl⟩:∃g,f=g+1:=⟨f-1,by simp at hf;omega⟩
    rw[r08_All_l3_eq]
    simp only[tfd,if_neg (idxe hl hi hn),allE,if_pos trivial]
  | cons x rest ih =>
    intro pre f c i len hl hi hn hf hc
    obtain ⟨f,rfl⟩:∃g,f=g+1:=⟨f-1,by simp at hf;omega⟩
    rw[r08_All_l3_eq]
    have hx:CelW x:=hw x (by rw[hl];simp)
    simp only[tfd,tfn,if_pos (idx hl hi hn),at_mid hl hi,obs,r08_merge n hc hx,idxw hl hi hL]
    by_cases h:(mrgE c x).2=0
    · rw[if_pos h,ih (pre++[x]) f _ (i+1) len (idxl hl) (idxs hi) hn (by simp at hf;omega) (mrgE_w c x)]
      simp only[allE,if_pos h]
    · rw[if_neg h]
      simp only[allE,if_neg h]
      rfl
theorem r08_all (n:Nat) (l:List Cel) (hL:l.length≤1000000000000) (hw:∀x∈l,CelW x):r08_All (n+6) l=some (allE z0 l):=by
  have:=r08_all_l n z0 l hL hw l [] loopFuel z0 0 l.length rfl rfl rfl (by unfold loopFuel;omega) celW_z0
  rw[r08_All_eq]
  have e:r08_All_l3 (n+5) loopFuel (((0:Int),(((0:Int),((0:Int),((0:Int),false))),(((0:Int),((0:Int),((0:Int),false))),(((0:Int),(0:Int)),((0:Int),((0:Int),(0:Int))))))),((0:Int),(((0:Int),((0:Int),((0:Int),false))),(((0:Int),((0:Int),((0:Int),false))),(((0:Int),(0:Int)),((0:Int),((0:Int),(0:Int))))))),l,(l.length:Int),(0:Int),())=_:=this
  rw[e]
  by_cases h:(allE z0 l).2=0
  · rw[if_pos h];simp only[obs,selim_inl]
    exact congrArg some (Prod.ext rfl h.symm)
  · rw[if_neg h];simp only[obs,selim_inr]
    exact congrArg some (Prod.ext (allE_z0 l z0 h).symm rfl)
theorem foll_snoc {l:List Ev} {x:Ev}:Foll (l++[x])↔Foll l∧EvOk x∧∀e∈l,e.1<x.1:=by
  rw[foll_append]
  constructor
  · rintro ⟨h1,h2,h3⟩;exact ⟨h1,h2.ok x (by simp),fun e he=>h3 e he x (by simp)⟩
  · rintro ⟨h1,h2,h3⟩
    refine ⟨h1,⟨by simpa using h2,by simp⟩,fun e he y hy => ?_⟩
    simp at hy;subst hy;exact h3 e he
theorem last_all {l:List Ev} (h:Foll l) {x y:Ev} (hy:l.getLast? = some y) (hlt:y.1<x.1):∀e∈l,e.1<x.1:=by
  intro e he
  rcases List.eq_nil_or_concat l with rfl | ⟨q,z,rfl⟩
  · cases he
  rw[List.concat_eq_append] at *
  simp at hy;subst hy
  rcases List.mem_append.1 he with h1 | h1
  · have:=(foll_append.1 h).2.2 e h1 z (by simp);omega
  · simp at h1;subst h1;exact hlt
end Go.Proofs.YtefpnjjbopdplaaGreatDoor

namespace Go.Plim
set_option linter.unusedVariables false
variable {α:Type}
def Srt (key:α→Int) (d:List α) (a b:Nat):Prop:=∀i j x y,a≤i→i<j→j<b→d[i]? = some x→d[j]? = some y→key x≤key y
structure Mv (d d':List α) (a b:Nat):Prop where
  perm:d'.Perm d
  out:∀i,(i<a∨b≤i)→d'[i]? = d[i]?
  ins:∀i x,a≤i→i<b→d'[i]? = some x→∃j,a≤j∧j<b∧d[j]? = some x
theorem Mv.len {d d':List α} {a b:Nat} (h:Mv d d' a b):d'.length=d.length:=h.perm.length_eq
theorem Mv.refl (d:List α) (a b:Nat):Mv d d a b:=⟨.refl _,fun _ _=>rfl,fun i x h1 h2 h=>⟨i,h1,h2,h⟩⟩
theorem Mv.trans {d d' d'':List α} {a b:Nat} (h:Mv d d' a b) (g:Mv d' d'' a b):Mv d d'' a b :=
  ⟨g.perm.trans h.perm,fun i hi=>(g.out i hi).trans (h.out i hi),fun i x h1 h2 hx=>by
    obtain ⟨j,j1,j2,hj⟩:=g.ins i x h1 h2 hx
    exact h.ins j x j1 j2 hj⟩
theorem Mv.mono {d d':List α} {a b a' b':Nat} (h:Mv d d' a b) (ha:a'≤a) (hb:b≤b'):Mv d d' a' b' :=
  ⟨h.perm,fun i hi=>h.out i (by omega),fun i x h1 h2 hx=>by
    by_cases k:a≤i∧i<b
    · obtain ⟨j,j1,j2,hj⟩:=h.ins i x k.1 k.2 hx
      exact ⟨j,by omega,by omega,hj⟩
    · rw[h.out i (by omega)] at hx
      exact ⟨i,h1,h2,hx⟩⟩
theorem Srt.mono {key:α→Int} {d:List α} {a b a' b':Nat} (h:Srt key d a b) (ha:a≤a') (hb:b'≤b):Srt key d a' b' :=
  fun i j x y h1 h2 h3=>h i j x y (by omega) h2 (by omega)
theorem Srt.keep {key:α→Int} {d d':List α} {a b p q:Nat} (h:Srt key d p q) (m:Mv d d' a b) (hd:q≤a∨b≤p):Srt key d' p q :=
  fun i j x y h1 h2 h3 hx hy=>h i j x y h1 h2 h3 (by rw[←m.out i (by omega)];exact hx) (by rw[←m.out j (by omega)];exact hy)
theorem Srt.one (key:α→Int) (d:List α) {a b:Nat} (h:b≤a+1):Srt key d a b:=fun i j _ _ h1 h2 h3=>by omega
theorem swap_get {d:List α} {i j:Nat} {x y:α} (hi:d[i]? = some x) (hj:d[j]? = some y) (k:Nat) :
    ((d.set i y).set j x)[k]? = if k=j then some x else if k=i then some y else d[k]? := by
  have li:=(List.getElem?_eq_some_iff.1 hi).1
  have lj:=(List.getElem?_eq_some_iff.1 hj).1
  simp only[List.getElem?_set,List.length_set]
  by_cases e:j=k
  · subst e;simp[lj]
  · by_cases e':i=k
    · subst e';simp[e,li,Ne.symm e]
    · simp[e,e',Ne.symm e,Ne.symm e']
theorem swap_mv {d:List α} {i j a b:Nat} {x y:α} (hi:d[i]? = some x) (hj:d[j]? = some y) (i1:a≤i) (i2:i<b) (j1:a≤j) (j2:j<b):Mv d ((d.set i y).set j x) a b:=by
  have li:=(List.getElem?_eq_some_iff.1 hi)
  have lj:=(List.getElem?_eq_some_iff.1 hj)
  obtain ⟨li,rfl⟩:=li
  obtain ⟨lj,rfl⟩:=lj
  refine ⟨List.set_set_perm li lj,fun k hk => ?_,fun k z k1 k2 hz => ?_⟩
  · rw[swap_get hi hj,if_neg (by omega),if_neg (by omega)]
  · rw[swap_get hi hj] at hz
    by_cases e:k=j
    · rw[if_pos e] at hz;exact ⟨i,i1,i2,by rw[←hz,hi]⟩
    · rw[if_neg e] at hz
      by_cases e':k=i
      · rw[if_pos e'] at hz;exact ⟨j,j1,j2,by rw[←hz,hj]⟩
      · rw[if_neg e'] at hz;exact ⟨k,k1,k2,hz⟩
structure Turned (d d':List α) (a m b:Nat):Prop where
  mv:Mv d d' a b
  lo:∀i,a≤i→i<a+(b-m)→d'[i]? = d[i+(m-a)]?
  hi:∀i,a+(b-m)≤i→i<b→d'[i]? = d[i-(b-m)]?
theorem turned_lists {P U V S d d':List α} {a m b:Nat} (hd:d=P++(U++(V++S))) (hd':d'=P++(V++(U++S))) (ha:P.length=a) (hm:a+U.length=m) (hb:m+V.length=b):Turned d d' a m b:=by
  subst hd hd' ha hm hb
  have perm:(P++(V++(U++S))).Perm (P++(U++(V++S))):=by
    refine List.Perm.append_left P ?_
    rw[←List.append_assoc,←List.append_assoc]
    exact List.Perm.append_right S List.perm_append_comm
  have out:∀i,(i<P.length∨P.length+U.length+V.length≤i)→(P++(V++(U++S)))[i]? = (P++(U++(V++S)))[i]? := by
    intro i hi
    rcases hi with hi | hi
    · rw[List.getElem?_append_left hi,List.getElem?_append_left hi]
    · rw[List.getElem?_append_right (by omega),List.getElem?_append_right (by omega),List.getElem?_append_right (by omega),List.getElem?_append_right (by omega),List.getElem?_append_right (by omega),List.getElem?_append_right (by omega)]
      congr 1;omega
  have lo:∀i,P.length≤i→i<P.length+(P.length+U.length+V.length-(P.length+U.length))→(P++(V++(U++S)))[i]? = (P++(U++(V++S)))[i+(P.length+U.length-P.length)]? := by
    intro i h1 h2
    rw[List.getElem?_append_right (by omega),List.getElem?_append_left (by omega),List.getElem?_append_right (by omega),List.getElem?_append_right (by omega),List.getElem?_append_left (by omega)]
    congr 1;omega
  have hi:∀i,P.length+(P.length+U.length+V.length-(P.length+U.length))≤i→i<P.length+U.length+V.length→(P++(V++(U++S)))[i]? = (P++(U++(V++S)))[i-(P.length+U.length+V.length-(P.length+U.length))]? := by
    intro i h1 h2
    rw[List.getElem?_append_right (by omega),List.getElem?_append_right (by omega),List.getElem?_append_left (by omega),List.getElem?_append_right (by omega),List.getElem?_append_left (by omega)]
    congr 1;omega
  refine ⟨⟨perm,out,fun i x h1 h2 hx => ?_⟩,lo,hi⟩
  by_cases k:i<P.length+(P.length+U.length+V.length-(P.length+U.length))
  · rw[lo i h1 k] at hx;exact ⟨_,by omega,by omega,hx⟩
  · rw[hi i (by omega) h2] at hx;exact ⟨_,by omega,by omega,hx⟩
theorem turned_refl (d:List α) {a m b:Nat} (h:(a≤m∧m=b)∨(a=m∧m≤b)):Turned d d a m b:=by
  rcases h with ⟨h1,rfl⟩ | ⟨rfl,h1⟩
  · exact ⟨.refl _ _ _,fun i h2 h3=>by omega,fun i h2 h3=>by simp⟩
  · exact ⟨.refl _ _ _,fun i h2 h3=>by simp,fun i h2 h3=>by omega⟩
theorem cut4 (d:List α) {a m b:Nat} (h1:a≤m) (h2:m≤b) (h3:b≤d.length) :
    ∃P U V S,d=P++(U++(V++S))∧P.length=a∧a+U.length=m∧m+V.length=b:=by
  refine ⟨d.take a,(d.drop a).take (m-a),(d.drop m).take (b-m),d.drop b,?_,?_,?_,?_⟩
  · have e1:(d.drop m).take (b-m)++d.drop b=d.drop m:=by
      conv=>rhs;rw[←List.take_append_drop (b-m) (d.drop m),List.drop_drop]
      rw[show m+(b-m)=b by omega]
    have e2:(d.drop a).take (m-a)++d.drop m=d.drop a:=by
      conv=>rhs;rw[←List.take_append_drop (m-a) (d.drop a),List.drop_drop]
      rw[show a+(m-a)=m by omega]
    rw[e1,e2,List.take_append_drop]
  all_goals simp
  all_goals omega
theorem halves {key:α→Int} {d d':List α} {a m b mid s e:Nat} (h1:Srt key d a m) (h2:Srt key d m b) (t:Turned d d' s m e)
    (k1:a≤s) (k2:s≤m) (k3:m≤e) (k4:e≤b) (k5:e+s=mid+m) (hb:b≤d.length)
    (c1:∀x y,a<s→e<b→d[s-1]? = some x→d[e]? = some y→key x≤key y)
    (c2:∀x y,s<m→m<e→d[e-1]? = some x→d[s]? = some y→key x≤key y) :
    (Srt key d' a s∧Srt key d' s mid∧Srt key d' mid e∧Srt key d' e b) ∧
    ∀i j x y,a≤i→i<mid→mid≤j→j<b→d'[i]? = some x→d'[j]? = some y→key x≤key y:=by
  have lo:=t.lo;have hi:=t.hi;have out:=t.mv.out
  have e1:s+(e-m)=mid:=by omega
  rw[e1] at lo hi
  have le1:∀ {i j x y},a≤i→i≤j→j<m→d[i]? = some x→d[j]? = some y→key x≤key y:=by
    intro i j x y q1 q2 q3 hx hy
    rcases Nat.lt_or_eq_of_le q2 with q | q
    · exact h1 i j x y q1 q q3 hx hy
    · subst q;rw[hx] at hy;injection hy with hy;subst hy;exact Int.le_refl _
  have le2:∀ {i j x y},m≤i→i≤j→j<b→d[i]? = some x→d[j]? = some y→key x≤key y:=by
    intro i j x y q1 q2 q3 hx hy
    rcases Nat.lt_or_eq_of_le q2 with q | q
    · exact h2 i j x y q1 q q3 hx hy
    · subst q;rw[hx] at hy;injection hy with hy;subst hy;exact Int.le_refl _
  have getm:∀i,i<d.length→∃x,d[i]? = some x:=fun i h=>⟨d[i],List.getElem?_eq_getElem h⟩
  refine ⟨⟨?_,?_,?_,?_⟩,?_⟩
  · intro i j x y q1 q2 q3 hx hy
    rw[out i (by omega)] at hx;rw[out j (by omega)] at hy
    exact h1 i j x y q1 q2 (by omega) hx hy
  · intro i j x y q1 q2 q3 hx hy
    rw[lo i (by omega) (by omega)] at hx;rw[lo j (by omega) (by omega)] at hy
    exact h2 _ _ x y (by omega) (by omega) (by omega) hx hy
  · intro i j x y q1 q2 q3 hx hy
    rw[hi i (by omega) (by omega)] at hx;rw[hi j (by omega) (by omega)] at hy
    exact h1 _ _ x y (by omega) (by omega) (by omega) hx hy
  · intro i j x y q1 q2 q3 hx hy
    rw[out i (by omega)] at hx;rw[out j (by omega)] at hy
    exact h2 i j x y (by omega) q2 q3 hx hy
  · intro i j x y q1 q2 q3 q4 hx hy
    by_cases r1:i<s
    · rw[out i (by omega)] at hx
      by_cases r2:j<e
      · rw[hi j (by omega) (by omega)] at hy
        exact le1 (by omega) (by omega) (by omega) hx hy
      · rw[out j (by omega)] at hy
        obtain ⟨u,hu⟩:=getm (s-1) (by omega)
        obtain ⟨v,hv⟩:=getm e (by omega)
        have:=c1 u v (by omega) (by omega) hu hv
        have:=le1 (i:=i) (j:=s-1) (by omega) (by omega) (by omega) hx hu
        have:=le2 (i:=e) (j:=j) (by omega) (by omega) (by omega) hv hy
        omega
    · rw[lo i (by omega) (by omega)] at hx
      by_cases r2:j<e
      · rw[hi j (by omega) (by omega)] at hy
        obtain ⟨u,hu⟩:=getm (e-1) (by omega)
        obtain ⟨v,hv⟩:=getm s (by omega)
        have:=c2 u v (by omega) (by omega) hu hv
        have:=le2 (i:=i+(m-s)) (j:=e-1) (by omega) (by omega) (by omega) hx hu
        have:=le1 (i:=s) (j:=j-(e-m)) (by omega) (by omega) (by omega) hv hy
        omega
      · rw[out j (by omega)] at hy
        exact le2 (by omega) (by omega) (by omega) hx hy
theorem Srt.join {key:α→Int} {d:List α} {a m b:Nat} (h1:Srt key d a m) (h2:Srt key d m b) (h:∀i j x y,a≤i→i<m→m≤j→j<b→d[i]? = some x→d[j]? = some y→key x≤key y):Srt key d a b:=by
  intro i j x y q1 q2 q3 hx hy
  by_cases r1:j<m
  · exact h1 i j x y q1 q2 r1 hx hy
  · by_cases r2:m≤i
    · exact h2 i j x y r2 q2 q3 hx hy
    · exact h i j x y q1 (by omega) (by omega) q3 hx hy
theorem cross_mv {key:α→Int} {d d':List α} {a m b:Nat} (h:∀i j x y,a≤i→i<m→m≤j→j<b→d[i]? = some x→d[j]? = some y→key x≤key y)
    (t:Mv d d' a m∨Mv d d' m b):∀i j x y,a≤i→i<m→m≤j→j<b→d'[i]? = some x→d'[j]? = some y→key x≤key y:=by
  intro i j x y q1 q2 q3 q4 hx hy
  rcases t with t | t
  · obtain ⟨k,k1,k2,hk⟩:=t.ins i x q1 q2 hx
    rw[t.out j (by omega)] at hy
    exact h k j x y k1 k2 q3 q4 hk hy
  · obtain ⟨k,k1,k2,hk⟩:=t.ins j y q3 q4 hy
    rw[t.out i (by omega)] at hx
    exact h i k x y q1 q2 k1 k2 hx hk
end Go.Plim
