/-
 Plain proofs about the functions of this seat, part 1 of 3.
-/
import Derived.IntWalk
import Derived.Test.YtkajechaanmplaaGreatDoorTr
import Derived.Test.YtkajechaanmplaaGreatDoorFlatM4
namespace Go.Plim
set_option linter.unusedVariables false
abbrev Wd:=Int×Int
abbrev Ev:=Int×(Int×(Int×Bool))
abbrev Cel:=Int×(Ev×(Ev×(Wd×(Int×(Int×Int)))))
instance decWd:DecidableEq Wd:=inferInstanceAs (DecidableEq (Int×Int))
instance decEv:DecidableEq Ev:=inferInstanceAs (DecidableEq (Int×(Int×(Int×Bool))))
instance decCel:DecidableEq Cel := @instDecidableEqProd _ _ _ (@instDecidableEqProd _ _ decEv (@instDecidableEqProd _ _ decEv (@instDecidableEqProd _ _ decWd inferInstance)))
def wv (a:Wd):Int:=a.1*18446744073709551616+a.2
structure WdOk (a:Wd):Prop where
 hi:0≤a.1∧a.1≤18446744073709551615
 lo:0≤a.2∧a.2≤18446744073709551615
def mkW (v:Int):Wd:=(v / 18446744073709551616,v % 18446744073709551616)
theorem mkW_wv {a:Wd} (h:WdOk a):mkW (wv a)=a:=by
 obtain ⟨h1,h2⟩:=h;obtain ⟨x,y⟩:=a;simp only[mkW,wv] at *
 exact Prod.ext (by simp only;omega) (by simp only;omega)
theorem q1b (v:Int):wv (mkW v)=v:=by
 simp only[mkW,wv];omega
theorem z1c {v:Int} (h:0≤v) (h':v<340282366920938463463374607431768211456):WdOk (mkW v):=by
 constructor<;>simp only[mkW]<;>omega
theorem s0b {a:Wd} (h:WdOk a):0≤wv a∧wv a<340282366920938463463374607431768211456:=by
 obtain ⟨h1,h2⟩:=h;simp only[wv];omega
theorem w1g:wv (0,0)=0:=rfl
theorem wv_lo (x:Int):wv (0,x)=x:=by simp[wv]
def addW (a b:Wd):Wd×Int:=if wv a+wv b<340282366920938463463374607431768211456 then (mkW (wv a+wv b),0) else ((0,0),1)
def e0:Ev:=(0,(0,(0,false)))
structure EvOk (e:Ev):Prop where
 t0:0≤e.1
 t1:e.1<35184372088832
 v0:0≤e.2.1
 v1:e.2.1≤18446744073709551615
 c0:0≤e.2.2.1
 c1:e.2.2.1≤e.1
 st:e.2.2.2=true→e.2.1=0∧e.2.2.1=0
theorem evOk_iff (e:Ev):EvOk e↔(0≤e.1∧e.1<35184372088832∧0≤e.2.1∧e.2.1≤18446744073709551615∧0≤e.2.2.1∧e.2.2.1≤e.1∧(e.2.2.2=true→e.2.1=0∧e.2.2.1=0)) :=
 ⟨fun ⟨a,b,c,d,f,g,h⟩=>⟨a,b,c,d,f,g,h⟩,fun ⟨a,b,c,d,f,g,h⟩=>⟨a,b,c,d,f,g,h⟩⟩
instance (e:Ev):Decidable (EvOk e):=decidable_of_iff _ (evOk_iff e).symm
def btw (p c:Ev):Int×(Int×(Int×Int)) :=
 if c.2.2.2=true then (0,0,0,0)
 else if p.1<c.2.2.1 then (c.2.1,1,0,c.1-c.2.2.1)
 else if p.2.2.2=true then (0,0,1,0)
 else if c.2.1<p.2.1 then (c.2.1,1,0,c.1-p.1)
 else (c.2.1-p.2.1,0,0,c.1-p.1)
structure DlOk (d:Int×(Int×(Int×Int))) (s:Int):Prop where
 i:0≤d.1∧d.1≤18446744073709551615
 r:0≤d.2.1
 g:0≤d.2.2.1
 rg:d.2.1+d.2.2.1≤1
 s:0≤d.2.2.2∧d.2.2.2≤s
theorem b2y {p c:Ev} (hp:EvOk p) (hc:EvOk c) (h:p.1<c.1):DlOk (btw p c) (c.1-p.1):=by
 obtain ⟨a1,a2,a3,a4,a5,a6,a7⟩:=hp;obtain ⟨b1,b2,b3,b4,b5,b6,b7⟩:=hc;unfold btw;by_cases k1:c.2.2.2=true
 ·rw[if_pos k1];constructor<;>simp only<;>omega
 rw[if_neg k1];by_cases k2:p.1<c.2.2.1
 ·rw[if_pos k2];constructor<;>simp only<;>omega
 rw[if_neg k2];by_cases k3:p.2.2.2=true
 ·rw[if_pos k3];constructor<;>simp only<;>omega
 rw[if_neg k3];by_cases k4:c.2.1<p.2.1
 ·rw[if_pos k4];constructor<;>simp only<;>omega
 rw[if_neg k4];constructor<;>simp only<;>omega
def z0:Cel:=(0,(e0,(e0,((0,0),(0,(0,0))))))
structure CellN (c:Cel):Prop where
 n1:1≤c.1
 f:EvOk c.2.1
 l:EvOk c.2.2.1
 one:c.1=1→c.2.1=c.2.2.1
 more:1<c.1→c.2.1.1<c.2.2.1.1
 n2:c.1-1≤c.2.2.1.1-c.2.1.1
 w:WdOk c.2.2.2.1
 inc:wv c.2.2.2.1≤18446744073709551615*(c.1-1)
 r:0≤c.2.2.2.2.1
 g:0≤c.2.2.2.2.2.1
 rg:c.2.2.2.2.1+c.2.2.2.2.2.1≤c.1-1
 s0:0≤c.2.2.2.2.2.2
 s1:c.2.2.2.2.2.2≤c.2.2.1.1-c.2.1.1
theorem wdOk_iff (a:Wd):WdOk a↔(0≤a.1∧a.1≤18446744073709551615)∧(0≤a.2∧a.2≤18446744073709551615) :=
 ⟨fun ⟨a,b⟩=>⟨a,b⟩,fun ⟨a,b⟩=>⟨a,b⟩⟩
instance (a:Wd):Decidable (WdOk a):=decidable_of_iff _ (wdOk_iff a).symm
theorem b2t (c:Cel):CellN c↔(1≤c.1∧EvOk c.2.1∧EvOk c.2.2.1∧(c.1=1→c.2.1=c.2.2.1)∧(1<c.1→c.2.1.1<c.2.2.1.1)∧c.1-1≤c.2.2.1.1-c.2.1.1∧WdOk c.2.2.2.1 ∧
  wv c.2.2.2.1≤18446744073709551615*(c.1-1)∧0≤c.2.2.2.2.1∧0≤c.2.2.2.2.2.1∧c.2.2.2.2.1+c.2.2.2.2.2.1≤c.1-1∧0≤c.2.2.2.2.2.2∧c.2.2.2.2.2.2≤c.2.2.1.1-c.2.1.1) :=
 ⟨fun ⟨a,b,c,d,e,f,g,h,i,j,k,l,m⟩=>⟨a,b,c,d,e,f,g,h,i,j,k,l,m⟩,fun ⟨a,b,c,d,e,f,g,h,i,j,k,l,m⟩=>⟨a,b,c,d,e,f,g,h,i,j,k,l,m⟩⟩
instance (c:Cel):Decidable (CellN c):=decidable_of_iff _ (b2t c).symm
def c0p (c:Cel):Prop:=c=z0∨CellN c
instance (c:Cel):Decidable (c0p c):=by unfold c0p;infer_instance
theorem CellN.ne {c:Cel} (h:CellN c):c≠z0:=by
 intro e;have:=h.n1;rw[e] at this;simp[z0] at this
theorem CellN.ok {c:Cel} (h:CellN c):c0p c := .inr h
theorem z1a:c0p z0 := .inl rfl
theorem c0p.n {c:Cel} (h:c0p c) (hz:c≠z0):CellN c:=h.resolve_left hz
theorem c0p.count {c:Cel} (h:c0p c):(c.1=0↔c=z0)∧0≤c.1:=by
 rcases h with rfl | h
 ·exact ⟨⟨fun _=>rfl,fun _=>rfl⟩,by simp[z0]⟩
 ·have:=h.n1;exact ⟨⟨fun e=>by omega,fun e=>absurd e h.ne⟩,by omega⟩
theorem CellN.ft {c:Cel} (h:CellN c):c.2.1.1≤c.2.2.1.1:=by have:=h.n1;have:=h.n2;omega
theorem CellN.small {c:Cel} (h:CellN c):c.1≤35184372088832:=by
 have:=h.n2;have:=h.f.t0;have:=h.l.t1;omega
def mrg (a b:Cel):Cel :=
 if a=z0 then b else if b=z0 then a else
  (a.1+b.1,(a.2.1,(b.2.2.1,(mkW (wv a.2.2.2.1+(btw a.2.2.1 b.2.1).1+wv b.2.2.2.1),
   (a.2.2.2.2.1+(btw a.2.2.1 b.2.1).2.1+b.2.2.2.2.1,(a.2.2.2.2.2.1+(btw a.2.2.1 b.2.1).2.2.1+b.2.2.2.2.2.1,a.2.2.2.2.2.2+(btw a.2.2.1 b.2.1).2.2.2+b.2.2.2.2.2.2))))))
def Ahead (a b:Cel):Prop:=a=z0∨b=z0∨a.2.2.1.1<b.2.1.1
instance (a b:Cel):Decidable (Ahead a b):=by unfold Ahead;infer_instance
theorem mrg_z0 (a:Cel):mrg a z0=a:=by
 unfold mrg;split
 ·rename_i h;exact h.symm
 ·simp
theorem p1z (a:Cel):mrg z0 a=a:=by unfold mrg;simp
theorem o1p {a b:Cel} (ha:CellN a) (hb:CellN b):mrg a b=(a.1+b.1,(a.2.1,(b.2.2.1,(mkW (wv a.2.2.2.1+(btw a.2.2.1 b.2.1).1+wv b.2.2.2.1),
  (a.2.2.2.2.1+(btw a.2.2.1 b.2.1).2.1+b.2.2.2.2.1,(a.2.2.2.2.2.1+(btw a.2.2.1 b.2.1).2.2.1+b.2.2.2.2.2.1,a.2.2.2.2.2.2+(btw a.2.2.1 b.2.1).2.2.2+b.2.2.2.2.2.2)))))):=by
 unfold mrg;rw[if_neg ha.ne,if_neg hb.ne]
theorem mrg_N {a b:Cel} (ha:CellN a) (hb:CellN b) (h:a.2.2.1.1<b.2.1.1):CellN (mrg a b):=by
 have d:=b2y ha.l hb.f h;have a1:=ha.n1;have b1:=hb.n1;have a2:=ha.ft;have b2:=hb.ft;have a3:=ha.inc;have b3:=hb.inc;have a4:=s0b ha.w;have b4:=s0b hb.w;have a5:=ha.small;have b5:=hb.small;rw[o1p ha hb];generalize btw a.2.2.1 b.2.1=x at *
 obtain ⟨d1,d2,d3,d4,d5⟩:=d;have e:18446744073709551615*(a.1+b.1-1)=18446744073709551615*(a.1-1)+18446744073709551615+18446744073709551615*(b.1-1):=by omega
 constructor<;>simp only
 ·omega
 ·exact ha.f
 ·exact hb.l
 ·intro h;omega
 ·intro _;omega
 ·have:=ha.n2;have:=hb.n2;omega
 ·exact z1c (by omega) (by omega)
 ·rw[q1b];omega
 ·have:=ha.r;have:=hb.r;omega
 ·have:=ha.g;have:=hb.g;omega
 ·have:=ha.rg;have:=hb.rg;omega
 ·have:=ha.s0;have:=hb.s0;omega
 ·have:=ha.s1;have:=hb.s1;omega
theorem mrg_ok {a b:Cel} (ha:c0p a) (hb:c0p b) (h:Ahead a b):c0p (mrg a b):=by
 by_cases k:a=z0
 ·rw[k,p1z];exact hb
 by_cases k':b=z0
 ·rw[k',mrg_z0];exact ha
 exact .inr (mrg_N (ha.n k) (hb.n k') ((h.resolve_left k).resolve_left k'))
def d0j (e:Ev):Cel:=(1,(e,(e,((0,0),(0,(0,0))))))
theorem n0h {e:Ev} (h:EvOk e):CellN (d0j e):=by
 constructor<;>simp only[d0j]
 ·omega
 ·exact h
 ·exact h
 ·intro _;trivial
 ·intro h;omega
 ·omega
 ·exact ⟨by simp,by simp⟩
 ·simp[wv]
 all_goals omega
def cellOf (l:List Ev):Cel:=l.foldl (fun c e=>mrg c (d0j e)) z0
structure Foll (l:List Ev):Prop where
 ok:∀e∈l,EvOk e
 inc:l.Pairwise fun a b=>a.1<b.1
theorem Foll.nil:Foll []:=⟨by simp,.nil⟩
theorem a2g {e:Ev} {l:List Ev}:Foll (e::l)↔EvOk e∧(∀x∈l,e.1<x.1)∧Foll l:=by
 constructor
 ·rintro ⟨h1,h2⟩;rw[List.pairwise_cons] at h2;exact ⟨h1 e (by simp),h2.1,⟨fun x hx=>h1 x (by simp[hx]),h2.2⟩⟩
 ·rintro ⟨h1,h2,h3⟩;refine ⟨fun x hx => ?_,List.pairwise_cons.2 ⟨h2,h3.inc⟩⟩;rcases List.mem_cons.1 hx with rfl | hx
  ·exact h1
  ·exact h3.ok x hx
theorem d0a {l m:List Ev}:Foll (l++m)↔Foll l∧Foll m∧∀x∈l,∀y∈m,x.1<y.1:=by
 constructor
 ·rintro ⟨h1,h2⟩;rw[List.pairwise_append] at h2;exact ⟨⟨fun x hx=>h1 x (by simp[hx]),h2.1⟩,⟨fun x hx=>h1 x (by simp[hx]),h2.2.1⟩,h2.2.2⟩
 ·rintro ⟨h1,h2,h3⟩;refine ⟨fun x hx => ?_,List.pairwise_append.2 ⟨h1.inc,h2.inc,h3⟩⟩;rcases List.mem_append.1 hx with hx | hx
  ·exact h1.ok x hx
  ·exact h2.ok x hx
theorem Foll.sub {l m:List Ev} (h:Foll l) (s:m.Sublist l):Foll m:=⟨fun e he=>h.ok e (s.subset he),h.inc.sublist s⟩
theorem p1p (l:List Ev) (e:Ev):cellOf (l++[e])=mrg (cellOf l) (d0j e):=by simp[cellOf,List.foldl_append]
theorem v1u (e:Ev):cellOf [e]=d0j e:=by simp[cellOf,p1z]
structure Has (l:List Ev) (c:Cel):Prop where
 n:CellN c
 cnt:c.1=l.length
 first:l.head? = some c.2.1
 last:l.getLast? = some c.2.2.1
theorem d1v:∀(l:List Ev) (e:Ev),Foll (l++[e])→Has (l++[e]) (cellOf (l++[e])):=by
 intro l;induction hl:l.length generalizing l with
 | zero =>
  intro e h;obtain rfl:=List.length_eq_zero_iff.1 hl;rw[List.nil_append,v1u];exact ⟨n0h (h.ok e (by simp)),rfl,rfl,rfl⟩
 | succ k ih =>
  intro e h;rcases List.eq_nil_or_concat l with rfl | ⟨m,x,rfl⟩
  ·cases hl
  rw[List.concat_eq_append] at *
  have hm:=ih m (by simp at hl;exact hl) x (d0a.1 h).1;have hx:x.1<e.1:=(d0a.1 h).2.2 x (by simp) e (by simp);rw[p1p];have hlast:(cellOf (m++[x])).2.2.1=x:=by have:=hm.last;simp at this;exact this.symm
  have he:=n0h (h.ok e (by simp));have hlt:(cellOf (m++[x])).2.2.1.1<(d0j e).2.1.1:=by rw[hlast];exact hx
  refine ⟨mrg_N hm.n he hlt,?_,?_,?_⟩
  ·rw[o1p hm.n he];simp only[hm.cnt,d0j];simp;omega
  ·rw[o1p hm.n he];have:=hm.first;simp only[List.head?_append] at this ⊢;rw[this];rfl
  ·rw[o1p hm.n he];simp[d0j]
theorem b2s {l:List Ev} (h:Foll l):c0p (cellOf l):=by
 rcases List.eq_nil_or_concat l with rfl | ⟨m,x,rfl⟩
 ·exact z1a
 ·rw[List.concat_eq_append] at *;exact (d1v m x h).n.ok
theorem s1b {l:List Ev} (h:Foll l) (hn:l≠[]):Has l (cellOf l):=by
 rcases List.eq_nil_or_concat l with rfl | ⟨m,x,rfl⟩
 ·exact absurd rfl hn
 ·rw[List.concat_eq_append] at *;exact d1v m x h
def mrgE (a b:Cel):Cel×Int:=if c0p a∧c0p b then (if Ahead a b then (mrg a b,0) else (z0,9)) else (z0,2)
def allE:Cel→List Cel→Cel×Int
 | c,[]=>(c,0)
 | c,x::r=>if (mrgE c x).2=0 then allE (mrgE c x).1 r else (z0,(mrgE c x).2)
end Go.Plim

namespace Go.Proofs.YtkajechaanmplaaGreatDoor
open Go.Flat Go.Plim
set_option linter.unusedVariables false
set_option linter.unusedSimpArgs false
theorem shr_nat (x:Int) (k:Nat) (hk:k≤64):shrI .u64 x (k:Int)=x / 2^k:=by
 unfold shrI;rw[show min (k:Int).toNat IntKind.u64.bits=k from by show min (k:Int).toNat 64=k;omega];exact Int.fdiv_eq_ediv_of_nonneg _ (Int.le_of_lt (Int.pow_pos (by decide)))
theorem and_mask (x:Int) (k:Nat) (hk:k≤63) (h:0≤x) (h':x≤18446744073709551615):andI .u64 x ((2^k-1:Nat):Int)=x % ((2^k:Nat):Int):=by
 obtain ⟨a,rfl⟩:=Int.eq_ofNat_of_zero_le h;have hp:2^k≤2^63:=Nat.pow_le_pow_right (by decide) hk;have h63:(2:Nat)^63=9223372036854775808:=by decide
 unfold andI;have e:(BitVec.ofInt IntKind.u64.bits (a:Int) &&& BitVec.ofInt IntKind.u64.bits ((2^k-1:Nat):Int)).toNat=a % 2^k:=by
  show (BitVec.ofInt 64 (a:Int) &&& BitVec.ofInt 64 ((2^k-1:Nat):Int)).toNat=_;rw[BitVec.toNat_and,BitVec.ofInt_natCast,BitVec.ofInt_natCast,BitVec.toNat_ofNat,BitVec.toNat_ofNat,Nat.mod_eq_of_lt (a:=a) (by omega),Nat.mod_eq_of_lt (a:=2^k-1) (by omega),Nat.and_two_pow_sub_one_eq_mod]
 rw[e];have:a % 2^k<2^k:=Nat.mod_lt _ (Nat.pow_pos (by decide));rw[wu64 (by omega) (by omega)];simp
theorem or_zero (a b:Int) (ha:0≤a∧a≤18446744073709551615) (hb:0≤b∧b≤18446744073709551615):orI .u64 a b=0↔a=0∧b=0:=by
 obtain ⟨a,rfl⟩:=Int.eq_ofNat_of_zero_le ha.1;obtain ⟨b,rfl⟩:=Int.eq_ofNat_of_zero_le hb.1;unfold orI;have e2:(BitVec.ofInt IntKind.u64.bits (a:Int) ||| BitVec.ofInt IntKind.u64.bits (b:Int)).toNat=a ||| b:=by
  show (BitVec.ofInt 64 (a:Int) ||| BitVec.ofInt 64 (b:Int)).toNat=_;rw[BitVec.toNat_or,BitVec.ofInt_natCast,BitVec.ofInt_natCast,BitVec.toNat_ofNat,BitVec.toNat_ofNat,Nat.mod_eq_of_lt (by omega),Nat.mod_eq_of_lt (by omega)]
 rw[e2];have:a ||| b<2^64:=Nat.or_lt_two_pow (by omega) (by omega)
 rw[wu64 (by omega) (by omega)];have h3:a ||| b=0↔a=0∧b=0:=Nat.or_eq_zero_iff
 omega
theorem m1e (n:Nat) (x:Int):y0b (n+1) x=some (0,x):=s1m n x
theorem s0c (n:Nat) (a:Wd) (o:Int):s0d (n+1) a o=some (if o=0 then (a,0) else ((0,0),1)):=by
 rw[i1o];by_cases h:o=0<;>simp[h]
theorem wide_add (n:Nat) {a b:Wd} (ha:WdOk a) (hb:WdOk b):e1h (n+2) a b=some (addW a b):=by
 obtain ⟨h1,h2⟩:=ha;obtain ⟨h3,h4⟩:=hb;obtain ⟨ah,al⟩:=a;obtain ⟨bh,bl⟩:=b;simp only at h1 h2 h3 h4;rw[m1g];simp only[u0k,tfd,if_pos h2.1,if_pos h4.1,if_pos h1.1,if_pos h3.1,tft,if_pos (show (0:Int)≤(al+bl+0) / 18446744073709551616 by omega),if_pos (show (al+bl+0) / 18446744073709551616≤(1:Int) by omega),s0c,obs];unfold addW;have ea:wv (ah,al)=ah*18446744073709551616+al:=rfl;have eb:wv (bh,bl)=bh*18446744073709551616+bl:=rfl;generalize wv (ah,al)=va at *
 generalize wv (bh,bl)=vb at *
 by_cases hc:va+vb<340282366920938463463374607431768211456
 ·rw[if_pos hc,if_pos (by omega)];simp only[mkW];congr 2;exact Prod.ext (by simp only;omega) (by simp only;omega)
 ·rw[if_neg hc,if_neg (by omega)]
theorem w1k (n:Nat) {a b:Wd} (ha:WdOk a) (hb:WdOk b):y0c (n+1) a b=some (decide (wv a<wv b)):=by
 obtain ⟨h1,h2⟩:=ha;obtain ⟨h3,h4⟩:=hb;obtain ⟨ah,al⟩:=a;obtain ⟨bh,bl⟩:=b;simp only at h1 h2 h3 h4;rw[i1p];have ea:wv (ah,al)=ah*18446744073709551616+al:=rfl;have eb:wv (bh,bl)=bh*18446744073709551616+bl:=rfl;generalize wv (ah,al)=va at *
 generalize wv (bh,bl)=vb at *
 simp only[tfd];by_cases c1:ah<bh
 ·rw[if_pos c1,decide_eq_true (by omega)]
 ·rw[if_neg c1];by_cases c2:ah=bh
  ·rw[if_pos c2];congr 1;exact decide_eq_decide.2 (by omega)
  ·rw[if_neg c2,decide_eq_false (by omega)]
theorem mul64 (n:Nat) (x y:Int) (hx:0≤x∧x≤18446744073709551615) (hy:0≤y∧y≤18446744073709551615):g0f (n+1) x y=some (x*y / 18446744073709551616,x*y % 18446744073709551616):=by
 rw[t0m];have sh:∀z:Int,shrI .u64 z (32:Int)=z / 4294967296:=fun z=>shr_nat z 32 (by decide)
 have an:∀z:Int,0≤z→z≤18446744073709551615→andI .u64 z (4294967295:Int)=z % 4294967296:=fun z h h'=>and_mask z 32 (by decide) h h'
 rw[an x hx.1 hx.2,an y hy.1 hy.2];simp only[sh];have b1:0≤x / 4294967296∧x / 4294967296≤4294967295:=by omega
 have b2:0≤y / 4294967296∧y / 4294967296≤4294967295:=by omega
 have b3:0≤x % 4294967296∧x % 4294967296≤4294967295:=by omega
 have b4:0≤y % 4294967296∧y % 4294967296≤4294967295:=by omega
 have ex:x=x / 4294967296*4294967296+x % 4294967296:=by omega
 have ey:y=y / 4294967296*4294967296+y % 4294967296:=by omega
 generalize hx1:x / 4294967296=x1 at *
 generalize hx0:x % 4294967296=x0 at *
 generalize hy1:y / 4294967296=y1 at *
 generalize hy0:y % 4294967296=y0 at *
 have bound:∀ {u v:Int},0≤u∧u≤4294967295→0≤v∧v≤4294967295→0≤u*v∧u*v≤18446744065119617025:=fun {u v} hu hv =>
  ⟨Int.mul_nonneg hu.1 hv.1,Int.le_trans (Int.mul_le_mul hu.2 hv.2 hv.1 (by decide)) (by decide)⟩
 have p11:=bound b1 b2;have p10:=bound b1 b4;have p01:=bound b3 b2;have p00:=bound b3 b4;have exy:x*y=x1*y1*18446744073709551616+(x1*y0+x0*y1)*4294967296+x0*y0:=by
  rw[ex,ey];simp only[Int.add_mul,Int.mul_add];have q1:x1*4294967296*(y1*4294967296)=x1*y1*18446744073709551616:=by
   rw[Int.mul_assoc,Int.mul_left_comm 4294967296 y1,←Int.mul_assoc];rfl
  have q2:x0*(y1*4294967296)=x0*y1*4294967296:=by rw[Int.mul_assoc]
  have q3:x1*4294967296*y0=x1*y0*4294967296:=by rw[Int.mul_assoc,Int.mul_comm 4294967296 y0,←Int.mul_assoc]
  rw[q1,q2,q3];omega
 rw[exy];generalize x1*y1=a11 at *
 generalize x1*y0=a10 at *
 generalize x0*y1=a01 at *
 generalize x0*y0=a00 at *
 rw[wu64 (x:=a00) (by omega) (by omega),wu64 (x:=a11) (by omega) (by omega),wu64 (x:=a10) (by omega) (by omega),wu64 (x:=a01) (by omega) (by omega)];rw[wu64 (x:=a10+a00 / 4294967296) (by omega) (by omega),an _ (by omega) (by omega)];rw[wu64 (x:=a11+(a10+a00 / 4294967296) / 4294967296) (by omega) (by omega),wu64 (x:=(a10+a00 / 4294967296) % 4294967296+a01) (by omega) (by omega),wu64 (by omega) (by omega)];have wm:∀z:Int,IntKind.wrap .u64 z=z % 18446744073709551616:=fun z=>IntKind.wrap_u64 z
 rw[wm];congr 2;omega
def q1f (a:Wd) (k:Int):Wd×Int:=if wv a*k<340282366920938463463374607431768211456 then (mkW (wv a*k),0) else ((0,0),1)
theorem s1k (n:Nat) {a:Wd} (ha:WdOk a) (k:Int) (hk:0≤k∧k≤18446744073709551615):u0h (n+2) a k=some (q1f a k):=by
 obtain ⟨h1,h2⟩:=ha;obtain ⟨ah,al⟩:=a;simp only at h1 h2;rw[e1f,mul64 n al k h2 hk,mul64 n ah k h1 hk];simp only[obs];have bd:∀ {u:Int},0≤u∧u≤18446744073709551615→0≤u*k∧u*k≤340282366920938463426481119284349108225:=fun {u} hu =>
  ⟨Int.mul_nonneg hu.1 hk.1,Int.le_trans (Int.mul_le_mul hu.2 hk.2 hk.1 (by decide)) (by decide)⟩
 have b1:=bd h1;have b2:=bd h2;unfold q1f;have e:wv (ah,al)*k=ah*k*18446744073709551616+al*k:=by
  simp only[wv];rw[Int.add_mul,Int.mul_assoc,Int.mul_comm 18446744073709551616 k,←Int.mul_assoc]
 rw[e];generalize ah*k=p at *
 generalize al*k=q at *
 simp only[u0k,tfd,tft,if_pos (show (0:Int)≤p % 18446744073709551616 by omega),if_pos (show (0:Int)≤q / 18446744073709551616 by omega),s0c,obs];have ho:=or_zero (p / 18446744073709551616) ((p % 18446744073709551616+q / 18446744073709551616+0) / 18446744073709551616) (by omega) (by omega);by_cases hc:p*18446744073709551616+q<340282366920938463463374607431768211456
 ·rw[if_pos hc,if_pos (ho.2 (by omega))];simp only[mkW];congr 2;exact Prod.ext (by simp only;omega) (by simp only;omega)
 ·rw[if_neg hc,if_neg (fun h=>by have:=ho.1 h;omega)]
theorem b0z {α:Type} {l pre rest:List α} {x:α} {i:Int} (h:l=pre++x::rest) (hi:i=pre.length):at? l i=some x:=by
 subst h hi;simp[at?]
theorem idx {α:Type} {l pre rest:List α} {x:α} {i len:Int} (h:l=pre++x::rest) (hi:i=pre.length) (hn:len=l.length):i<len:=by
 have:=congrArg List.length h;simp at this;omega
theorem idxe {α:Type} {l pre:List α} {i len:Int} (h:l=pre++[]) (hi:i=pre.length) (hn:len=l.length):¬(i<len):=by
 have:=congrArg List.length h;simp at this;omega
theorem idxw {α:Type} {l pre rest:List α} {x:α} {i:Int} (h:l=pre++x::rest) (hi:i=pre.length) (hL:l.length≤1000000000000):IntKind.wrap .i64 (i+1)=i+1:=by
 have:=congrArg List.length h;simp at this;rw[w64 (by omega) (by omega)]
theorem idxs {α:Type} {pre:List α} {x:α} {i:Int} (hi:i=pre.length):i+1=((pre++[x]).length:Int):=by simp;omega
theorem idxl {α:Type} {l pre rest:List α} {x:α} (h:l=pre++x::rest):l=(pre++[x])++rest:=by rw[h];simp
theorem evEq (a b:Ev):((decide (a.1=b.1))&&((decide (a.2.1=b.2.1))&&((decide (a.2.2.1=b.2.2.1))&&(a.2.2.2==b.2.2.2))))=decide (a=b):=by
 rw[Bool.eq_iff_iff];simp[Prod.ext_iff]
theorem celEq (a b:Cel):((decide (a.1=b.1))&&((decide (a.2.1.1=b.2.1.1))&&((decide (a.2.1.2.1=b.2.1.2.1))&&((decide (a.2.1.2.2.1=b.2.1.2.2.1))&&((a.2.1.2.2.2==b.2.1.2.2.2)&&((decide (a.2.2.1.1=b.2.2.1.1))&&((decide (a.2.2.1.2.1=b.2.2.1.2.1))&&((decide (a.2.2.1.2.2.1=b.2.2.1.2.2.1))&&((a.2.2.1.2.2.2==b.2.2.1.2.2.2)&&((decide (a.2.2.2.1.1=b.2.2.2.1.1))&&((decide (a.2.2.2.1.2=b.2.2.2.1.2))&&((decide (a.2.2.2.2.1=b.2.2.2.2.1))&&((decide (a.2.2.2.2.2.1=b.2.2.2.2.2.1))&&(decide (a.2.2.2.2.2.2=b.2.2.2.2.2.2)))))))))))))))=decide (a=b):=by
 rw[Bool.eq_iff_iff];simp[Prod.ext_iff];grind
theorem celEq0 (a:Cel):((decide (a.1=(0:Int)))&&((decide (a.2.1.1=(0:Int)))&&((decide (a.2.1.2.1=(0:Int)))&&((decide (a.2.1.2.2.1=(0:Int)))&&((a.2.1.2.2.2==false)&&((decide (a.2.2.1.1=(0:Int)))&&((decide (a.2.2.1.2.1=(0:Int)))&&((decide (a.2.2.1.2.2.1=(0:Int)))&&((a.2.2.1.2.2.2==false)&&((decide (a.2.2.2.1.1=(0:Int)))&&((decide (a.2.2.2.1.2=(0:Int)))&&((decide (a.2.2.2.2.1=(0:Int)))&&((decide (a.2.2.2.2.2.1=(0:Int)))&&(decide (a.2.2.2.2.2.2=(0:Int))))))))))))))))=decide (a=z0):=celEq a z0
def I64 (x:Int):Prop := -9223372036854775808≤x∧x≤9223372036854775807
structure EvW (e:Ev):Prop where
 t:I64 e.1
 v:0≤e.2.1∧e.2.1≤18446744073709551615
 c:I64 e.2.2.1
structure CelW (c:Cel):Prop where
 n:I64 c.1
 f:EvW c.2.1
 l:EvW c.2.2.1
 w:WdOk c.2.2.2.1
 r:I64 c.2.2.2.2.1
 g:I64 c.2.2.2.2.2.1
 s:I64 c.2.2.2.2.2.2
theorem EvW.of {e:Ev} (h:EvOk e):EvW e:=by
 obtain ⟨a,b,c,d,f,g,_⟩:=h;exact ⟨by unfold I64;omega,⟨c,d⟩,by unfold I64;omega⟩
theorem CelW.ofN {c:Cel} (h:CellN c):CelW c:=by
 have:=h.small;have:=h.n1;have:=h.f.t0;have:=h.f.t1;have:=h.l.t0;have:=h.l.t1;have:=h.r;have:=h.g;have:=h.rg;have:=h.s0;have:=h.s1;exact ⟨by unfold I64;omega,.of h.f,.of h.l,h.w,by unfold I64;omega,by unfold I64;omega,by unfold I64;omega⟩
theorem a1f:CelW z0:=⟨by simp[I64,z0],⟨by simp[I64,z0,e0],by simp[z0,e0],by simp[I64,z0,e0]⟩,⟨by simp[I64,z0,e0],by simp[z0,e0],by simp[I64,z0,e0]⟩,⟨by simp[z0],by simp[z0]⟩,by simp[I64,z0],by simp[I64,z0],by simp[I64,z0]⟩
theorem CelW.of {c:Cel} (h:c0p c):CelW c:=by
 rcases h with rfl | h
 ·exact a1f
 ·exact .ofN h
def sumW (l:List Wd):Int:=(l.map wv).sum
theorem sumW_nn {l:List Wd} (h:∀x∈l,WdOk x):0≤sumW l:=by
 induction l with
 | nil=>simp[sumW]
 | cons x l ih =>
  have:=ih fun y hy=>h y (by simp[hy])
  have:=s0b (h x (by simp));simp only[sumW,List.map_cons,List.sum_cons] at *
  omega
theorem s1l (n:Nat) (s2:Wd) (l:List Wd) (hL:l.length≤1000000000000) (hok:∀x∈l,WdOk x):∀(rest pre:List Wd) (f:Nat) (a:Wd) (i len:Int),l=pre++rest→i=pre.length→len=l.length→rest.length<f→WdOk a→wv a+sumW rest<340282366920938463463374607431768211456 →
  m0e (n+2) f (s2,a,l,len,i,())=some (.inl (s2,mkW (wv a+sumW rest),())):=by
 intro rest;induction rest with
 | nil =>
  intro pre f a i len hl hi hn hf ha hs;obtain ⟨f,rfl⟩:∃g,f=g+1:=⟨f-1,by simp at hf;omega⟩;rw[q0o];have:=idxe hl hi hn;simp only[tfd,if_neg this,sumW,List.map_nil,List.sum_nil,Int.add_zero,mkW_wv ha]
 | cons x rest ih =>
  intro pre f a i len hl hi hn hf ha hs;obtain ⟨f,rfl⟩:∃g,f=g+1:=⟨f-1,by simp at hf;omega⟩;rw[q0o];have hlt:=idx hl hi hn;have hxo:WdOk x:=hok x (by rw[hl];simp);have hr:=sumW_nn (l:=rest) fun y hy=>hok y (by rw[hl];simp[hy])
  have hx:=s0b hxo;have hb:=s0b ha;have es:sumW (x::rest)=wv x+sumW rest:=by simp[sumW]
  rw[es] at hs;have ew:addW a x=(mkW (wv a+wv x),0):=if_pos (by omega);simp only[tfd,tfn,if_pos hlt,b0z hl hi,obs,wide_add n ha hxo,ew,if_pos trivial];rw[idxw hl hi hL];rw[ih (pre++[x]) f (mkW (wv a+wv x)) (i+1) len (idxl hl) (idxs hi) hn (by simp at hf;omega) (z1c (by omega) (by omega)) (by rw[q1b];omega),q1b,es];rw[show wv a+wv x+sumW rest=wv a+(wv x+sumW rest) by omega]
theorem wide_sum (n:Nat) (l:List Wd) (hL:l.length≤1000000000000) (hok:∀x∈l,WdOk x) (hs:sumW l<340282366920938463463374607431768211456):e1g (n+3) l=some (mkW (sumW l),0):=by
 rw[m1f,s1l n (0,0) l hL hok l [] a0b (0,0) 0 l.length rfl rfl rfl (by unfold a0b;omega) ⟨by simp,by simp⟩ (by simpa [w1g] using hs)];simp[w1g]
theorem e0q (n:Nat) {e:Ev} (h:EvW e):d0b (n+1) e=some (if EvOk e then 0 else 2):=by
 obtain ⟨_,hv,_⟩:=h;rw[b1o];simp only[tfd];by_cases h1:e.1<0
 ·rw[if_pos h1,if_neg (fun k=>by have:=k.t0;omega)]
 by_cases h2:(35184372088832:Int)≤e.1
 ·rw[if_neg h1,if_pos h2,if_neg (fun k=>by have:=k.t1;omega)]
 by_cases h3:e.2.2.1<0
 ·rw[if_neg h1,if_neg h2,if_pos h3,if_neg (fun k=>by have:=k.c0;omega)]
 by_cases h4:e.1<e.2.2.1
 ·rw[if_neg h1,if_neg h2,if_neg h3,if_pos h4,if_neg (fun k=>by have:=k.c1;omega)]
 rw[if_neg h1,if_neg h2,if_neg h3,if_neg h4];cases h5:e.2.2.2 with
 | false =>
  rw[tff,if_pos ⟨by omega,by omega,hv.1,hv.2,by omega,by omega,fun k=>by rw[h5] at k;cases k⟩]
 | true =>
  rw[tft];by_cases h6:e.2.1=0∧e.2.2.1=0
  ·rw[if_pos ⟨by omega,by omega,hv.1,hv.2,by omega,by omega,fun _=>h6⟩];simp[h6]
  ·rw[if_neg (fun k=>h6 (k.st h5))];by_cases h7:e.2.1=0
   ·have h8:¬(e.2.2.1=0):=fun k=>h6 ⟨h7,k⟩
    simp[h7,h8]
   ·simp[h7]
theorem zif (p:Prop) [Decidable p]:decide ((if p then (0:Int) else 2)=0)=decide p:=by by_cases h:p<;>simp[h]
theorem g1s (n:Nat) (l:List Ev) (hL:l.length≤1000000000000) (hw:∀e∈l,EvW e):∀(rest pre:List Ev) (f:Nat) (i len:Int),l=pre++rest→i=pre.length→len=l.length→rest.length<f →
  h0o (n+1) f (l,len,i,())=some (if ∀e∈rest,EvOk e then .inl () else .inr false):=by
 intro rest;induction rest with
 | nil =>
  intro pre f i len hl hi hn hf;obtain ⟨f,rfl⟩:∃g,f=g+1:=⟨f-1,by simp at hf;omega⟩;rw[l0q];have:=idxe hl hi hn;simp[tfd,if_neg this]
 | cons x rest ih =>
  intro pre f i len hl hi hn hf;obtain ⟨f,rfl⟩:∃g,f=g+1:=⟨f-1,by simp at hf;omega⟩;rw[l0q];have hlt:=idx hl hi hn;have hx:EvW x:=hw x (by rw[hl];simp);simp only[tfd,tfn,if_pos hlt,b0z hl hi,obs,e0q n hx,idxw hl hi hL];by_cases ho:EvOk x
  ·rw[if_pos ho,if_pos rfl,ih (pre++[x]) f (i+1) len (idxl hl) (idxs hi) hn (by simp at hf;omega)];have e:(∀e∈x::rest,EvOk e)↔(∀e∈rest,EvOk e):=by simp[ho]
   by_cases hr:∀e∈rest,EvOk e
   ·rw[if_pos hr,if_pos (e.2 hr)]
   ·rw[if_neg hr,if_neg (fun k=>hr (e.1 k))]
  ·have h2:¬(∀e∈x::rest,EvOk e):=fun k=>ho (k x (by simp))
   rw[if_neg ho,if_neg (by decide),if_neg h2]
theorem z0v (n:Nat) (l:List Ev) (hL:l.length≤1000000000000) (hw:∀e∈l,EvW e):j0y (n+2) l=some (decide (∀e∈l,EvOk e)):=by
 rw[b1n,g1s n l hL hw l [] a0b 0 l.length rfl rfl rfl (by unfold a0b;omega)];by_cases h:∀e∈l,EvOk e
 ·rw[if_pos h,decide_eq_true h];simp
 ·rw[if_neg h,decide_eq_false h];simp
theorem w0m (n:Nat) {p c:Ev} (hp:EvW p) (hc:EvW c):j0y (n+2) [p,c]=some (decide (EvOk p∧EvOk c)):=by
 rw[z0v n [p,c] (by simp) (by simp[hp,hc])];simp
theorem k0k (n:Nat) {p c:Ev} (hp:EvW p) (hc:EvW c):f0x (n+3) p c=some (decide (EvOk p∧EvOk c∧p.1<c.1)):=by
 rw[z0w,w0m n hp hc];by_cases h:EvOk p∧EvOk c
 ·simp[h.1,h.2]
 ·have h2:¬(EvOk p∧EvOk c∧p.1<c.1):=fun k=>h ⟨k.1,k.2.1⟩
  rw[decide_eq_false h,decide_eq_false h2];simp
def p1i (d:Int×(Int×(Int×Int))):Cel:=(0,(e0,(e0,((0,d.1),(d.2.1,(d.2.2.1,d.2.2.2))))))
theorem r0c (n:Nat) (c:Ev) (s:Int):p0z (n+2) c s=some (p1i (c.2.1,1,0,s)):=by
 rw[g1u,m1e];rfl
theorem g1t (n:Nat) {p c:Ev} (hp:EvOk p) (hc:EvOk c):n0g (n+3) p c=some (if p.1<c.1 then (p1i (btw p c),0) else (z0,9)):=by
 rw[x0d,w0m n (.of hp) (.of hc),decide_eq_true ⟨hp,hc⟩];simp only[obs,Bool.not_true,tff,tfd];by_cases h:p.1<c.1
 ·have h':¬(c.1≤p.1):=by omega
  rw[if_neg h',if_pos h];obtain ⟨a1,a2,a3,a4,a5,a6,a7⟩:=hp;obtain ⟨b1,b2,b3,b4,b5,b6,b7⟩:=hc;unfold btw;cases k1:c.2.2.2 with
  | true=>rw[tft,if_pos rfl];rfl
  | false =>
   rw[tff,if_neg Bool.false_ne_true];by_cases k2:p.1<c.2.2.1
   ·rw[if_pos k2,if_pos k2,r0c,w64 (by omega) (by omega)];rfl
   rw[if_neg k2,if_neg k2];cases k3:p.2.2.2 with
   | true=>rw[tft,if_pos rfl];rfl
   | false =>
    rw[tff,if_neg Bool.false_ne_true];by_cases k4:c.2.1<p.2.1
    ·rw[if_pos k4,if_pos k4,r0c,w64 (by omega) (by omega)];rfl
    ·rw[if_neg k4,if_neg k4,m1e,w64 (by omega) (by omega),wu64 (by omega) (by omega)];rfl
 ·rw[if_pos (by omega),if_neg h];rfl
theorem n0l (n:Nat) (c:Cel):o0z (n+1) c=some (decide (c=z0)):=by rw[l1q,celEq0]
theorem p1m (n:Nat) (x m:Int):a1d (n+1) x m=some (decide (0≤x∧x≤m)):=by
 rw[v1s];by_cases h1:(0:Int)≤x<;>by_cases h2:x≤m<;>simp[h1,h2]
def p1y (c:Cel):Prop:=(c.1=1∧c.2.1=c.2.2.1∧EvOk c.2.1)∨(1<c.1∧EvOk c.2.1∧EvOk c.2.2.1∧c.2.1.1<c.2.2.1.1∧c.1-1≤c.2.2.1.1-c.2.1.1)
instance (c:Cel):Decidable (p1y c):=by unfold p1y;infer_instance
theorem b1w (n:Nat) {c:Cel} (hw:CelW c):v0u (n+4) c=some (decide (p1y c)):=by
 rw[i1b,evEq];simp only[tfd];by_cases h1:c.1=1
 ·rw[if_pos h1];by_cases h2:c.2.1=c.2.2.1
  ·rw[if_pos h2,e0q _ hw.f];simp only[obs,zif];congr 1;refine decide_eq_decide.2 ⟨fun h => .inl ⟨h1,h2,h⟩,fun h => ?_⟩;rcases h with h | h
   ·exact h.2.2
   ·exact h.2.1
  ·rw[if_neg h2,decide_eq_false];rintro (h | h)
   ·exact h2 h.2.1
   ·omega
 ·rw[if_neg h1];by_cases h2:1<c.1
  ·rw[if_pos h2,k0k _ hw.f hw.l];simp only[obs,tfd];by_cases h3:EvOk c.2.1∧EvOk c.2.2.1∧c.2.1.1<c.2.2.1.1
   ·rw[if_pos h3];obtain ⟨h3,h4,h5⟩:=h3;have:=hw.n;unfold I64 at this;have:=h3.t0;have:=h4.t1;have:=h3.t1;have:=h4.t0;rw[w64 (by omega) (by omega),w64 (by omega) (by omega)];congr 1;refine decide_eq_decide.2 ⟨fun h => .inr ⟨h2,h3,h4,h5,h⟩,fun h => ?_⟩;rcases h with h | h
    ·omega
    ·exact h.2.2.2.2
   ·rw[if_neg h3,decide_eq_false];rintro (h | h)
    ·omega
    ·exact h3 ⟨h.2.1,h.2.2.1,h.2.2.2.1⟩
  ·rw[if_neg h2,decide_eq_false];rintro (h | h)<;>omega
theorem CellN.spans {c:Cel} (h:CellN c):p1y c:=by
 by_cases h1:c.1=1
 ·exact .inl ⟨h1,h.one h1,h.f⟩
 ·have:=h.n1;exact .inr ⟨by omega,h.f,h.l,h.more (by omega),h.n2⟩
theorem cellN_of {c:Cel} (hw:CelW c) (hs:p1y c) (hi:wv c.2.2.2.1≤18446744073709551615*(c.1-1)) (hr:0≤c.2.2.2.2.1) (hg:0≤c.2.2.2.2.2.1) (hrg:c.2.2.2.2.1+c.2.2.2.2.2.1≤c.1-1)
  (h0:0≤c.2.2.2.2.2.2) (h1:c.2.2.2.2.2.2≤c.2.2.1.1-c.2.1.1):CellN c:=by
 rcases hs with ⟨a,b,d⟩ | ⟨a,b,d,e,f⟩
 ·exact ⟨by omega,d,b ▸ d,fun _=>b,fun h=>by omega,by rw[b];omega,hw.w,hi,hr,hg,hrg,h0,h1⟩
 ·exact ⟨by omega,b,d,fun h=>by omega,fun _=>e,f,hw.w,hi,hr,hg,hrg,h0,h1⟩
theorem n1j {c:Cel} (h:p1y c):1≤c.1∧c.1≤35184372088832∧0≤c.2.2.1.1-c.2.1.1∧c.2.2.1.1-c.2.1.1≤35184372088832:=by
 rcases h with ⟨a,b,d⟩ | ⟨a,b,d,e,f⟩
 ·rw[b];have:=d.t0;omega
 ·have:=b.t0;have:=d.t1;omega
theorem s1t {k:Int} (h:0≤k∧k≤35184372088832):q1f (0,18446744073709551615) k=(mkW (18446744073709551615*k),0):=by
 unfold q1f;rw[show wv (0,18446744073709551615)=18446744073709551615 from rfl,if_pos (by omega)]
theorem v0v (n:Nat) {c:Cel} (hw:CelW c):l0x (n+5) c=some (if c0p c then 0 else 2):=by
 rw[i1e,n0l,b1w n hw];simp only[obs,tfd,tfn];by_cases h0:c=z0
 ·rw[if_pos h0,if_pos (.inl h0)]
 rw[if_neg h0];by_cases hs:p1y c
 ·rw[if_pos hs];obtain ⟨s1,s2,s3,s4⟩:=n1j hs;have hg:=hw.g;have hr:=hw.r;have hse:=hw.s;unfold I64 at hg hr hse;have hmw:WdOk (mkW (18446744073709551615*(c.1-1))):=z1c (by omega) (by omega);rw[m1e,w64 (x:=c.1-1) (by omega) (by omega),wu64 (by omega) (by omega)];simp only[obs];rw[s1k (n+2) ⟨by simp,by simp⟩ _ (by omega),s1t (by omega)];simp only[obs,if_pos trivial,w1k (n+3) hmw hw.w,q1b,p1m,tfd];by_cases c1:18446744073709551615*(c.1-1)<wv c.2.2.2.1
  ·rw[if_pos c1,if_neg (fun k=>by have:=(k.n h0).inc;omega)]
  rw[if_neg c1];by_cases c2:0≤c.2.2.2.2.2.1∧c.2.2.2.2.2.1≤c.1-1
  ·rw[if_pos c2,w64 (by omega) (by omega)];by_cases c3:0≤c.2.2.2.2.1∧c.2.2.2.2.1≤c.1-1-c.2.2.2.2.2.1
   ·rw[if_pos c3,w64 (by omega) (by omega)];by_cases c4:0≤c.2.2.2.2.2.2∧c.2.2.2.2.2.2≤c.2.2.1.1-c.2.1.1
    ·rw[if_pos c4,if_pos (.inr (cellN_of hw hs (by omega) c3.1 c2.1 (by omega) c4.1 c4.2))]
    ·rw[if_neg c4,if_neg (fun k=>c4 ⟨(k.n h0).s0,(k.n h0).s1⟩)]
   ·rw[if_neg c3,if_neg (fun k=>c3 (by have:=(k.n h0).r;have:=(k.n h0).rg;omega))]
  ·rw[if_neg c2,if_neg (fun k=>c2 (by have:=(k.n h0).r;have:=(k.n h0).g;have:=(k.n h0).rg;omega))]
 ·rw[if_neg hs,if_neg (fun k=>hs (CellN.spans (k.n h0)))]
theorem z02 (p:Prop) [Decidable p]:((if p then (0:Int) else 2)=0)↔p:=by by_cases h:p<;>simp[h]
theorem c2s {a b:Cel} (ha:a≠z0) (hb:b≠z0):Ahead a b↔a.2.2.1.1<b.2.1.1:=⟨fun h=>(h.resolve_left ha).resolve_left hb,fun h => .inr (.inr h)⟩
theorem mrgE_z0 {b:Cel} (hb:c0p b):mrgE z0 b=(b,0):=by
 unfold mrgE;rw[if_pos (And.intro z1a hb),if_pos (.inl rfl),p1z]
theorem u1w {a b:Cel} (na:CellN a) (nb:CellN b) (h:a.2.2.1.1<b.2.1.1) :
  (∀x∈[a.2.2.2.1,(p1i (btw a.2.2.1 b.2.1)).2.2.2.1,b.2.2.2.1],WdOk x)∧sumW [a.2.2.2.1,(p1i (btw a.2.2.1 b.2.1)).2.2.2.1,b.2.2.2.1]=wv a.2.2.2.1+(btw a.2.2.1 b.2.1).1+wv b.2.2.2.1 ∧
  wv a.2.2.2.1+(btw a.2.2.1 b.2.1).1+wv b.2.2.2.1<340282366920938463463374607431768211456:=by
 have d:=b2y na.l nb.f h;have ia:=na.inc;have ib:=nb.inc;have sa:=na.small;have sb:=nb.small;have d1:=d.i;refine ⟨?_,?_,by omega⟩
 ·intro x hx;simp only[List.mem_cons,List.not_mem_nil,or_false] at hx;rcases hx with rfl | rfl | rfl
  ·exact na.w
  ·exact ⟨by simp[p1i],d1⟩
  ·exact nb.w
 ·simp[sumW,p1i,wv_lo];omega
theorem d1t (n:Nat) {a b:Cel} (ha:CelW a) (hb:CelW b):q0a (n+6) a b=some (mrgE a b):=by
 rw[i1d,v0v n ha,v0v n hb,n0l,n0l];simp only[obs,tfd,tfn,z02];unfold mrgE;by_cases h1:c0p a
 case neg=>rw[if_neg h1,if_neg (fun k=>h1 k.1)];rfl
 by_cases h2:c0p b
 case neg=>rw[if_pos h1,if_neg h2,if_neg (fun k=>h2 k.2)];rfl
 rw[if_pos h1,if_pos h2,if_pos (And.intro h1 h2)];by_cases h3:a=z0
 ·rw[if_pos h3,if_pos (.inl h3),h3,p1z]
 by_cases h4:b=z0
 ·rw[if_neg h3,if_pos h4,if_pos (.inr (.inl h4)),h4,mrg_z0]
 rw[if_neg h3,if_neg h4];have na:=h1.n h3;have nb:=h2.n h4;rw[l1r,g1t (n+1) na.l nb.f];simp only[obs];by_cases h5:a.2.2.1.1<b.2.1.1
 ·obtain ⟨w1,w2,w3⟩:=u1w na nb h5;have d:=b2y na.l nb.f h5;rw[if_pos h5,if_pos ((c2s h3 h4).2 h5)];simp only[decide_true,Bool.not_true,tff];rw[wide_sum (n+1) _ (by simp) w1 (by rw[w2];exact w3),w2];simp only[obs];rw[o1p na nb];have:=na.small;have:=nb.small;have:=na.n1;have:=nb.n1;have:=na.r;have:=na.g;have:=na.rg;have:=nb.r;have:=nb.g;have:=nb.rg;have:=na.s0;have:=na.s1;have:=nb.s0;have:=nb.s1;have:=na.f.t0;have:=na.l.t1;have:=nb.f.t0;have:=nb.l.t1;obtain ⟨d1,d2,d3,d4,d5⟩:=d;simp only[p1i]
  rw[w64 (x:=a.1+b.1) (by omega) (by omega),w64 (x:=a.2.2.2.2.1+b.2.2.2.2.1) (by omega) (by omega),w64 (x:=a.2.2.2.2.2.1+b.2.2.2.2.2.1) (by omega) (by omega),w64 (x:=a.2.2.2.2.2.2+b.2.2.2.2.2.2) (by omega) (by omega)];rw[w64 (by omega) (by omega),w64 (by omega) (by omega),w64 (by omega) (by omega)];refine congrArg some (Prod.ext (Prod.ext rfl (Prod.ext rfl (Prod.ext rfl (Prod.ext rfl (Prod.ext ?_ (Prod.ext ?_ ?_)))))) rfl)<;>simp only<;>omega
 ·rw[if_neg h5,if_neg (fun k=>h5 ((c2s h3 h4).1 k))];simp only[tfn,tfd];rw[if_neg (by decide)];rfl
theorem o1q {a b:Cel} (h:(mrgE a b).2=0):c0p a∧c0p b∧Ahead a b∧(mrgE a b).1=mrg a b∧c0p (mrgE a b).1:=by
 unfold mrgE at h ⊢;by_cases h1:c0p a∧c0p b
 ·rw[if_pos h1] at h ⊢;by_cases h2:Ahead a b
  ·rw[if_pos h2];exact ⟨h1.1,h1.2,h2,rfl,mrg_ok h1.1 h1.2 h2⟩
  ·rw[if_neg h2] at h;simp at h
 ·rw[if_neg h1] at h;simp at h
theorem mrgE_w (a b:Cel):CelW (mrgE a b).1:=by
 by_cases h:(mrgE a b).2=0
 ·exact .of (o1q h).2.2.2.2
 ·unfold mrgE at h ⊢;by_cases h1:c0p a∧c0p b
  ·rw[if_pos h1] at h ⊢;by_cases h2:Ahead a b
   ·rw[if_pos h2] at h;simp at h
   ·rw[if_neg h2];exact a1f
  ·rw[if_neg h1];exact a1f
theorem v1t (n:Nat) (s2:Cel) (l:List Cel) (hL:l.length≤1000000000000) (hw:∀x∈l,CelW x):∀(rest pre:List Cel) (f:Nat) (c:Cel) (i len:Int),l=pre++rest→i=pre.length→len=l.length→rest.length<f→CelW c →
  k0b (n+6) f (s2,c,l,len,i,())=some (if (allE c rest).2=0 then .inl (s2,(allE c rest).1,()) else .inr (z0,(allE c rest).2)):=by
 intro rest;induction rest with
 | nil =>
  intro pre f c i len hl hi hn hf hc;obtain ⟨f,rfl⟩:∃g,f=g+1:=⟨f-1,by simp at hf;omega⟩;rw[r0d];simp only[tfd,if_neg (idxe hl hi hn),allE,if_pos trivial]
 | cons x rest ih =>
  intro pre f c i len hl hi hn hf hc;obtain ⟨f,rfl⟩:∃g,f=g+1:=⟨f-1,by simp at hf;omega⟩;rw[r0d];have hx:CelW x:=hw x (by rw[hl];simp);simp only[tfd,tfn,if_pos (idx hl hi hn),b0z hl hi,obs,d1t n hc hx,idxw hl hi hL];by_cases h:(mrgE c x).2=0
  ·rw[if_pos h,ih (pre++[x]) f _ (i+1) len (idxl hl) (idxs hi) hn (by simp at hf;omega) (mrgE_w c x)];simp only[allE,if_pos h]
  ·rw[if_neg h];simp only[allE,if_neg h];rfl
theorem allE_z0 (l:List Cel):∀c,(allE c l).2≠0→(allE c l).1=z0:=by
 induction l with
 | nil=>intro c h;exact absurd rfl h
 | cons x l ih =>
  intro c h;simp only[allE] at h ⊢;split at h
  ·rename_i k;rw[if_pos k];exact ih _ h
  ·rename_i k;rw[if_neg k]
theorem cell_all (n:Nat) (l:List Cel) (hL:l.length≤1000000000000) (hw:∀x∈l,CelW x):i1f (n+7) l=some (allE z0 l):=by
 have:=v1t n z0 l hL hw l [] a0b z0 0 l.length rfl rfl rfl (by unfold a0b;omega) a1f;rw[p1n];have e:k0b (n+6) a0b (((0:Int),(((0:Int),((0:Int),((0:Int),false))),(((0:Int),((0:Int),((0:Int),false))),(((0:Int),(0:Int)),((0:Int),((0:Int),(0:Int))))))),((0:Int),(((0:Int),((0:Int),((0:Int),false))),(((0:Int),((0:Int),((0:Int),false))),(((0:Int),(0:Int)),((0:Int),((0:Int),(0:Int))))))),l,(l.length:Int),(0:Int),())=_:=this;rw[e];by_cases h:(allE z0 l).2=0
 ·rw[if_pos h];simp only[obs,b0g];exact congrArg some (Prod.ext rfl h.symm)
 ·rw[if_neg h];simp only[obs,o0i];exact congrArg some (Prod.ext (allE_z0 l z0 h).symm rfl)
theorem l1p (n:Nat) (e:Ev):i1c (n+1) e=some (d0j e):=by rw[p1l];rfl
theorem evCell_w {e:Ev} (h:EvW e):CelW (d0j e):=⟨by simp[I64,d0j],h,h,⟨by simp[d0j],by simp[d0j]⟩,by simp[I64,d0j],by simp[I64,d0j],by simp[I64,d0j]⟩
theorem cell_add (n:Nat) {c:Cel} {e:Ev} (hc:CelW c) (he:EvW e):i1g (n+7) c e=some (if EvOk e then mrgE c (d0j e) else (z0,2)):=by
 rw[p1o,e0q _ he,l1p];simp only[obs,tfn,tfd,z02,d1t n hc (evCell_w he)];by_cases h:EvOk e
 ·rw[if_pos h,if_pos h]
 ·rw[if_neg h,if_neg h,if_neg h];rfl
theorem l1c {l:List Ev} {x:Ev}:Foll (l++[x])↔Foll l∧EvOk x∧∀e∈l,e.1<x.1:=by
 rw[d0a];constructor
 ·rintro ⟨h1,h2,h3⟩;exact ⟨h1,h2.ok x (by simp),fun e he=>h3 e he x (by simp)⟩
 ·rintro ⟨h1,h2,h3⟩;refine ⟨h1,⟨by simpa using h2,by simp⟩,fun e he y hy => ?_⟩;simp at hy;subst hy;exact h3 e he
theorem last_all {l:List Ev} (h:Foll l) {x y:Ev} (hy:l.getLast? = some y) (hlt:y.1<x.1):∀e∈l,e.1<x.1:=by
 intro e he;rcases List.eq_nil_or_concat l with rfl | ⟨q,z,rfl⟩
 ·cases he
 rw[List.concat_eq_append] at *
 simp at hy;subst hy;rcases List.mem_append.1 he with h1 | h1
 ·have:=(d0a.1 h).2.2 e h1 z (by simp);omega
 ·simp at h1;subst h1;exact hlt
abbrev Lab:=List UInt8×List UInt8
def sgn (c:Int):Prop:=(97≤c∧c≤122)∨(65≤c∧c≤90)∨(48≤c∧c≤57)∨c=95
instance (c:Int):Decidable (sgn c):=by unfold sgn;infer_instance
def z0y (c:Int):Prop:=48≤c∧c≤57
instance (c:Int):Decidable (z0y c):=by unfold z0y;infer_instance
def p0c:List UInt8→Prop
 | []=>False
 | b::r=>(b::r).length≤64∧¬z0y (b.toNat:Int)∧∀x∈b::r,sgn (x.toNat:Int)
instance:(s:List UInt8)→Decidable (p0c s)
 | [] => .isFalse id
 | b::r=>by unfold p0c;infer_instance
theorem low_all:∀c:Fin 256,(97≤orI .u8 (c.val:Int) 32∧orI .u8 (c.val:Int) 32≤122)↔((97≤(c.val:Int)∧(c.val:Int)≤122)∨(65≤(c.val:Int)∧(c.val:Int)≤90)):=by decide +kernel
theorem low (c:Int) (h:0≤c∧c≤255):(97≤orI .u8 c 32∧orI .u8 c 32≤122)↔((97≤c∧c≤122)∨(65≤c∧c≤90)):=by
 obtain ⟨k,rfl⟩:=Int.eq_ofNat_of_zero_le h.1;exact low_all ⟨k,by omega⟩
theorem o0s (n:Nat) (c:Int):m0z (n+1) c=some (decide (z0y c)):=by
 rw[b1h];unfold z0y;by_cases h1:(48:Int)≤c<;>by_cases h2:c≤57<;>simp[h1,h2]
theorem b1f (n:Nat) (c:Int) (h:0≤c∧c≤255):v0f (n+2) c=some (decide (sgn c)):=by
 rw[g1c,o0s];simp only[obs,tfd];have hl:=low c h;by_cases h1:z0y c
 ·rw[if_pos h1,decide_eq_true (show sgn c from .inr (.inr (.inl h1)))]
 rw[if_neg h1];by_cases h2:c=95
 ·rw[if_pos h2,decide_eq_true (show sgn c from .inr (.inr (.inr h2)))]
 rw[if_neg h2];by_cases h3:97≤orI .u8 c 32
 ·rw[if_pos h3];refine congrArg some (decide_eq_decide.2 ?_);constructor
  ·intro k;rcases hl.1 ⟨h3,k⟩ with q | q
   ·exact .inl q
   ·exact .inr (.inl q)
  ·intro k;rcases k with k | k | k | k
   ·exact (hl.2 (.inl k)).2
   ·exact (hl.2 (.inr k)).2
   ·exact absurd k h1
   ·exact absurd k h2
 ·rw[if_neg h3,decide_eq_false];intro k;rcases k with k | k | k | k
  ·exact h3 (hl.2 (.inl k)).1
  ·exact h3 (hl.2 (.inr k)).1
  ·exact h1 k
  ·exact h2 k
theorem u1y (n:Nat) {del:Int×Unit→Option Bool} {p:Int→Bool} (l:List Int) (hL:l.length≤1000000000000) (hd:∀x∈l,del (x,())=some (p x)):∀(rest pre:List Int) (f:Nat) (i len:Int),l=pre++rest→i=pre.length→len=l.length→rest.length<f →
  (c0j n f (l,del,len,i,())=some (.inl ())∧∀x∈rest,p x=false) ∨
  (∃k:Int,0≤k∧c0j n f (l,del,len,i,())=some (.inr k)∧∃x∈rest,p x=true):=by
 intro rest;induction rest with
 | nil =>
  intro pre f i len hl hi hn hf;obtain ⟨f,rfl⟩:∃g,f=g+1:=⟨f-1,by simp at hf;omega⟩;rw[f0z];exact .inl ⟨by simp only[tfd,if_neg (idxe hl hi hn)],by simp⟩
 | cons x rest ih =>
  intro pre f i len hl hi hn hf;obtain ⟨f,rfl⟩:∃g,f=g+1:=⟨f-1,by simp at hf;omega⟩;rw[f0z];simp only[tfd,if_pos (idx hl hi hn),b0z hl hi,obs,hd x (by rw[hl];simp),idxw hl hi hL];cases hp:p x with
  | true=>exact .inr ⟨i,by omega,by simp,x,by simp,hp⟩
  | false =>
   rw[tff];rcases ih (pre++[x]) f (i+1) len (idxl hl) (idxs hi) hn (by simp at hf;omega) with ⟨h1,h2⟩ | ⟨k,h1,h2,y,hy,h3⟩
   ·exact .inl ⟨h1,by intro z hz;rcases List.mem_cons.1 hz with rfl | hz;exact hp;exact h2 z hz⟩
   ·exact .inr ⟨k,h1,h2,y,by simp[hy],h3⟩
theorem h1s (n:Nat) {del:Int×Unit→Option Bool} {p:Int→Bool} (l:List Int) (hL:l.length≤1000000000000) (hd:∀x∈l,del (x,())=some (p x)):c0n (n+2) l del=some (l.any p):=by
 rw[m0n,q0d];rcases u1y n l hL hd l [] a0b 0 l.length rfl rfl rfl (by unfold a0b;omega) with ⟨h1,h2⟩ | ⟨k,h1,h2,x,hx,h3⟩
 ·rw[h1];have:l.any p=false:=by rw[List.any_eq_false];intro x hx;simp[h2 x hx]
  rw[this];rfl
 ·rw[h2];have:l.any p=true:=List.any_eq_true.2 ⟨x,hx,h3⟩;simp[this,h1]
theorem b1g (n:Nat) (s:List UInt8):v0g (n+5) s=some (decide (p0c s)):=by
 rw[g1d]
 match s with
 | []=>rfl
 | b::r =>
  have e1:((b::r)==[])=false:=rfl;have e2:at? (b::r) (0:Int)=some b:=rfl;rw[e1,tff,e2,obs,o0s,obs];simp only[tfd];by_cases h1:(64:Int)<(b::r).length
  ·rw[if_pos h1,decide_eq_false (fun k:p0c (b::r)=>by have:=k.1;omega)]
  rw[if_neg h1];by_cases h2:z0y (b.toNat:Int)
  ·rw[if_pos h2,decide_eq_false (fun k:p0c (b::r)=>k.2.1 h2)]
  rw[if_neg h2,h1s (p:=fun c => !decide (sgn c)) (n+2) _ (by simp at h1 ⊢;omega) (fun x hx=>by
   obtain ⟨c,_,rfl⟩:=List.mem_map.1 hx;have:=c.toNat_lt;show o0r (n+3+1) _=_
   rw[z0n,b1f (n+1) _ (by omega)];rfl)]
  simp only[obs];refine congrArg some ?_;by_cases h3:∀x∈b::r,sgn (x.toNat:Int)
  ·rw[decide_eq_true (show p0c (b::r) from ⟨by omega,h2,h3⟩)];rw[List.any_eq_false.2]
   ·rfl
   ·intro x hx;obtain ⟨c,hc,rfl⟩:=List.mem_map.1 hx;simp[h3 c hc]
  ·rw[decide_eq_false (fun k:p0c (b::r)=>h3 k.2.2)];have:∃x∈b::r,¬sgn (x.toNat:Int):=Classical.byContradiction fun k=>h3 fun x hx=>Classical.byContradiction fun q=>k ⟨x,hx,q⟩
   obtain ⟨x,hx,hq⟩:=this;rw[List.any_eq_true.2 ⟨(x.toNat:Int),List.mem_map.2 ⟨x,hx,rfl⟩,by simp[hq]⟩];rfl
def chkL:Option (List UInt8)→List Lab→Prop
 | _,[]=>True
 | p,x::r=>p0c x.1∧x.2.length≤128∧(∀q,p=some q→Op.bytesLess q x.1=true)∧chkL (some x.1) r
def sumL (l:List Lab):Int:=(l.map fun x=>((x.1.length:Int)+x.2.length)).sum
theorem sumL_nn (l:List Lab):0≤sumL l:=by
 induction l with
 | nil=>simp[sumL]
 | cons x l ih=>simp only[sumL,List.map_cons,List.sum_cons] at *;omega
theorem x1e (x:Lab) (l:List Lab):sumL (x::l)=x.1.length+x.2.length+sumL l:=by simp[sumL]
theorem p0c.len {s:List UInt8} (h:p0c s):s.length≤64:=by
 match s with
 | []=>simp
 | b::r=>exact h.1
structure LabOk (l:List Lab):Prop where
 n0:1≤l.length
 n1:l.length≤16
 c:chkL none l
 t:sumL l≤256
noncomputable instance (l:List Lab):Decidable (LabOk l):=Classical.propDecidable _
theorem prev_at {l pre rest:List Lab} {x:Lab} {i:Int} (hl:l=pre++x::rest) (hi:i=pre.length) (hL:l.length≤1000000) (h:0<i):∃q,pre.getLast? = some q∧at? l (IntKind.wrap .i64 (i-1))=some q:=by
 rcases List.eq_nil_or_concat pre with rfl | ⟨q,y,rfl⟩
 ·simp at hi;omega
 rw[List.concat_eq_append] at *
 have hlen:=congrArg List.length hl;simp at hlen hi;refine ⟨y,by simp,?_⟩;rw[w64 (by omega) (by omega)];exact b0z (pre:=q) (rest:=x::rest) (by rw[hl];simp) (by omega)
theorem g1e (n:Nat) (l:List Lab) (hL:l.length≤16):∀(rest pre:List Lab) (f:Nat) (left i len:Int),l=pre++rest→i=pre.length→len=l.length→rest.length<f→0≤left→left≤256 →
  (chkL (pre.getLast?.map (·.1)) rest∧sumL rest≤left→e0h (n+5) f (l,left,l,len,i,())=some (.inl ())) ∧
  (¬(chkL (pre.getLast?.map (·.1)) rest∧sumL rest≤left)→e0h (n+5) f (l,left,l,len,i,())=some (.inr 8)):=by
 intro rest;induction rest with
 | nil =>
  intro pre f left i len hl hi hn hf h0 h1;obtain ⟨f,rfl⟩:∃g,f=g+1:=⟨f-1,by simp at hf;omega⟩;rw[l0o];refine ⟨fun _=>by simp only[tfd,if_neg (idxe hl hi hn)],fun k=>absurd ⟨trivial,by simpa [sumL] using h0⟩ k⟩
 | cons x rest ih =>
  intro pre f left i len hl hi hn hf h0 h1;obtain ⟨f,rfl⟩:∃g,f=g+1:=⟨f-1,by simp at hf;omega⟩;rw[l0o];have hsn:=sumL_nn rest;simp only[tfd,tfn,if_pos (idx hl hi hn),b0z hl hi,obs,idxw hl hi (by omega),b1g n x.1];rw[x1e];by_cases c1:p0c x.1
  case neg=>rw[if_neg c1];exact ⟨fun k=>absurd k.1.1 c1,fun _=>rfl⟩
  rw[if_pos c1];have hn1:=c1.len;by_cases c2:(128:Int)<x.2.length
  ·rw[if_pos c2];exact ⟨fun k=>by have:=k.1.2.1;omega,fun _=>rfl⟩
  rw[if_neg c2,w64 (x:=(x.1.length:Int)+x.2.length) (by omega) (by omega),w64 (x:=left-((x.1.length:Int)+x.2.length)) (by omega) (by omega)];by_cases c3:left-((x.1.length:Int)+x.2.length)<0
  ·rw[if_pos c3];exact ⟨fun k=>by have:=k.2;omega,fun _=>rfl⟩
  rw[if_neg c3];have ih':=ih (pre++[x]) f (left-((x.1.length:Int)+x.2.length)) (i+1) len (idxl hl) (idxs hi) hn (by simp at hf;omega) (by omega) (by omega);have el:(pre++[x]).getLast?.map (·.1)=some x.1:=by simp
  rw[el] at ih';have step:(∀q,pre.getLast?.map (·.1)=some q→Op.bytesLess q x.1=true) →
    ((chkL (pre.getLast?.map (·.1)) (x::rest)∧(x.1.length:Int)+x.2.length+sumL rest≤left)↔(chkL (some x.1) rest∧sumL rest≤left-((x.1.length:Int)+x.2.length))):=by
   intro hq;constructor
   ·rintro ⟨k1,k2⟩;exact ⟨k1.2.2.2,by omega⟩
   ·rintro ⟨k1,k2⟩;exact ⟨⟨c1,by omega,hq,k1⟩,by omega⟩
  by_cases c4:0<i
  ·obtain ⟨q,hq,hat⟩:=prev_at hl hi (by omega) c4;rw[if_pos c4,hat,obs];by_cases c5:Op.bytesLess q.1 x.1=true
   ·rw[c5,tft,step (fun z hz=>by rw[hq] at hz;simp at hz;rw[←hz];exact c5)];exact ih'
   ·have c5':Op.bytesLess q.1 x.1=false:=by simpa using c5
    rw[c5',tff];exact ⟨fun k=>absurd (k.1.2.2.1 q.1 (by rw[hq];rfl)) c5,fun _=>rfl⟩
  ·have hp:pre=[]:=List.length_eq_zero_iff.1 (by omega);rw[if_neg c4,step (fun z hz=>by rw[hp] at hz;cases hz)];exact ih'
theorem r0n (n:Nat) (l:List Lab):j0x (n+6) l=some (if LabOk l then 0 else 8):=by
 rw[b1i];simp only[tfd];by_cases h1:(l.length:Int)=0
 ·rw[if_pos h1,if_neg (fun k:LabOk l=>by have:=k.n0;omega)]
 by_cases h2:(16:Int)<l.length
 ·rw[if_neg h1,if_pos h2,if_neg (fun k:LabOk l=>by have:=k.n1;omega)]
 rw[if_neg h1,if_neg h2];have hl:=g1e n l (by omega) l [] a0b 256 0 l.length rfl rfl rfl (by unfold a0b;omega) (by decide) (by decide);by_cases h3:chkL none l∧sumL l≤256
 ·rw[hl.1 h3,if_pos (⟨by omega,by omega,h3.1,h3.2⟩:LabOk l)];rfl
 ·rw[hl.2 h3,if_neg (fun k:LabOk l=>h3 ⟨k.c,k.t⟩)];rfl
theorem labEq (a b:Lab):((a.1==b.1)&&(a.2==b.2))=decide (a=b):=by
 rw[Bool.eq_iff_iff];simp[Prod.ext_iff]
abbrev Rw:=Int×(Int×List Ev)
structure RawOk (r:Rw) (room:Int):Prop where
 m0:1≤room
 m1:room≤4096
 len:(r.2.2.length:Int)≤room
 l0:0≤r.1
 l1:r.1≤70368744177664
 f:Foll r.2.2
 z:r.1=0→r.2.1=0
 p:r.1≠0→(r.2.2.length:Int)=room∧0≤r.2.1∧∀x,r.2.2.head? = some x→r.2.1<x.1
noncomputable instance (r room):Decidable (RawOk r room):=Classical.propDecidable _
def RawW (r:Rw):Prop:=∀e∈r.2.2,EvW e
theorem last_at {l pre rest:List Ev} {x:Ev} {i:Int} (hl:l=pre++x::rest) (hi:i=pre.length) (hL:l.length≤1000000) (h:0<i):∃q,pre.getLast? = some q∧at? l (IntKind.wrap .i64 (i-1))=some q:=by
 rcases List.eq_nil_or_concat pre with rfl | ⟨q,y,rfl⟩
 ·simp at hi;omega
 rw[List.concat_eq_append] at *
 have hlen:=congrArg List.length hl;simp at hlen hi;refine ⟨y,by simp,?_⟩;rw[w64 (by omega) (by omega)];exact b0z (pre:=q) (rest:=x::rest) (by rw[hl];simp) (by omega)
theorem a2f {pre rest:List Ev} {x:Ev} (hp:Foll pre):(EvOk x∧(∀q,pre.getLast? = some q→q.1<x.1))↔Foll (pre++[x]):=by
 constructor
 ·rintro ⟨h1,h2⟩;refine l1c.2 ⟨hp,h1,?_⟩;rcases List.eq_nil_or_concat pre with rfl | ⟨q,y,rfl⟩
  ·simp
  ·rw[List.concat_eq_append] at *
   exact last_all hp (y:=y) (by simp) (h2 y (by simp))
 ·intro h;obtain ⟨h1,h2,h3⟩:=l1c.1 h;exact ⟨h2,fun q hq=>h3 q (List.mem_of_getLast? hq)⟩
theorem foll_pre {l pre rest:List Ev} {x:Ev} (hl:l=pre++x::rest) (h:Foll l):Foll (pre++[x]):=by
 rw[idxl hl] at h;exact (d0a.1 h).1
theorem j1u (n:Nat) (l:List Ev) (hL:l.length≤1000000) (hw:∀e∈l,EvW e):∀(rest pre:List Ev) (f:Nat) (i len:Int),l=pre++rest→i=pre.length→len=l.length→rest.length<f→Foll pre →
  (Foll l→f0f (n+3) f (l,l,len,i,())=some (.inl ()))∧(¬Foll l→f0f (n+3) f (l,l,len,i,())=some (.inr false)):=by
 intro rest;induction rest with
 | nil =>
  intro pre f i len hl hi hn hf hp;obtain ⟨f,rfl⟩:∃g,f=g+1:=⟨f-1,by simp at hf;omega⟩;rw[n0u];have e:l=pre:=by rw[hl,List.append_nil]
  exact ⟨fun _=>by simp only[tfd,if_neg (idxe hl hi hn)],fun k=>absurd (e ▸ hp) k⟩
 | cons x rest ih =>
  intro pre f i len hl hi hn hf hp;obtain ⟨f,rfl⟩:∃g,f=g+1:=⟨f-1,by simp at hf;omega⟩;rw[n0u];have hx:EvW x:=hw x (by rw[hl];simp);have ih':=ih (pre++[x]) f (i+1) len (idxl hl) (idxs hi) hn (by simp at hf;omega);simp only[tfd,tfn,if_pos (idx hl hi hn),b0z hl hi,obs,e0q _ hx,z02,idxw hl hi (by omega)];have nx:=a2f (rest:=rest) (x:=x) hp;by_cases c1:EvOk x
  case neg=>rw[if_neg c1];exact ⟨fun k=>absurd (k.ok x (by rw[hl];simp)) c1,fun _=>rfl⟩
  rw[if_pos c1];by_cases c2:0<i
  ·obtain ⟨q,hq,hat⟩:=last_at hl hi hL c2;have hqo:EvOk q:=hp.ok q (List.mem_of_getLast? hq);rw[if_pos c2,hat,obs,k0k n (.of hqo) hx];simp only[obs,tfd];by_cases c3:q.1<x.1
   ·rw[if_pos ⟨hqo,c1,c3⟩];exact ih' (nx.1 ⟨c1,fun z hz=>by rw[hq] at hz;injection hz with hz;rw[←hz];exact c3⟩)
   ·rw[if_neg (fun k=>c3 k.2.2)];exact ⟨fun k=>absurd ((nx.2 (foll_pre hl k)).2 q hq) c3,fun _=>rfl⟩
  ·have hpe:pre=[]:=List.length_eq_zero_iff.1 (by omega);rw[if_neg c2];exact ih' (nx.1 ⟨c1,fun z hz=>by rw[hpe] at hz;cases hz⟩)
noncomputable instance (l:List Ev):Decidable (Foll l):=Classical.propDecidable _
theorem b1c (n:Nat) (l:List Ev) (hL:l.length≤1000000) (hw:∀e∈l,EvW e):u0x (n+4) l=some (decide (Foll l)):=by
 rw[f1o];have h:=j1u n l hL hw l [] a0b 0 l.length rfl rfl rfl (by unfold a0b;omega) Foll.nil;by_cases c:Foll l
 ·rw[h.1 c,decide_eq_true c];rfl
 ·rw[h.2 c,decide_eq_false c];rfl
theorem head_at (l:List Ev):at? l (0:Int)=l.head? := by cases l<;>rfl
theorem j1w (n:Nat) (r:Rw) (room:Int) (hw:RawW r):t0h (n+5) r room=some (if RawOk r room then 0 else 2):=by
 rw[j1x];simp only[tfd];by_cases h1:room<1
 ·rw[if_pos h1,if_neg (fun k:RawOk r room=>by have:=k.m0;omega)]
 by_cases h2:4096<room
 ·rw[if_neg h1,if_pos h2,if_neg (fun k:RawOk r room=>by have:=k.m1;omega)]
 by_cases h3:room<r.2.2.length
 ·rw[if_neg h1,if_neg h2,if_pos h3,if_neg (fun k:RawOk r room=>by have:=k.len;omega)]
 by_cases h4:r.1<0
 ·rw[if_neg h1,if_neg h2,if_neg h3,if_pos h4,if_neg (fun k:RawOk r room=>by have:=k.l0;omega)]
 by_cases h5:70368744177664<r.1
 ·rw[if_neg h1,if_neg h2,if_neg h3,if_neg h4,if_pos h5,if_neg (fun k:RawOk r room=>by have:=k.l1;omega)]
 rw[if_neg h1,if_neg h2,if_neg h3,if_neg h4,if_neg h5,b1c n r.2.2 (by omega) hw,f1p];simp only[obs,tfn,tfd];by_cases h6:Foll r.2.2
 case neg=>rw[if_neg h6,if_neg (fun k:RawOk r room=>h6 k.f)]
 rw[if_pos h6];by_cases h7:r.1=0
 ·rw[if_pos h7,obs];simp only[tfd];by_cases h8:r.2.1=0
  ·rw[if_pos h8,if_pos (⟨by omega,by omega,by omega,by omega,by omega,h6,fun _=>h8,fun k=>absurd h7 k⟩:RawOk r room)]
  ·rw[if_neg h8,if_neg (fun k:RawOk r room=>h8 (k.z h7))]
 rw[if_neg h7];by_cases h8:(r.2.2.length:Int)=room
 case neg=>rw[if_neg h8,if_neg (fun k:RawOk r room=>h8 (k.p h7).1)];rfl
 rw[if_pos h8];by_cases h9:(0:Int)≤r.2.1
 case neg=>rw[if_neg h9,if_neg (fun k:RawOk r room=>h9 (k.p h7).2.1)];rfl
 rw[if_pos h9,head_at];obtain ⟨x,hx⟩:∃x,r.2.2.head? = some x:=by
  cases hh:r.2.2 with
  | nil=>rw[hh] at h8;simp at h8;omega
  | cons x l=>exact ⟨x,rfl⟩
 rw[hx,obs,obs];simp only[tfd];by_cases h10:r.2.1<x.1
 ·rw[if_pos h10,if_pos (⟨by omega,by omega,by omega,by omega,by omega,h6,fun k=>absurd k h7,fun _=>⟨h8,h9,fun y hy=>by rw[hx] at hy;injection hy with hy;rw[←hy];exact h10⟩⟩:RawOk r room)]
 ·rw[if_neg h10,if_neg (fun k:RawOk r room=>h10 ((k.p h7).2.2 x hx))]
theorem q1q (n:Nat) (r:Rw) (hL:r.2.2.length≤1000000):x0m (n+1) r=some (match r.2.2.getLast? with | some e=>(e,0) | none=>(e0,3)):=by
 rw[n1z];simp only[tfd];rcases List.eq_nil_or_concat r.2.2 with h | ⟨q,y,h⟩
 ·rw[h,if_pos (by simp)];rfl
 ·rw[List.concat_eq_append] at h;have hlen:=congrArg List.length h;simp at hlen;rw[if_neg (by omega),w64 (by omega) (by omega),b0z (pre:=q) (rest:=[]) h (by omega),h];simp
def After (l:List Ev) (e:Ev):Prop:=∀q,l.getLast? = some q→q.1<e.1
noncomputable instance (l e):Decidable (After l e):=Classical.propDecidable _
def r0w:Rw:=(0,(0,[]))
def g0w (r:Rw) (room:Int) (e:Ev):Rw :=
 if (r.2.2.length:Int)<room then (r.1,(r.2.1,r.2.2++[e])) else (r.1+1,((r.2.2.headD e0).1,r.2.2.drop 1++[e]))
noncomputable def k0h (r:Rw) (room:Int) (e:Ev):Rw×Int :=
 if RawOk r room∧EvOk e then (if After r.2.2 e then (if (r.2.2.length:Int)=room∧r.1=70368744177664 then (r0w,1) else (g0w r room e,0)) else (r0w,9)) else (r0w,2)
theorem t1t (n:Nat) (room:Int) (l:List Ev) (hL:l.length≤1000000) (hr:(l.length:Int)≤room):∀(rest pre:List Ev) (f:Nat) (i len:Int),l=pre++rest→i=pre.length→len=l.length→rest.length<f →
  m0t (n+1) f ((room,(pre,(0,0))),l,len,i,())=some (.inl ((room,(l,(0,0))),())):=by
 intro rest;induction rest with
 | nil =>
  intro pre f i len hl hi hn hf;obtain ⟨f,rfl⟩:∃g,f=g+1:=⟨f-1,by simp at hf;omega⟩;rw[q0y];have e:l=pre:=by rw[hl,List.append_nil]
  simp only[tfd,if_neg (idxe hl hi hn),e]
 | cons x rest ih =>
  intro pre f i len hl hi hn hf;obtain ⟨f,rfl⟩:∃g,f=g+1:=⟨f-1,by simp at hf;omega⟩;have hp:pre.length+1≤l.length:=by have:=congrArg List.length hl;simp at this;omega
  rw[q0y];simp only[tfd,if_pos (idx hl hi hn),b0z hl hi,obs,idxw hl hi (show l.length≤1000000000000 by omega),j1t,if_pos (show (pre.length:Int)<room by omega),if_pos (show (pre.length+1)*32≤140737488355328 by omega)];exact ih (pre++[x]) f (i+1) len (idxl hl) (idxs hi) hn (by simp at hf;omega)
theorem j1v (n:Nat) (room:Int) (l:List Ev) (h1:1≤room) (h2:room≤4096) (hr:(l.length:Int)≤room):m0u (n+2) l room=some (some (room,(l,(0,0))),0):=by
 rw[n1w,u0w];simp only[tfd,if_neg (show ¬(room<1) by omega),if_neg (show ¬(65536<room) by omega),obs,p0t,tfn,if_true];rw[t1t n room l (by omega) hr l [] a0b 0 _ rfl rfl rfl (by unfold a0b;omega)];rfl
theorem f1m (n:Nat) (room lost:Int) (l:List Ev) (k:Nat) (hk:k≤l.length) (hL:l.length≤1000000):k0f (n+1) (room,(l,((k:Int),lost)))=some (l.drop k++l.take k,(room,(l,((k:Int),lost)))):=by
 rw[y1d];have t1:(l.drop k).take (l.length-k)=l.drop k:=List.take_of_length_le (by simp);have t2:(List.drop 0 l).take (k-0)=l.take k:=by simp
 simp only[u0k,tft,Int.toNat_natCast,t1,t2];simp only[tfd];rw[if_pos (by omega),if_pos (by omega),if_pos (by omega),if_pos hk,if_pos (by simp;omega),if_pos (by omega),if_pos (by omega),if_pos (by simp;omega)];simp
theorem j1s (n:Nat) (room:Int) (l:List Ev) (e:Ev) (h1:1≤room) (h2:room≤4096) (hr:(l.length:Int)≤room) :
  ∃q:Ev×(Bool×(Int×(List Ev×(Int×Int)))),w0d (n+2) (room,(l,(0,0))) e=some q ∧
   (((l.length:Int)<room→q.2.1=false∧∃q',k0f (n+2) q.2.2=some (l++[e],q'))∧(¬(l.length:Int)<room→q.2.1=true∧q.1=l.headD e0∧∃q',k0f (n+2) q.2.2=some (l.drop 1++[e],q'))):=by
 rw[j1t];simp only[tfd];by_cases h:(l.length:Int)<room
 ·rw[if_pos h,if_pos (by omega)];refine ⟨_,rfl,fun _=>⟨rfl,?_⟩,fun k=>absurd h k⟩;have:=f1m (n+1) room 0 (l++[e]) 0 (by omega) (by simp;omega);exact ⟨_,by simpa using this⟩
 ·rw[if_neg h]
  match l with
  | []=>simp at h;omega
  | x::l =>
   have e1:at? (x::l) (0:Int)=some x:=rfl;have e2:(x::l)[Int.toNat 0]? = some x:=rfl;have e3:(x::l).set (Int.toNat 0) e=e::l:=rfl;simp only[List.length_cons] at hr h;rw[e1,e2,e3];simp only[obs];rw[n1v];simp only[tfd];rw[if_neg (show ¬(((e::l).length:Int)=0) by simp;omega),w64 (x:=(0:Int)+1) (by omega) (by omega),obs];refine ⟨_,rfl,fun k=>absurd k (by simpa using h),fun _=>⟨rfl,rfl,?_⟩⟩;by_cases hl:l=[]
   ·subst hl;have em:Int.tmod (0+1) (((e::([]:List Ev)).length:Nat):Int)=((0:Nat):Int):=by
     rw[n0y (by decide)];show ((0:Int)+1) % ((1:Nat):Int)=_;decide
    rw[em];have:=f1m (n+1) room (IntKind.wrap .u64 (0+1)) [e] 0 (by simp) (by simp);exact ⟨_,by simpa using this⟩
   ·have hp:=List.length_pos_iff.2 hl;have em:Int.tmod (0+1) (((e::l).length:Nat):Int)=((1:Nat):Int):=by
     rw[n0y (by omega),List.length_cons];exact Int.emod_eq_of_lt (by omega) (by omega)
    rw[em];have:=f1m (n+1) room (IntKind.wrap .u64 (0+1)) (e::l) 1 (by simp) (by simp;omega);exact ⟨_,by simpa using this⟩
end Go.Proofs.YtkajechaanmplaaGreatDoor
namespace Go.Proofs.YtkajechaanmplaaGreatDoor
open Go.Flat Go.Plim
theorem raw_tail (n:Nat) {r:Rw} {room:Int} (e:Ev) (h:RawOk r room) :
  (a0a (m0u (n+2) r.2.2 room) fun r4 =>
   z0i (r4.1) (tif (!(decide (r4.2=(0:Int)))) (some (((0:Int),((0:Int),[])),r4.2)) none) fun r5 =>
    tif (!(decide (r4.2=(0:Int)))) (some (((0:Int),((0:Int),[])),r4.2))
     (a0a (w0d (n+2) r5 e) fun r6 =>
      tif (r6.2.1) (a0a (k0f (n+2) r6.2.2) fun r7=>some (((IntKind.wrap .i64 (r.1+(1:Int))),(r6.1.1,r7.1)),(0:Int)))
       (a0a (k0f (n+2) r6.2.2) fun r8=>some ((r.1,(r.2.1,r8.1)),(0:Int)))))=some (g0w r room e,0):=by
 rw[j1v n room r.2.2 h.m0 h.m1 h.len];simp only[obs,p0t,decide_true,Bool.not_true,tff];obtain ⟨q,h1,h2,h3⟩:=j1s n room r.2.2 e h.m0 h.m1 h.len;rw[h1];have l0:=h.l0;have l1:=h.l1;simp only[obs];unfold g0w;by_cases hc:(r.2.2.length:Int)<room
 ·obtain ⟨k1,q',k2⟩:=h2 hc;rw[k1,tff,k2,if_pos hc];rfl
 ·obtain ⟨k1,k2,q',k3⟩:=h3 hc;rw[k1,tft,k3,if_neg hc,w64 (by omega) (by omega),k2];rfl
theorem w1d {l:List Ev} (h:l.getLast? = none) (e:Ev):After l e:=fun q hq=>by rw[h] at hq;cases hq
theorem raw_put (n:Nat) {r:Rw} (room:Int) {e:Ev} (hw:RawW r) (he:EvW e):n1y (n+6) r room e=some (k0h r room e):=by
 rw[t1u,j1w n r room hw,e0q _ he];simp only[obs,tfn,tfd,z02];unfold k0h;by_cases h1:RawOk r room
 case neg=>rw[if_neg h1,if_neg (fun k=>h1 k.1)];rfl
 by_cases h2:EvOk e
 case neg=>rw[if_pos h1,if_neg h2,if_neg (fun k=>h2 k.2)];rfl
 have hl:=h1.len;have hm:=h1.m1;rw[if_pos h1,if_pos h2,if_pos (And.intro h1 h2),q1q _ r (by omega)];have tl:=raw_tail (n+3) e h1;simp only[tfn,tfd] at tl;simp only[obs];rw[tl];have fin:(if (r.2.2.length:Int)=room then (if r.1=70368744177664 then some (((0:Int),((0:Int),([]:List Ev))),(1:Int)) else some (g0w r room e,0)) else some (g0w r room e,0))=some (if (r.2.2.length:Int)=room∧r.1=70368744177664 then (r0w,1) else (g0w r room e,0)):=by
  by_cases a:(r.2.2.length:Int)=room
  ·rw[if_pos a];by_cases b:r.1=70368744177664
   ·rw[if_pos b,if_pos (And.intro a b)];rfl
   ·rw[if_neg b,if_neg (fun k=>b k.2)]
  ·rw[if_neg a,if_neg (fun k=>a k.1)]
 rw[fin];cases hg:r.2.2.getLast? with
 | none =>
  simp only;rw[if_neg (by decide),if_pos (w1d hg e)]
 | some q =>
  have hq:EvOk q:=h1.f.ok q (List.mem_of_getLast? hg);simp only[if_true];rw[k0k (n+2) (.of hq) he,obs];by_cases c:q.1<e.1
  ·have ha:After r.2.2 e:=fun z hz=>by rw[hg] at hz;injection hz with hz;rw[←hz];exact c
   rw[decide_eq_true ⟨hq,h2,c⟩,if_pos ha];rfl
  ·have ha:¬After r.2.2 e:=fun k=>c (k q hg)
   rw[decide_eq_false (fun k=>c k.2.2),if_neg ha];rfl
end Go.Proofs.YtkajechaanmplaaGreatDoor

namespace Go.Plim
set_option linter.unusedVariables false
variable {α:Type}
def Srt (key:α→Int) (d:List α) (a b:Nat):Prop:=∀i j x y,a≤i→i<j→j<b→d[i]? = some x→d[j]? = some y→key x≤key y
structure Mv (d d':List α) (a b:Nat):Prop where
 perm:d'.Perm d
 out:∀i,(i<a∨b≤i)→d'[i]? = d[i]?
 ins:∀i x,a≤i→i<b→d'[i]? = some x→∃j,a≤j∧j<b∧d[j]? = some x
theorem Mv.len {d d':List α} {a b:Nat} (h:Mv d d' a b):d'.length=d.length:=h.perm.length_eq
theorem Mv.refl (d:List α) (a b:Nat):Mv d d a b:=⟨.refl _,fun _ _=>rfl,fun i x h1 h2 h=>⟨i,h1,h2,h⟩⟩
theorem Mv.trans {d d' d'':List α} {a b:Nat} (h:Mv d d' a b) (g:Mv d' d'' a b):Mv d d'' a b :=
 ⟨g.perm.trans h.perm,fun i hi=>(g.out i hi).trans (h.out i hi),fun i x h1 h2 hx=>by
  obtain ⟨j,j1,j2,hj⟩:=g.ins i x h1 h2 hx
  exact h.ins j x j1 j2 hj⟩
theorem Mv.mono {d d':List α} {a b a' b':Nat} (h:Mv d d' a b) (ha:a'≤a) (hb:b≤b'):Mv d d' a' b' :=
 ⟨h.perm,fun i hi=>h.out i (by omega),fun i x h1 h2 hx=>by
  by_cases k:a≤i∧i<b
  ·obtain ⟨j,j1,j2,hj⟩:=h.ins i x k.1 k.2 hx;exact ⟨j,by omega,by omega,hj⟩
  ·rw[h.out i (by omega)] at hx
   exact ⟨i,h1,h2,hx⟩⟩
theorem Srt.mono {key:α→Int} {d:List α} {a b a' b':Nat} (h:Srt key d a b) (ha:a≤a') (hb:b'≤b):Srt key d a' b' :=
 fun i j x y h1 h2 h3=>h i j x y (by omega) h2 (by omega)
theorem Srt.keep {key:α→Int} {d d':List α} {a b p q:Nat} (h:Srt key d p q) (m:Mv d d' a b) (hd:q≤a∨b≤p):Srt key d' p q :=
 fun i j x y h1 h2 h3 hx hy=>h i j x y h1 h2 h3 (by rw[←m.out i (by omega)];exact hx) (by rw[←m.out j (by omega)];exact hy)
theorem Srt.one (key:α→Int) (d:List α) {a b:Nat} (h:b≤a+1):Srt key d a b:=fun i j _ _ h1 h2 h3=>by omega
theorem m0j {d:List α} {i j:Nat} {x y:α} (hi:d[i]? = some x) (hj:d[j]? = some y) (k:Nat) :
  ((d.set i y).set j x)[k]? = if k=j then some x else if k=i then some y else d[k]? := by
 have li:=(List.getElem?_eq_some_iff.1 hi).1;have lj:=(List.getElem?_eq_some_iff.1 hj).1;simp only[List.getElem?_set,List.length_set];by_cases e:j=k
 ·subst e;simp[lj]
 ·by_cases e':i=k
  ·subst e';simp[e,li,Ne.symm e]
  ·simp[e,e',Ne.symm e,Ne.symm e']
theorem m1u {d:List α} {i j a b:Nat} {x y:α} (hi:d[i]? = some x) (hj:d[j]? = some y) (i1:a≤i) (i2:i<b) (j1:a≤j) (j2:j<b):Mv d ((d.set i y).set j x) a b:=by
 have li:=(List.getElem?_eq_some_iff.1 hi);have lj:=(List.getElem?_eq_some_iff.1 hj);obtain ⟨li,rfl⟩:=li;obtain ⟨lj,rfl⟩:=lj;refine ⟨List.set_set_perm li lj,fun k hk => ?_,fun k z k1 k2 hz => ?_⟩
 ·rw[m0j hi hj,if_neg (by omega),if_neg (by omega)]
 ·rw[m0j hi hj] at hz;by_cases e:k=j
  ·rw[if_pos e] at hz;exact ⟨i,i1,i2,by rw[←hz,hi]⟩
  ·rw[if_neg e] at hz;by_cases e':k=i
   ·rw[if_pos e'] at hz;exact ⟨j,j1,j2,by rw[←hz,hj]⟩
   ·rw[if_neg e'] at hz;exact ⟨k,k1,k2,hz⟩
structure Turned (d d':List α) (a m b:Nat):Prop where
 mv:Mv d d' a b
 lo:∀i,a≤i→i<a+(b-m)→d'[i]? = d[i+(m-a)]?
 hi:∀i,a+(b-m)≤i→i<b→d'[i]? = d[i-(b-m)]?
theorem i1t {P U V S d d':List α} {a m b:Nat} (hd:d=P++(U++(V++S))) (hd':d'=P++(V++(U++S))) (ha:P.length=a) (hm:a+U.length=m) (hb:m+V.length=b):Turned d d' a m b:=by
 subst hd hd' ha hm hb;have perm:(P++(V++(U++S))).Perm (P++(U++(V++S))):=by
  refine List.Perm.append_left P ?_;rw[←List.append_assoc,←List.append_assoc];exact List.Perm.append_right S List.perm_append_comm
 have out:∀i,(i<P.length∨P.length+U.length+V.length≤i)→(P++(V++(U++S)))[i]? = (P++(U++(V++S)))[i]? := by
  intro i hi;rcases hi with hi | hi
  ·rw[List.getElem?_append_left hi,List.getElem?_append_left hi]
  ·rw[List.getElem?_append_right (by omega),List.getElem?_append_right (by omega),List.getElem?_append_right (by omega),List.getElem?_append_right (by omega),List.getElem?_append_right (by omega),List.getElem?_append_right (by omega)];congr 1;omega
 have lo:∀i,P.length≤i→i<P.length+(P.length+U.length+V.length-(P.length+U.length))→(P++(V++(U++S)))[i]? = (P++(U++(V++S)))[i+(P.length+U.length-P.length)]? := by
  intro i h1 h2;rw[List.getElem?_append_right (by omega),List.getElem?_append_left (by omega),List.getElem?_append_right (by omega),List.getElem?_append_right (by omega),List.getElem?_append_left (by omega)];congr 1;omega
 have hi:∀i,P.length+(P.length+U.length+V.length-(P.length+U.length))≤i→i<P.length+U.length+V.length→(P++(V++(U++S)))[i]? = (P++(U++(V++S)))[i-(P.length+U.length+V.length-(P.length+U.length))]? := by
  intro i h1 h2;rw[List.getElem?_append_right (by omega),List.getElem?_append_right (by omega),List.getElem?_append_left (by omega),List.getElem?_append_right (by omega),List.getElem?_append_left (by omega)];congr 1;omega
 refine ⟨⟨perm,out,fun i x h1 h2 hx => ?_⟩,lo,hi⟩;by_cases k:i<P.length+(P.length+U.length+V.length-(P.length+U.length))
 ·rw[lo i h1 k] at hx;exact ⟨_,by omega,by omega,hx⟩
 ·rw[hi i (by omega) h2] at hx;exact ⟨_,by omega,by omega,hx⟩
theorem turned_refl (d:List α) {a m b:Nat} (h:(a≤m∧m=b)∨(a=m∧m≤b)):Turned d d a m b:=by
 rcases h with ⟨h1,rfl⟩ | ⟨rfl,h1⟩
 ·exact ⟨.refl _ _ _,fun i h2 h3=>by omega,fun i h2 h3=>by simp⟩
 ·exact ⟨.refl _ _ _,fun i h2 h3=>by simp,fun i h2 h3=>by omega⟩
theorem cut4 (d:List α) {a m b:Nat} (h1:a≤m) (h2:m≤b) (h3:b≤d.length) :
  ∃P U V S,d=P++(U++(V++S))∧P.length=a∧a+U.length=m∧m+V.length=b:=by
 refine ⟨d.take a,(d.drop a).take (m-a),(d.drop m).take (b-m),d.drop b,?_,?_,?_,?_⟩
 ·have e1:(d.drop m).take (b-m)++d.drop b=d.drop m:=by
   conv=>rhs;rw[←List.take_append_drop (b-m) (d.drop m),List.drop_drop]
   rw[show m+(b-m)=b by omega]
  have e2:(d.drop a).take (m-a)++d.drop m=d.drop a:=by
   conv=>rhs;rw[←List.take_append_drop (m-a) (d.drop a),List.drop_drop]
   rw[show a+(m-a)=m by omega]
  rw[e1,e2,List.take_append_drop]
 all_goals simp
 all_goals omega
theorem halves {key:α→Int} {d d':List α} {a m b mid s e:Nat} (h1:Srt key d a m) (h2:Srt key d m b) (t:Turned d d' s m e)
  (k1:a≤s) (k2:s≤m) (k3:m≤e) (k4:e≤b) (k5:e+s=mid+m) (hb:b≤d.length)
  (c1:∀x y,a<s→e<b→d[s-1]? = some x→d[e]? = some y→key x≤key y)
  (c2:∀x y,s<m→m<e→d[e-1]? = some x→d[s]? = some y→key x≤key y) :
  (Srt key d' a s∧Srt key d' s mid∧Srt key d' mid e∧Srt key d' e b) ∧
  ∀i j x y,a≤i→i<mid→mid≤j→j<b→d'[i]? = some x→d'[j]? = some y→key x≤key y:=by
 have lo:=t.lo;have hi:=t.hi;have out:=t.mv.out;have e1:s+(e-m)=mid:=by omega
 rw[e1] at lo hi;have le1:∀ {i j x y},a≤i→i≤j→j<m→d[i]? = some x→d[j]? = some y→key x≤key y:=by
  intro i j x y q1 q2 q3 hx hy;rcases Nat.lt_or_eq_of_le q2 with q | q
  ·exact h1 i j x y q1 q q3 hx hy
  ·subst q;rw[hx] at hy;injection hy with hy;subst hy;exact Int.le_refl _
 have le2:∀ {i j x y},m≤i→i≤j→j<b→d[i]? = some x→d[j]? = some y→key x≤key y:=by
  intro i j x y q1 q2 q3 hx hy;rcases Nat.lt_or_eq_of_le q2 with q | q
  ·exact h2 i j x y q1 q q3 hx hy
  ·subst q;rw[hx] at hy;injection hy with hy;subst hy;exact Int.le_refl _
 have getm:∀i,i<d.length→∃x,d[i]? = some x:=fun i h=>⟨d[i],List.getElem?_eq_getElem h⟩
 refine ⟨⟨?_,?_,?_,?_⟩,?_⟩
 ·intro i j x y q1 q2 q3 hx hy;rw[out i (by omega)] at hx;rw[out j (by omega)] at hy;exact h1 i j x y q1 q2 (by omega) hx hy
 ·intro i j x y q1 q2 q3 hx hy;rw[lo i (by omega) (by omega)] at hx;rw[lo j (by omega) (by omega)] at hy;exact h2 _ _ x y (by omega) (by omega) (by omega) hx hy
 ·intro i j x y q1 q2 q3 hx hy;rw[hi i (by omega) (by omega)] at hx;rw[hi j (by omega) (by omega)] at hy;exact h1 _ _ x y (by omega) (by omega) (by omega) hx hy
 ·intro i j x y q1 q2 q3 hx hy;rw[out i (by omega)] at hx;rw[out j (by omega)] at hy;exact h2 i j x y (by omega) q2 q3 hx hy
 ·intro i j x y q1 q2 q3 q4 hx hy;by_cases r1:i<s
  ·rw[out i (by omega)] at hx;by_cases r2:j<e
   ·rw[hi j (by omega) (by omega)] at hy;exact le1 (by omega) (by omega) (by omega) hx hy
   ·rw[out j (by omega)] at hy;obtain ⟨u,hu⟩:=getm (s-1) (by omega);obtain ⟨v,hv⟩:=getm e (by omega);have:=c1 u v (by omega) (by omega) hu hv;have:=le1 (i:=i) (j:=s-1) (by omega) (by omega) (by omega) hx hu;have:=le2 (i:=e) (j:=j) (by omega) (by omega) (by omega) hv hy;omega
  ·rw[lo i (by omega) (by omega)] at hx;by_cases r2:j<e
   ·rw[hi j (by omega) (by omega)] at hy;obtain ⟨u,hu⟩:=getm (e-1) (by omega);obtain ⟨v,hv⟩:=getm s (by omega);have:=c2 u v (by omega) (by omega) hu hv;have:=le2 (i:=i+(m-s)) (j:=e-1) (by omega) (by omega) (by omega) hx hu;have:=le1 (i:=s) (j:=j-(e-m)) (by omega) (by omega) (by omega) hv hy;omega
   ·rw[out j (by omega)] at hy;exact le2 (by omega) (by omega) (by omega) hx hy
theorem Srt.join {key:α→Int} {d:List α} {a m b:Nat} (h1:Srt key d a m) (h2:Srt key d m b) (h:∀i j x y,a≤i→i<m→m≤j→j<b→d[i]? = some x→d[j]? = some y→key x≤key y):Srt key d a b:=by
 intro i j x y q1 q2 q3 hx hy;by_cases r1:j<m
 ·exact h1 i j x y q1 q2 r1 hx hy
 ·by_cases r2:m≤i
  ·exact h2 i j x y r2 q2 q3 hx hy
  ·exact h i j x y q1 (by omega) (by omega) q3 hx hy
theorem r1x {key:α→Int} {d d':List α} {a m b:Nat} (h:∀i j x y,a≤i→i<m→m≤j→j<b→d[i]? = some x→d[j]? = some y→key x≤key y)
  (t:Mv d d' a m∨Mv d d' m b):∀i j x y,a≤i→i<m→m≤j→j<b→d'[i]? = some x→d'[j]? = some y→key x≤key y:=by
 intro i j x y q1 q2 q3 q4 hx hy;rcases t with t | t
 ·obtain ⟨k,k1,k2,hk⟩:=t.ins i x q1 q2 hx;rw[t.out j (by omega)] at hy;exact h k j x y k1 k2 q3 q4 hk hy
 ·obtain ⟨k,k1,k2,hk⟩:=t.ins j y q3 q4 hy;rw[t.out i (by omega)] at hx;exact h i k x y q1 q2 k1 k2 hx hk
end Go.Plim

namespace Go.Proofs.YtkajechaanmplaaGreatDoor
open Go.Flat Go.Plim
set_option linter.unusedVariables false
set_option linter.unusedSimpArgs false
theorem w0r {α:Type} (xs:List α) (i:Nat):at? xs (i:Int)=xs[i]? := by simp[at?]
theorem wn {x:Int} {k:Nat} (h:x=k) (hk:k≤4000000000000):IntKind.wrap .i64 x=(k:Int):=by rw[w64 (by omega) (by omega),h]
theorem x0s (a b:Nat) (h:a+b≤4000000000000):IntKind.wrap .i64 (shrI .u64 (IntKind.wrap .u64 (IntKind.wrap .i64 ((a:Int)+(b:Int)))) 1)=(((a+b) / 2:Nat):Int):=by
 rw[w64 (x:=(a:Int)+b) (by omega) (by omega),wu64 (by omega) (by omega)];have e:shrI .u64 ((a:Int)+(b:Int)) 1=(((a+b) / 2:Nat):Int):=by
  show Int.fdiv ((a:Int)+b) (2^(min 1 64))=_;rw[show ((2:Int)^(min 1 64))=2 from by decide,Int.fdiv_eq_ediv_of_nonneg _ (by decide)];omega
 rw[e,w64 (by omega) (by omega)]
theorem tif_tif {α:Type} (p q:Prop) [Decidable p] [Decidable q] (x y:α):tif (decide p) (tif (decide q) x y) y=if p∧q then x else y:=by
 by_cases hp:p<;>by_cases hq:q<;>simp[hp,hq]
def Cmp (cmp:(a0c×(a0c×Unit))→Option Int) (key:a0c→Int):Prop:=∀x y,∃c,cmp (x,(y,()))=some c∧(c<0↔key x<key y)
section
variable {cmp:(a0c×(a0c×Unit))→Option Int} {key:a0c→Int} (hc:Cmp cmp key)
include hc
theorem ins_l4 (n:Nat) (a b:Int) (an i:Nat) (ha:a=an):∀(k f:Nat) (d:List a0c),k≤i-an→an+k≤i→k<f→i<d.length→d.length≤1000000000000 →
  (∀p q x y,an≤p→p<q→q≤i→p≠an+k→q≠an+k→d[p]? = some x→d[q]? = some y→key x≤key y) →
  (∀q x y,an+k<q→q≤i→d[an+k]? = some x→d[q]? = some y→key x≤key y) →
  ∃d',p0m n f (d,a,b,cmp,(i:Int),((an+k:Nat):Int),())=some (.inl (d',a,b,cmp,(i:Int),()))∧Mv d d' an (i+1)∧Srt key d' an (i+1):=by
 subst ha;intro k;induction k with
 | zero =>
  intro f d hk hi hf hl hL h1 h2;obtain ⟨f,rfl⟩:∃g,f=g+1:=⟨f-1,by omega⟩;rw[s0y];simp only[tfd,if_neg (show ¬((an:Int)<((an+0:Nat):Int)) by omega)];refine ⟨d,rfl,.refl _ _ _,fun p q x y q1 q2 q3 hx hy => ?_⟩;by_cases e:p=an+0
  ·subst e;exact h2 q x y q2 (by omega) hx hy
  ·exact h1 p q x y q1 q2 (by omega) e (by omega) hx hy
 | succ k ih =>
  intro f d hk hi hf hl hL h1 h2;obtain ⟨f,rfl⟩:∃g,f=g+1:=⟨f-1,by omega⟩;rw[s0y];have e1:IntKind.wrap .i64 (((an+(k+1):Nat):Int)-1)=((an+k:Nat):Int):=wn (by omega) (by omega);have lj:an+(k+1)<d.length:=by omega
  have lk:an+k<d.length:=by omega
  obtain ⟨c,hcm,hlt⟩:=hc d[an+(k+1)] d[an+k];have gj:d[an+(k+1)]? = some d[an+(k+1)]:=List.getElem?_eq_getElem lj;have gk:d[an+k]? = some d[an+k]:=List.getElem?_eq_getElem lk;simp only[tfd,if_pos (show ((an:Int)<((an+(k+1):Nat):Int)) by omega),e1,w0r,Int.toNat_natCast,gj,gk,obs,hcm];by_cases hlt':c<0
  ·have kl:=hlt.1 hlt';have g1:(d.set (an+(k+1)) d[an+k])[an+k]? = some d[an+k]:=by rw[List.getElem?_set_ne (by omega)];exact gk
   simp only[if_pos hlt',g1,obs];have sg:=m0j (d:=d) gj gk;have mv:=m1u (d:=d) (a:=an) (b:=i+1) gj gk (by omega) (by omega) (by omega) (by omega);obtain ⟨d',r1,r2,r3⟩:=ih f ((d.set (an+(k+1)) d[an+k]).set (an+k) d[an+(k+1)]) (by omega) (by omega) (by omega) (by simpa using hl) (by simpa using hL)
    (fun p q x y q1 q2 q3 p1 p2 hx hy=>by
     rw[sg] at hx hy;rw[if_neg p1] at hx;rw[if_neg p2] at hy;by_cases ep:p=an+(k+1)
     ·rw[if_pos ep] at hx;rw[if_neg (by omega)] at hy;have:d[an+k]? = some x:=by rw[gk];exact hx
      exact h1 (an+k) q x y (by omega) (by omega) q3 (by omega) (by omega) this hy
     ·rw[if_neg ep] at hx;by_cases eq:q=an+(k+1)
      ·rw[if_pos eq] at hy;have:d[an+k]? = some y:=by rw[gk];exact hy
       exact h1 p (an+k) x y q1 (by omega) (by omega) ep (by omega) hx this
      ·rw[if_neg eq] at hy
       exact h1 p q x y q1 q2 q3 ep eq hx hy)
    (fun q x y q1 q2 hx hy=>by
     rw[sg] at hx hy;rw[if_pos rfl] at hx;injection hx with hx;subst hx;rw[if_neg (by omega)] at hy;by_cases eq:q=an+(k+1)
     ·rw[if_pos eq] at hy;injection hy with hy;subst hy;omega
     ·rw[if_neg eq] at hy
      exact h2 q _ y (by omega) q2 gj hy)
   exact ⟨d',r1,mv.trans r2,r3⟩
  ·simp only[if_neg hlt'];refine ⟨d,rfl,.refl _ _ _,fun p q x y q1 q2 q3 hx hy => ?_⟩;have kl:key d[an+k]≤key d[an+(k+1)]:=by
    have:=mt hlt.2 hlt';omega
   by_cases ep:p=an+(k+1)
   ·subst ep;exact h2 q x y q2 (by omega) hx hy
   ·by_cases eq:q=an+(k+1)
    ·subst eq;rw[gj] at hy;injection hy with hy;subst hy;by_cases e3:p=an+k
     ·subst e3;rw[gk] at hx;injection hx with hx;subst hx;exact kl
     ·have:=h1 p (an+k) x _ q1 (by omega) (by omega) ep (by omega) hx gk;omega
    ·exact h1 p q x y q1 q2 (by omega) ep eq hx hy
theorem ins_l1 (n:Nat) (a b:Int) (an bn:Nat) (ha:a=an) (hb:b=bn):∀(k f:Nat) (i:Nat) (d:List a0c),bn-i≤k→k<f→an<i→(i≤bn∨bn≤an+1)→bn≤d.length→d.length≤1000000000000→Srt key d an i →
  ∃d',p0n n f (d,a,b,cmp,(i:Int),())=some (.inl (d',()))∧Mv d d' an bn∧Srt key d' an bn:=by
 intro k;induction k with
 | zero =>
  intro f i d hk hf hi hib hl hL hs;obtain ⟨f,rfl⟩:∃g,f=g+1:=⟨f-1,by omega⟩;rw[s0z];subst ha hb;simp only[tfd,if_neg (show ¬((i:Int)<(bn:Int)) by omega)];exact ⟨d,rfl,.refl _ _ _,hs.mono (by omega) (by omega)⟩
 | succ k ih =>
  intro f i d hk hf hi hib hl hL hs;obtain ⟨f,rfl⟩:∃g,f=g+1:=⟨f-1,by omega⟩;rw[s0z];by_cases hlt:i<bn
  ·obtain ⟨d',r1,r2,r3⟩:=ins_l4 hc n a b an i ha (i-an) a0b d (by omega) (by omega) (by unfold a0b;omega) (by omega) hL
    (fun p q x y q1 q2 q3 p1 p2 hx hy=>hs p q x y q1 q2 (by omega) hx hy) (fun q x y q1 q2=>by omega)
   rw[show an+(i-an)=i by omega] at r1;subst ha hb;simp only[tfd,if_pos (show ((i:Int)<(bn:Int)) by omega),r1,obs,b0g];rw[wn (k:=i+1) (by omega) (by omega)];have ml:=r2.len;obtain ⟨d'',s1,s2,s3⟩:=ih f (i+1) d' (by omega) (by omega) (by omega) (by omega) (by omega) (by omega) r3;exact ⟨d'',s1,(r2.mono (by omega) (by omega)).trans s2,s3⟩
  ·subst ha hb;simp only[tfd,if_neg (show ¬((i:Int)<(bn:Int)) by omega)];exact ⟨d,rfl,.refl _ _ _,hs.mono (by omega) (by omega)⟩
theorem ins_ok (n:Nat) (a b:Int) (an bn:Nat) (ha:a=an) (hb:b=bn) (d:List a0c) (hab:an≤bn) (hl:bn≤d.length) (hL:d.length≤1000000000000) :
  ∃d',f1e (n+1) d a b cmp=some d'∧Mv d d' an bn∧Srt key d' an bn:=by
 rw[t1f];have e:IntKind.wrap .i64 (a+1)=((an+1:Nat):Int):=wn (by omega) (by omega);rw[e];obtain ⟨d',r1,r2,r3⟩:=ins_l1 hc n a b an bn ha hb bn a0b (an+1) d (by omega) (by unfold a0b;omega) (by omega) (by omega) hl hL (Srt.one _ _ (by omega));rw[r1];exact ⟨d',by simp,r2,r3⟩
omit hc in
theorem j1d (n:Nat) (a b m:Int) (P:List a0c):∀(k f i:Nat) (X X' M Y Y' S:List a0c),X'.length=k→Y'.length=k→X.length=i→Y.length=i→k<f →
  a=P.length→b=P.length+X.length+X'.length+M.length→m=i+k→b+m≤2000000000000 →
  p0k n f (P++(Y++(X'++(M++(X++(Y'++S))))),a,b,m,(i:Int),())=some (.inl (P++(Y++(Y'++(M++(X++(X'++S))))),())):=by
 intro k;induction k with
 | zero =>
  intro f i X X' M Y Y' S h1 h2 h3 h4 hf ha hb hm hs;obtain ⟨f,rfl⟩:∃g,f=g+1:=⟨f-1,by omega⟩;obtain rfl:=List.length_eq_zero_iff.1 h1;obtain rfl:=List.length_eq_zero_iff.1 h2;rw[s0u];simp only[tfd,if_neg (show ¬((i:Int)<m) by omega)]
 | succ k ih =>
  intro f i X X' M Y Y' S h1 h2 h3 h4 hf ha hb hm hs;obtain ⟨f,rfl⟩:∃g,f=g+1:=⟨f-1,by omega⟩
  match X',Y' with
  | x::X',y::Y' =>
   simp only[List.length_cons] at h1 h2 hb;rw[s0u];have ea:IntKind.wrap .i64 (a+(i:Int))=((P.length+i:Nat):Int):=wn (by omega) (by omega);have eb:IntKind.wrap .i64 (b+(i:Int))=((P.length+i+(k+1)+M.length+i:Nat):Int):=wn (by omega) (by omega);have g1:(P++(Y++(x::X'++(M++(X++(y::Y'++S))))))[P.length+i]? = some x:=by
    rw[List.getElem?_append_right (by omega),List.getElem?_append_right (by omega)];rw[show P.length+i-P.length-Y.length=0 by omega];rfl
   have g2:(P++(Y++(x::X'++(M++(X++(y::Y'++S))))))[P.length+i+(k+1)+M.length+i]? = some y:=by
    rw[List.getElem?_append_right (by omega),List.getElem?_append_right (by omega),List.getElem?_append_right (by simp;omega),List.getElem?_append_right (by simp;omega),List.getElem?_append_right (by simp;omega)];simp only[List.length_cons];rw[show P.length+i+(k+1)+M.length+i-P.length-Y.length-(X'.length+1)-M.length-X.length=0 by omega];rfl
   have s1:(P++(Y++(x::X'++(M++(X++(y::Y'++S)))))).set (P.length+i) y=P++(Y++(y::X'++(M++(X++(y::Y'++S))))):=by
    rw[List.set_append_right _ _ (by omega),List.set_append_right _ _ (by omega),show P.length+i-P.length-Y.length=0 by omega];rfl
   have s2:(P++(Y++(y::X'++(M++(X++(y::Y'++S)))))).set (P.length+i+(k+1)+M.length+i) x=P++(Y++(y::X'++(M++(X++(x::Y'++S))))):=by
    rw[List.set_append_right _ _ (by omega),List.set_append_right _ _ (by omega),List.set_append_right _ _ (by simp;omega),List.set_append_right _ _ (by simp;omega),List.set_append_right _ _ (by simp;omega)];simp only[List.length_cons];rw[show P.length+i+(k+1)+M.length+i-P.length-Y.length-(X'.length+1)-M.length-X.length=0 by omega];rfl
   have g3:(P++(Y++(y::X'++(M++(X++(y::Y'++S))))))[P.length+i+(k+1)+M.length+i]? = some y:=by
    rw[List.getElem?_append_right (by omega),List.getElem?_append_right (by omega),List.getElem?_append_right (by simp;omega),List.getElem?_append_right (by simp;omega),List.getElem?_append_right (by simp;omega)];simp only[List.length_cons];rw[show P.length+i+(k+1)+M.length+i-P.length-Y.length-(X'.length+1)-M.length-X.length=0 by omega];rfl
   simp only[tfd,if_pos (show ((i:Int)<m) by omega),ea,eb,w0r,Int.toNat_natCast,g1,g2,s1,g3,s2,obs];have e6:IntKind.wrap .i64 ((i:Int)+1)=((i+1:Nat):Int):=wn (by omega) (by omega);rw[e6];have:=ih f (i+1) (X++[x]) X' M (Y++[y]) Y' S (by omega) (by omega) (by simp;omega) (by simp;omega) (by omega) ha (by simp;omega) (by omega) hs;simp only[List.append_assoc,List.singleton_append,List.cons_append] at this ⊢;exact this
omit hc in
theorem o0c (n:Nat) (a b m:Int) (P X M Y S:List a0c) (h:X.length=Y.length) (ha:a=P.length) (hb:b=P.length+X.length+M.length) (hm:m=X.length) (hs:b+m≤2000000000000) (d:List a0c) (hd:d=P++(X++(M++(Y++S)))) :
  y0q (n+1) d a b m cmp=some (P++(Y++(M++(X++S)))):=by
 subst hd;rw[t1b];have:=j1d n a b m P X.length a0b 0 [] X M [] Y S rfl h.symm rfl rfl (by unfold a0b;omega) ha (by simp;omega) (by omega) hs;simp only[List.nil_append] at this;rw[show ((0:Int))=((0:Nat):Int) from rfl,this];simp
omit hc in
theorem y1c (n:Nat) (m:Int):∀(k f:Nat) (P U V S d:List a0c) (i j:Int),U.length+V.length≤k→k<f→U≠[]→V≠[]→i=U.length→j=V.length→m=P.length+U.length→m+j≤1000000000000→d=P++(U++(V++S)) →
  ∃P' U' V' S' d',l0e (n+1) f (d,m,cmp,i,j,())=some (.inl (d',m,cmp,(U'.length:Int),()))∧U'.length=V'.length∧m=P'.length+U'.length∧d'=P'++(U'++(V'++S'))∧P'++(V'++(U'++S'))=P++(V++(U++S)):=by
 intro k;induction k with
 | zero =>
  intro f P U V S d i j hk hf hu hv;exact absurd (List.length_eq_zero_iff.1 (show U.length=0 by omega)) hu
 | succ k ih =>
  intro f P U V S d i j hk hf hu hv hi hj hm hmj hd;obtain ⟨f,rfl⟩:∃g,f=g+1:=⟨f-1,by omega⟩;have lu:=List.length_pos_iff.2 hu;have lv:=List.length_pos_iff.2 hv;rw[f1d];by_cases e:i=j
  ·simp only[tfn,tfd,if_pos e];exact ⟨P,U,V,S,d,by rw[hi],by omega,hm,hd,rfl⟩
  ·by_cases lt:j<i
   ·-- the front of U with V
    have hU:U=U.take V.length++U.drop V.length:=(List.take_append_drop _ _).symm;have l1:(U.take V.length).length=V.length:=by simp;omega
    have l2:(U.drop V.length).length=U.length-V.length:=by simp
    have hs:=o0c (cmp:=cmp) n (P.length:Int) m j P (U.take V.length) (U.drop V.length) V S l1 rfl (by omega) (by omega) (by omega) d (by rw[hd,←List.append_assoc (U.take V.length),←hU]);have e1:IntKind.wrap .i64 (m-i)=(P.length:Int):=wn (by omega) (by omega);have e2:IntKind.wrap .i64 (i-j)=((U.drop V.length).length:Int):=wn (by omega) (by omega);simp only[tfn,tfd,if_neg e,if_pos lt,e1,e2,hs,obs]
    obtain ⟨P',U',V',S',d',r1,r2,r3,r4,r5⟩:=ih f (P++V) (U.drop V.length) (U.take V.length) S (P++(V++(U.drop V.length++(U.take V.length++S)))) ((U.drop V.length).length:Int) j (by omega) (by omega)
     (by intro h;rw[h] at l2;simp at l2;omega) (by intro h;rw[h] at l1;simp at l1;omega) rfl (by omega) (by simp;omega) hmj (by simp only[List.append_assoc])
    exact ⟨P',U',V',S',d',r1,r2,r3,r4,by rw[r5];rw[List.append_assoc,←List.append_assoc (U.take V.length),←hU]⟩
   ·have hV:V=V.take (V.length-U.length)++V.drop (V.length-U.length):=(List.take_append_drop _ _).symm;have l1:(V.take (V.length-U.length)).length=V.length-U.length:=by simp
    have l2:(V.drop (V.length-U.length)).length=U.length:=by simp;omega
    have hs:=o0c (cmp:=cmp) n (P.length:Int) (m+j-i) i P U (V.take (V.length-U.length)) (V.drop (V.length-U.length)) S l2.symm rfl (by omega) (by omega) (by omega) d (by rw[hd,←List.append_assoc (V.take _) (V.drop _) S,←hV]);have e1:IntKind.wrap .i64 (m-i)=(P.length:Int):=wn (by omega) (by omega);have e2:IntKind.wrap .i64 (j-i)=((V.take (V.length-U.length)).length:Int):=wn (by omega) (by omega);have e3:IntKind.wrap .i64 (IntKind.wrap .i64 (m+j)-i)=m+j-i:=by rw[w64 (x:=m+j) (by omega) (by omega),w64 (by omega) (by omega)]
    simp only[tfn,tfd,if_neg e,if_neg lt,e1,e2,e3,hs,obs];obtain ⟨P',U',V',S',d',r1,r2,r3,r4,r5⟩:=ih f P (V.drop (V.length-U.length)) (V.take (V.length-U.length)) (U++S) _ i ((V.take (V.length-U.length)).length:Int) (by omega) (by omega)
     (by intro h;rw[h] at l2;simp at l2;omega) (by intro h;rw[h] at l1;simp at l1;omega) (by omega) rfl (by omega) (by omega) rfl
    exact ⟨P',U',V',S',d',r1,r2,r3,r4,by rw[r5];rw[←List.append_assoc (V.take _) (V.drop _),←hV]⟩
omit hc in
theorem y1b (n:Nat) (a m b:Int) (an mn bn:Nat) (ha:a=an) (hm:m=mn) (hb:b=bn) (d:List a0c) (h1:an<mn) (h2:mn<bn) (hl:bn≤d.length) (hL:d.length≤1000000000000) :
  ∃d',y0r (n+2) d a m b cmp=some d'∧Turned d d' an mn bn:=by
 obtain ⟨P,U,V,S,hd,la,lm,lb⟩:=cut4 d (a:=an) (m:=mn) (b:=bn) (by omega) (by omega) hl;rw[t1e];have e1:IntKind.wrap .i64 (m-a)=(U.length:Int):=wn (by omega) (by omega);have e2:IntKind.wrap .i64 (b-m)=(V.length:Int):=wn (by omega) (by omega);have hfl:U.length+V.length<a0b:=by
  have:d.length=P.length+(U.length+(V.length+S.length)):=by rw[hd];simp
  unfold a0b;omega
 have hu:U≠[]:=by intro h;rw[h] at lm;simp at lm;omega
 have hv:V≠[]:=by intro h;rw[h] at lb;simp at lb;omega
 obtain ⟨P',U',V',S',d',r1,r2,r3,r4,r5⟩:=y1c (cmp:=cmp) n m (U.length+V.length) a0b P U V S d (U.length:Int) (V.length:Int) (by omega) hfl hu hv rfl rfl (by omega) (by omega) hd;have ld:d'.length=d.length:=by
  have:=congrArg List.length r5;rw[r4,hd];simp at this ⊢;omega
 have hs:=o0c (cmp:=cmp) n (P'.length:Int) m (U'.length:Int) P' U' [] V' S' r2 rfl (by simp;omega) rfl (by rw[r4] at ld;simp at ld;omega) d' (by rw[r4];simp);simp only[e1,e2,r1,obs,b0g,wn (x:=m-(U'.length:Int)) (k:=P'.length) (by omega) (by rw[r4] at ld;simp at ld;omega),hs];simp only[List.nil_append];exact ⟨_,rfl,i1t (P:=P) (U:=U) (V:=V) (S:=S) hd r5 la lm lb⟩
theorem sym_l3 (n:Nat) (a:Int) (an:Nat) (ha:a=an) (d:List a0c) (x:a0c) (hx:d[an]? = some x) (hL:d.length≤1000000000000) (lo hi:Nat) (hs:Srt key d lo hi) (hh:hi≤d.length):∀(k f i j:Nat),j-i≤k→k<f→i≤j→lo≤i→j≤hi →
  (∀p y,lo≤p→p<i→d[p]? = some y→key y<key x)→(∀p y,j≤p→p<hi→d[p]? = some y→key x≤key y) →
  ∃r:Nat,l0c n f (d,a,cmp,(i:Int),(j:Int),())=some (.inl (d,a,(r:Int),()))∧lo≤r∧r≤hi ∧
   (∀p y,lo≤p→p<r→d[p]? = some y→key y<key x)∧(∀p y,r≤p→p<hi→d[p]? = some y→key x≤key y):=by
 subst ha;intro k;induction k with
 | zero =>
  intro f i j hk hf hij hi hj h1 h2;obtain ⟨f,rfl⟩:∃g,f=g+1:=⟨f-1,by omega⟩;rw[s0t];simp only[tfd,if_neg (show ¬((i:Int)<(j:Int)) by omega)];have e:i=j:=by omega
  subst e;exact ⟨i,rfl,by omega,by omega,h1,h2⟩
 | succ k ih =>
  intro f i j hk hf hij hi hj h1 h2;obtain ⟨f,rfl⟩:∃g,f=g+1:=⟨f-1,by omega⟩;rw[s0t];by_cases lt:i<j
  ·have e1:=x0s i j (by omega);have lh:(i+j) / 2<d.length:=by omega
   obtain ⟨c,hcm,hlt⟩:=hc d[(i+j) / 2] x;have gh:d[(i+j) / 2]? = some d[(i+j) / 2]:=List.getElem?_eq_getElem lh;simp only[tfd,if_pos (show ((i:Int)<(j:Int)) by omega),e1,w0r,Int.toNat_natCast,gh,hx,obs,hcm];by_cases hlt':c<0
   ·have kl:=hlt.1 hlt';simp only[if_pos hlt'];rw[wn (x:=(((i+j) / 2:Nat):Int)+1) (k:=(i+j) / 2+1) (by omega) (by omega)];refine ih f ((i+j) / 2+1) j (by omega) (by omega) (by omega) (by omega) hj (fun p y p1 p2 hy => ?_) h2;by_cases ep:p=(i+j) / 2
    ·subst ep;rw[gh] at hy;injection hy with hy;subst hy;exact kl
    ·have:=hs p ((i+j) / 2) y _ p1 (by omega) (by omega) hy gh;omega
   ·have kl:key x≤key d[(i+j) / 2]:=by have:=mt hlt.2 hlt';omega
    simp only[if_neg hlt'];refine ih f i ((i+j) / 2) (by omega) (by omega) (by omega) hi (by omega) h1 (fun p y p1 p2 hy => ?_);by_cases ep:p=(i+j) / 2
    ·subst ep;rw[gh] at hy;injection hy with hy;subst hy;exact kl
    ·have:=hs ((i+j) / 2) p _ y (by omega) (by omega) (by omega) gh hy;omega
  ·simp only[tfd,if_neg (show ¬((i:Int)<(j:Int)) by omega)];have e:i=j:=by omega
   subst e;exact ⟨i,rfl,by omega,by omega,h1,h2⟩
theorem sym_l15 (n:Nat) (m:Int) (mn:Nat) (hm:m=mn) (d:List a0c) (x:a0c) (hx:d[mn]? = some x) (hL:d.length≤1000000000000) (lo hi:Nat) (hs:Srt key d lo hi) (hh:hi≤d.length):∀(k f i j:Nat),j-i≤k→k<f→i≤j→lo≤i→j≤hi →
  (∀p y,lo≤p→p<i→d[p]? = some y→key y≤key x)→(∀p y,j≤p→p<hi→d[p]? = some y→key x<key y) →
  ∃r:Nat,j0p n f (d,m,cmp,(i:Int),(j:Int),())=some (.inl (d,m,(r:Int),()))∧lo≤r∧r≤hi ∧
   (∀p y,lo≤p→p<r→d[p]? = some y→key y≤key x)∧(∀p y,r≤p→p<hi→d[p]? = some y→key x<key y):=by
 subst hm;intro k;induction k with
 | zero =>
  intro f i j hk hf hij hi hj h1 h2;obtain ⟨f,rfl⟩:∃g,f=g+1:=⟨f-1,by omega⟩;rw[q0s];simp only[tfd,if_neg (show ¬((i:Int)<(j:Int)) by omega)];have e:i=j:=by omega
  subst e;exact ⟨i,rfl,by omega,by omega,h1,h2⟩
 | succ k ih =>
  intro f i j hk hf hij hi hj h1 h2;obtain ⟨f,rfl⟩:∃g,f=g+1:=⟨f-1,by omega⟩;rw[q0s];by_cases lt:i<j
  ·have e1:=x0s i j (by omega);have lh:(i+j) / 2<d.length:=by omega
   obtain ⟨c,hcm,hlt⟩:=hc x d[(i+j) / 2];have gh:d[(i+j) / 2]? = some d[(i+j) / 2]:=List.getElem?_eq_getElem lh;simp only[tfn,tfd,if_pos (show ((i:Int)<(j:Int)) by omega),e1,w0r,Int.toNat_natCast,gh,hx,obs,hcm];by_cases hlt':c<0
   ·have kl:=hlt.1 hlt';simp only[if_pos hlt'];refine ih f i ((i+j) / 2) (by omega) (by omega) (by omega) hi (by omega) h1 (fun p y p1 p2 hy => ?_);by_cases ep:p=(i+j) / 2
    ·subst ep;rw[gh] at hy;injection hy with hy;subst hy;exact kl
    ·have:=hs ((i+j) / 2) p _ y (by omega) (by omega) (by omega) gh hy;omega
   ·have kl:key d[(i+j) / 2]≤key x:=by have:=mt hlt.2 hlt';omega
    simp only[if_neg hlt'];rw[wn (x:=(((i+j) / 2:Nat):Int)+1) (k:=(i+j) / 2+1) (by omega) (by omega)];refine ih f ((i+j) / 2+1) j (by omega) (by omega) (by omega) (by omega) hj (fun p y p1 p2 hy => ?_) h2;by_cases ep:p=(i+j) / 2
    ·subst ep;rw[gh] at hy;injection hy with hy;subst hy;exact kl
    ·have:=hs p ((i+j) / 2) y _ p1 (by omega) (by omega) hy gh;omega
  ·simp only[tfd,if_neg (show ¬((i:Int)<(j:Int)) by omega)];have e:i=j:=by omega
   subst e;exact ⟨i,rfl,by omega,by omega,h1,h2⟩
end
def Exc (key:a0c→Int) (d:List a0c) (a b k:Nat):Prop:=∀p q x y,a≤p→p<q→q<b→p≠k→q≠k→d[p]? = some x→d[q]? = some y→key x≤key y
def Place (key:a0c→Int) (d:List a0c) (a b k i:Nat) (x:a0c):Prop :=
 (∀p z,a≤p→p<i→p≠k→d[p]? = some z→key z≤key x)∧(∀p z,i≤p→p<b→p≠k→d[p]? = some z→key x≤key z)
theorem r1t {key:a0c→Int} {d:List a0c} {a b k j:Nat} {x y:a0c} (hj:j=k+1∨k=j+1) (ja:a≤j) (jb:j<b) (hx:d[k]? = some x) (hy:d[j]? = some y) (h:Exc key d a b k):Exc key ((d.set k y).set j x) a b j:=by
 intro p q u v q1 q2 q3 p1 p2 hu hv;rw[m0j hx hy,if_neg p1] at hu;rw[m0j hx hy,if_neg p2] at hv;by_cases ep:p=k
 ·rw[if_pos ep] at hu;rw[if_neg (by omega)] at hv;injection hu with hu;subst hu;exact h j q y v (by omega) (by omega) q3 (by omega) (by omega) hy hv
 ·rw[if_neg ep] at hu;by_cases eq:q=k
  ·rw[if_pos eq] at hv;injection hv with hv;subst hv;exact h p j u y q1 (by omega) (by omega) (by omega) (by omega) hu hy
  ·rw[if_neg eq] at hv;exact h p q u v q1 q2 q3 ep eq hu hv
theorem a2s {key:a0c→Int} {d:List a0c} {a b k i:Nat} {x:a0c} (h:Exc key d a b k) (hp:Place key d a b k i x) (hx:d[k]? = some x) (hk:k=i∨k+1=i):Srt key d a b:=by
 intro p q u v q1 q2 q3 hu hv;by_cases ep:p=k
 ·subst ep;rw[hx] at hu;injection hu with hu;subst hu;exact hp.2 q v (by omega) q3 (by omega) hv
 ·by_cases eq:q=k
  ·subst eq;rw[hx] at hv;injection hv with hv;subst hv;exact hp.1 p u q1 (by omega) ep hu
  ·exact h p q u v q1 q2 q3 ep eq hu hv
theorem sym_l9 {key:a0c→Int} (n:Nat) (a b i:Nat) (x:a0c):∀(c f k:Nat) (d:List a0c),k+c+1=i→c<f→a≤k→i≤b→b≤d.length→d.length≤1000000000000→d[k]? = some x→Exc key d a b k→Place key d a b k i x →
  ∃d',p0j n f (d,(i:Int),(k:Int),())=some (.inl (d',()))∧Mv d d' a b∧Srt key d' a b:=by
 intro c;induction c with
 | zero =>
  intro f k d hk hf ha hi hb hL hx h1 h2;obtain ⟨f,rfl⟩:∃g,f=g+1:=⟨f-1,by omega⟩;rw[s0s];rw[wn (x:=(i:Int)-1) (k:=k) (by omega) (by omega)];simp only[tfd,if_neg (show ¬((k:Int)<(k:Int)) by omega)];exact ⟨d,rfl,.refl _ _ _,a2s h1 h2 hx (by omega)⟩
 | succ c ih =>
  intro f k d hk hf ha hi hb hL hx h1 h2;obtain ⟨f,rfl⟩:∃g,f=g+1:=⟨f-1,by omega⟩;rw[s0s];have lk:k+1<d.length:=by omega
  have gy:d[k+1]? = some d[k+1]:=List.getElem?_eq_getElem lk;have g1:(d.set k d[k+1])[k+1]? = some d[k+1]:=by rw[List.getElem?_set_ne (by omega)];exact gy
  rw[wn (x:=(i:Int)-1) (k:=i-1) (by omega) (by omega),wn (x:=(k:Int)+1) (k:=k+1) (by omega) (by omega)];simp only[tfd,if_pos (show ((k:Int)<((i-1:Nat):Int)) by omega),w0r,Int.toNat_natCast,gy,hx,g1,obs];have sg:=m0j hx gy;have mv:=m1u (a:=a) (b:=b) hx gy (by omega) (by omega) (by omega) (by omega);obtain ⟨d',r1,r2,r3⟩:=ih f (k+1) ((d.set k d[k+1]).set (k+1) x) (by omega) (by omega) (by omega) hi (by simpa using hb) (by simpa using hL)
   (by rw[sg,if_pos rfl]) (r1t (.inl rfl) (by omega) (by omega) hx gy h1)
   ⟨fun p z p1 p2 p3 hz=>by
    rw[sg,if_neg p3] at hz;by_cases e:p=k
    ·rw[if_pos e] at hz;injection hz with hz;subst hz;exact h2.1 (k+1) _ (by omega) (by omega) (by omega) gy
    ·rw[if_neg e] at hz;exact h2.1 p z p1 p2 e hz,
    fun p z p1 p2 p3 hz=>by
     rw[sg,if_neg p3,if_neg (by omega)] at hz
     exact h2.2 p z p1 p2 (by omega) hz⟩
  exact ⟨d',r1,mv.trans r2,r3⟩
theorem sym_l21 {key:a0c→Int} (n:Nat) (a b i:Nat) (x:a0c):∀(c f k:Nat) (d:List a0c),i+c=k→c<f→a≤i→k<b→b≤d.length→d.length≤1000000000000→d[k]? = some x→Exc key d a b k→Place key d a b k i x →
  ∃d',m0m n f (d,(i:Int),(k:Int),())=some (.inl (d',()))∧Mv d d' a b∧Srt key d' a b:=by
 intro c;induction c with
 | zero =>
  intro f k d hk hf ha hi hb hL hx h1 h2;obtain ⟨f,rfl⟩:∃g,f=g+1:=⟨f-1,by omega⟩;rw[q0r];simp only[tfd,if_neg (show ¬((i:Int)<(k:Int)) by omega)];exact ⟨d,rfl,.refl _ _ _,a2s h1 h2 hx (by omega)⟩
 | succ c ih =>
  intro f k d hk hf ha hi hb hL hx h1 h2;obtain ⟨f,rfl⟩:∃g,f=g+1:=⟨f-1,by omega⟩;obtain ⟨k,rfl⟩:∃g,k=g+1:=⟨k-1,by omega⟩;rw[q0r];have lk:k<d.length:=by omega
  have gy:d[k]? = some d[k]:=List.getElem?_eq_getElem lk;have g1:(d.set (k+1) d[k])[k]? = some d[k]:=by rw[List.getElem?_set_ne (by omega)];exact gy
  rw[wn (x:=((k+1:Nat):Int)-1) (k:=k) (by omega) (by omega)];simp only[tfd,if_pos (show ((i:Int)<((k+1:Nat):Int)) by omega),w0r,Int.toNat_natCast,gy,hx,g1,obs];have sg:=m0j hx gy;have mv:=m1u (a:=a) (b:=b) hx gy (by omega) (by omega) (by omega) (by omega);obtain ⟨d',r1,r2,r3⟩:=ih f k ((d.set (k+1) d[k]).set k x) (by omega) (by omega) (by omega) (by omega) (by simpa using hb) (by simpa using hL)
   (by rw[sg,if_pos rfl]) (r1t (.inr rfl) (by omega) (by omega) hx gy h1)
   ⟨fun p z p1 p2 p3 hz=>by
    rw[sg,if_neg p3,if_neg (by omega)] at hz;exact h2.1 p z p1 p2 (by omega) hz,
    fun p z p1 p2 p3 hz=>by
     rw[sg,if_neg p3] at hz;by_cases e:p=k+1
     ·rw[if_pos e] at hz;injection hz with hz;subst hz;exact h2.2 k _ (by omega) (by omega) (by omega) gy
     ·rw[if_neg e] at hz;exact h2.2 p z p1 p2 e hz⟩
  exact ⟨d',r1,mv.trans r2,r3⟩
section
variable {cmp:(a0c×(a0c×Unit))→Option Int} {key:a0c→Int} (hc:Cmp cmp key)
include hc
theorem x1c (n:Nat) (a b mid n_:Int) (m p:Int) (mn bn pn:Nat) (an:Nat) (hp:p=pn) (d:List a0c) (hL:d.length≤1000000000000) (h1:Srt key d an mn) (h2:Srt key d mn bn) (hb:bn≤d.length) (lo hi:Nat)
  (hlo:an≤lo) (hhi:hi≤mn) (hq:∀c,lo≤c→c<hi→c≤pn∧mn≤pn-c∧pn-c<bn):∀(k f i j:Nat),j-i≤k→k<f→i≤j→lo≤i→j≤hi →
  (∀c x y,lo≤c→c<i→d[c]? = some x→d[pn-c]? = some y→key x≤key y)→(∀c x y,j≤c→c<hi→d[c]? = some x→d[pn-c]? = some y→key y<key x) →
  ∃r:Nat,g0r n f (d,a,m,b,cmp,mid,n_,(i:Int),(j:Int),p,())=some (.inl (d,a,m,b,cmp,mid,n_,(r:Int),()))∧lo≤r∧r≤hi ∧
   (∀c x y,lo≤c→c<r→d[c]? = some x→d[pn-c]? = some y→key x≤key y)∧(∀c x y,r≤c→c<hi→d[c]? = some x→d[pn-c]? = some y→key y<key x):=by
 subst hp;have le1:∀ {i j x y},an≤i→i≤j→j<mn→d[i]? = some x→d[j]? = some y→key x≤key y:=by
  intro i j x y q1 q2 q3 hx hy;rcases Nat.lt_or_eq_of_le q2 with q | q
  ·exact h1 i j x y q1 q q3 hx hy
  ·subst q;rw[hx] at hy;injection hy with hy;subst hy;exact Int.le_refl _
 have le2:∀ {i j x y},mn≤i→i≤j→j<bn→d[i]? = some x→d[j]? = some y→key x≤key y:=by
  intro i j x y q1 q2 q3 hx hy;rcases Nat.lt_or_eq_of_le q2 with q | q
  ·exact h2 i j x y q1 q q3 hx hy
  ·subst q;rw[hx] at hy;injection hy with hy;subst hy;exact Int.le_refl _
 intro k;induction k with
 | zero =>
  intro f i j hk hf hij hi' hj g1 g2;obtain ⟨f,rfl⟩:∃g,f=g+1:=⟨f-1,by omega⟩;rw[q0q];simp only[tfd,if_neg (show ¬((i:Int)<(j:Int)) by omega)];have e:i=j:=by omega
  subst e;exact ⟨i,rfl,hi',hj,g1,g2⟩
 | succ k ih =>
  intro f i j hk hf hij hi' hj g1 g2;obtain ⟨f,rfl⟩:∃g,f=g+1:=⟨f-1,by omega⟩;rw[q0q];by_cases lt:i<j
  ·generalize hcc:(i+j) / 2=c;have hq':=hq c (by omega) (by omega);have e1:=x0s i j (by omega);rw[hcc] at e1;have e2:IntKind.wrap .i64 ((pn:Int)-(c:Int))=((pn-c:Nat):Int):=wn (by omega) (by omega);obtain ⟨v,hcm,hlt⟩:=hc d[pn-c] d[c];have gc:d[c]? = some d[c]:=List.getElem?_eq_getElem (by omega);have gp:d[pn-c]? = some d[pn-c]:=List.getElem?_eq_getElem (by omega);simp only[tfn,tfd,if_pos (show ((i:Int)<(j:Int)) by omega),e1,e2,w0r,Int.toNat_natCast,gc,gp,obs,hcm];by_cases hlt':v<0
   ·have kl:=hlt.1 hlt';simp only[if_pos hlt'];refine ih f i c (by omega) (by omega) (by omega) hi' (by omega) g1 (fun q x y p1 p2 hx hy => ?_);have hq2:=hq q (by omega) (by omega);have:=le1 (i:=c) (j:=q) (by omega) p1 (by omega) gc hx;have:=le2 (i:=pn-q) (j:=pn-c) (by omega) (by omega) (by omega) hy gp;omega
   ·have kl:key d[c]≤key d[pn-c]:=by have:=mt hlt.2 hlt';omega
    simp only[if_neg hlt'];rw[wn (x:=(c:Int)+1) (k:=c+1) (by omega) (by omega)];refine ih f (c+1) j (by omega) (by omega) (by omega) (by omega) hj (fun q x y p1 p2 hx hy => ?_) g2;have hq2:=hq q (by omega) (by omega);have:=le1 (i:=q) (j:=c) (by omega) (by omega) (by omega) hx gc;have:=le2 (i:=pn-c) (j:=pn-q) (by omega) (by omega) (by omega) gp hy;omega
  ·simp only[tfd,if_neg (show ¬((i:Int)<(j:Int)) by omega)];have e:i=j:=by omega
   subst e;exact ⟨i,rfl,hi',hj,g1,g2⟩
theorem y0k:∀(dd n:Nat) (a m b:Int) (an mn bn:Nat) (d:List a0c),a=an→m=mn→b=bn→an<mn→mn<bn→bn≤d.length→d.length≤1000000000000→bn-an≤2^dd→Srt key d an mn→Srt key d mn bn →
  ∃d',b0j (n+dd+2) d a m b cmp=some d'∧Mv d d' an bn∧Srt key d' an bn:=by
 intro dd;induction dd with
 | zero=>intro n a m b an mn bn d ha hm hb h1 h2 hl hL hd;simp at hd;omega
 | succ dd ih =>
  intro n a m b an mn bn d ha hm hb h1 h2 hl hL hd s1 s2;subst ha hm hb;rw[show n+(dd+1)+2=(n+dd+2)+1 by omega,t1a];rw[wn (x:=(mn:Int)-an) (k:=mn-an) (by omega) (by omega),wn (x:=(bn:Int)-mn) (k:=bn-mn) (by omega) (by omega)];simp only[tif_tif];simp only[tfd];have gm:d[mn]? = some d[mn]:=List.getElem?_eq_getElem (by omega);have ga:d[an]? = some d[an]:=List.getElem?_eq_getElem (by omega);by_cases c1:((mn-an:Nat):Int)=1
  ·rw[if_pos c1];have e:mn=an+1:=by omega
   obtain ⟨r,r1,r2,r3,r4,r5⟩:=sym_l3 hc (n+dd+2) (an:Int) an rfl d d[an] ga hL mn bn s2 hl (bn-mn) a0b mn bn (by omega) (by unfold a0b;omega) (by omega) (by omega) (by omega) (fun p y p1 p2=>by omega) (fun p y p1 p2=>by omega);rw[r1];simp only[obs,b0g];obtain ⟨d',t1,t2,t3⟩:=sym_l9 (key:=key) (n+dd+2) an bn r d[an] (r-an-1) a0b an d (by omega) (by unfold a0b;omega) (by omega) r3 hl hL ga
    (fun p q x y p1 p2 p3 p4 p5 hx hy=>s2 p q x y (by omega) p2 p3 hx hy)
    ⟨fun p z p1 p2 p3 hz=>Int.le_of_lt (r4 p z (by omega) p2 hz),fun p z p1 p2 p3 hz=>r5 p z p1 p2 hz⟩
   rw[t1];exact ⟨d',by simp,t2,t3⟩
  rw[if_neg c1];by_cases c2:((bn-mn:Nat):Int)=1
  ·rw[if_pos c2];obtain ⟨r,r1,r2,r3,r4,r5⟩:=sym_l15 hc (n+dd+2) (mn:Int) mn rfl d d[mn] gm hL an mn s1 (by omega) (mn-an) a0b an mn (by omega) (by unfold a0b;omega) (by omega) (by omega) (by omega) (fun p y p1 p2=>by omega) (fun p y p1 p2=>by omega);rw[r1];simp only[obs,b0g];obtain ⟨d',t1,t2,t3⟩:=sym_l21 (key:=key) (n+dd+2) an bn r d[mn] (mn-r) a0b mn d (by omega) (by unfold a0b;omega) (by omega) (by omega) hl hL gm
    (fun p q x y p1 p2 p3 p4 p5 hx hy=>s1 p q x y (by omega) p2 (by omega) hx hy)
    ⟨fun p z p1 p2 p3 hz=>r4 p z p1 p2 hz,fun p z p1 p2 p3 hz=>Int.le_of_lt (r5 p z p1 (by omega) hz)⟩
   rw[t1];exact ⟨d',by simp,t2,t3⟩
  rw[if_neg c2,x0s an bn (by omega)];generalize hmid:(an+bn) / 2=mid;have hpow:2^(dd+1)=2^dd*2:=Nat.pow_succ 2 dd;generalize 2^dd=P at *
  rw[wn (x:=(mid:Int)+mn) (k:=mid+mn) (by omega) (by omega)];have fin:∀s:Nat,an≤s→s≤mn→mn≤mid+mn-s→mid+mn-s≤bn→s≤mid →
    (∀x y,an<s→mid+mn-s<bn→d[s-1]? = some x→d[mid+mn-s]? = some y→key x≤key y) →
    (∀x y,s<mn→mn<mid+mn-s→d[mid+mn-s-1]? = some x→d[s]? = some y→key x≤key y) →
    ∃d',(if (s:Int)<(mn:Int)∧(mn:Int)<((mid+mn-s:Nat):Int) then
      a0a (y0r (n+dd+2) d (s:Int) (mn:Int) ((mid+mn-s:Nat):Int) cmp) fun r14 =>
       if (an:Int)<(s:Int)∧(s:Int)<(mid:Int) then
        a0a (b0j (n+dd+2) r14 (an:Int) (s:Int) (mid:Int) cmp) fun r15 =>
         if (mid:Int)<((mid+mn-s:Nat):Int)∧((mid+mn-s:Nat):Int)<(bn:Int) then a0a (b0j (n+dd+2) r15 (mid:Int) ((mid+mn-s:Nat):Int) (bn:Int) cmp) fun r16=>some r16
         else some r15
       else if (mid:Int)<((mid+mn-s:Nat):Int)∧((mid+mn-s:Nat):Int)<(bn:Int) then a0a (b0j (n+dd+2) r14 (mid:Int) ((mid+mn-s:Nat):Int) (bn:Int) cmp) fun r17=>some r17
        else some r14
     else if (an:Int)<(s:Int)∧(s:Int)<(mid:Int) then
       a0a (b0j (n+dd+2) d (an:Int) (s:Int) (mid:Int) cmp) fun r15 =>
        if (mid:Int)<((mid+mn-s:Nat):Int)∧((mid+mn-s:Nat):Int)<(bn:Int) then a0a (b0j (n+dd+2) r15 (mid:Int) ((mid+mn-s:Nat):Int) (bn:Int) cmp) fun r16=>some r16
        else some r15
       else if (mid:Int)<((mid+mn-s:Nat):Int)∧((mid+mn-s:Nat):Int)<(bn:Int) then a0a (b0j (n+dd+2) d (mid:Int) ((mid+mn-s:Nat):Int) (bn:Int) cmp) fun r17=>some r17
        else some d)=some d'∧Mv d d' an bn∧Srt key d' an bn:=by
   intro s k1 k2 k3 k4 k5 q1 q2;generalize he:mid+mn-s=e at *
   have tail : ∀ d1, Turned d d1 s mn e → ∃ d', (if (an : Int) < (s : Int) ∧ (s : Int) < (mid : Int) then
             a0a (b0j (n+dd+2) d1 (an:Int) (s:Int) (mid:Int) cmp) fun r15 =>
              if (mid:Int)<((e:Nat):Int)∧((e:Nat):Int)<(bn:Int) then a0a (b0j (n+dd+2) r15 (mid:Int) ((e:Nat):Int) (bn:Int) cmp) fun r16=>some r16
              else some r15
     else if (mid:Int)<((e:Nat):Int)∧((e:Nat):Int)<(bn:Int) then a0a (b0j (n+dd+2) d1 (mid:Int) ((e:Nat):Int) (bn:Int) cmp) fun r17=>some r17
      else some d1)=some d'∧Mv d d' an bn∧Srt key d' an bn:=by
    intro d1 t;obtain ⟨⟨w1,w2,w3,w4⟩,cr⟩:=halves (a:=an) (b:=bn) (mid:=mid) s1 s2 t k1 k2 k3 k4 (by omega) hl q1 q2;have l1:=t.mv.len;have m1:Mv d d1 an bn:=t.mv.mono k1 k4;have half1:∃d2,(((an:Int)<(s:Int)∧(s:Int)<(mid:Int))→b0j (n+dd+2) d1 (an:Int) (s:Int) (mid:Int) cmp=some d2)∧(¬((an:Int)<(s:Int)∧(s:Int)<(mid:Int))→d2=d1)∧Mv d1 d2 an mid∧Srt key d2 an mid:=by
     by_cases c:(an:Int)<(s:Int)∧(s:Int)<(mid:Int)
     ·obtain ⟨d2,t1,t2,t3⟩:=ih n (an:Int) (s:Int) (mid:Int) an s mid d1 rfl rfl rfl (by omega) (by omega) (by omega) (by omega) (by omega) w1 w2;exact ⟨d2,fun _=>t1,fun h=>absurd c h,t2,t3⟩
     ·refine ⟨d1,fun h=>absurd h c,fun _=>rfl,.refl _ _ _,?_⟩;by_cases c':an<s
      ·have:s=mid:=by omega
       subst this;exact w1
      ·have:s=an:=by omega
       subst this;exact w2
    obtain ⟨d2,u1,u2,u3,u4⟩:=half1;have l2:=u3.len;have w3':=w3.keep u3 (.inr (Nat.le_refl _));have w4':=w4.keep u3 (.inr (by omega));have cr2:=r1x cr (.inl u3);have half2:∃d3,(((mid:Int)<(e:Int)∧(e:Int)<(bn:Int))→b0j (n+dd+2) d2 (mid:Int) (e:Int) (bn:Int) cmp=some d3)∧(¬((mid:Int)<(e:Int)∧(e:Int)<(bn:Int))→d3=d2)∧Mv d2 d3 mid bn∧Srt key d3 mid bn:=by
     by_cases c:(mid:Int)<(e:Int)∧(e:Int)<(bn:Int)
     ·obtain ⟨d3,t1,t2,t3⟩:=ih n (mid:Int) (e:Int) (bn:Int) mid e bn d2 rfl rfl rfl (by omega) (by omega) (by omega) (by omega) (by omega) w3' w4';exact ⟨d3,fun _=>t1,fun h=>absurd c h,t2,t3⟩
     ·refine ⟨d2,fun h=>absurd h c,fun _=>rfl,.refl _ _ _,?_⟩;by_cases c':mid<e
      ·have:e=bn:=by omega
       rw[this] at w3';exact w3'
      ·have:e=mid:=by omega
       rw[this] at w4';exact w4'
    obtain ⟨d3,v1,v2,v3,v4⟩:=half2;have fin3:Mv d d3 an bn∧Srt key d3 an bn :=
     ⟨(m1.trans (u3.mono (Nat.le_refl _) (by omega))).trans (v3.mono (by omega) (Nat.le_refl _)),Srt.join (u4.keep v3 (.inl (Nat.le_refl _))) v4 (r1x cr2 (.inr v3))⟩
    refine ⟨d3,?_,fin3⟩;by_cases c:(an:Int)<(s:Int)∧(s:Int)<(mid:Int)
    ·rw[if_pos c,u1 c,obs];by_cases c':(mid:Int)<(e:Int)∧(e:Int)<(bn:Int)
     ·rw[if_pos c',v1 c',obs]
     ·rw[if_neg c',v2 c']
    ·rw[if_neg c];obtain rfl:=u2 c;by_cases c':(mid:Int)<(e:Int)∧(e:Int)<(bn:Int)
     ·rw[if_pos c',v1 c',obs]
     ·rw[if_neg c',v2 c']
   by_cases c:(s:Int)<(mn:Int)∧(mn:Int)<(e:Int)
   ·obtain ⟨d1,t1,t2⟩:=y1b (cmp:=cmp) (n+dd) (s:Int) (mn:Int) (e:Int) s mn e rfl rfl rfl d (by omega) (by omega) (by omega) hL;rw[if_pos c,t1,obs];exact tail d1 t2
   ·rw[if_neg c];exact tail d (turned_refl d (by omega))
  by_cases c3:(mid:Int)<(mn:Int)
  ·rw[if_pos c3,wn (x:=((mid+mn:Nat):Int)-bn) (k:=mid+mn-bn) (by omega) (by omega),wn (x:=((mid+mn:Nat):Int)-1) (k:=mid+mn-1) (by omega) (by omega)];obtain ⟨r,r1,r2,r3,r4,r5⟩:=x1c hc (n+dd+2) (an:Int) (bn:Int) (mid:Int) ((mid+mn:Nat):Int) (mn:Int) ((mid+mn-1:Nat):Int) mn bn (mid+mn-1) an rfl d hL s1 s2 hl (mid+mn-bn) mid (by omega) (by omega)
    (fun c h1 h2=>by omega) (mid-(mid+mn-bn)) a0b (mid+mn-bn) mid (by omega) (by unfold a0b;omega) (by omega) (by omega) (by omega) (fun c x y h1 h2=>by omega) (fun c x y h1 h2=>by omega)
   rw[r1];simp only[obs,b0g,wn (x:=((mid+mn:Nat):Int)-(r:Int)) (k:=mid+mn-r) (by omega) (by omega)];refine fin r (by omega) (by omega) (by omega) (by omega) (by omega) (fun x y h1 h2 hx hy => ?_) (fun x y h1 h2 hx hy => ?_)
   ·refine r4 (r-1) x y (by omega) (by omega) hx ?_;rw[show mid+mn-1-(r-1)=mid+mn-r by omega];exact hy
   ·refine Int.le_of_lt (r5 r y x (by omega) (by omega) hy ?_);rw[show mid+mn-1-r=mid+mn-r-1 by omega];exact hx
  ·rw[if_neg c3,wn (x:=((mid+mn:Nat):Int)-1) (k:=mid+mn-1) (by omega) (by omega)];obtain ⟨r,r1,r2,r3,r4,r5⟩:=x1c hc (n+dd+2) (an:Int) (bn:Int) (mid:Int) ((mid+mn:Nat):Int) (mn:Int) ((mid+mn-1:Nat):Int) mn bn (mid+mn-1) an rfl d hL s1 s2 hl an mn (by omega) (by omega)
    (fun c h1 h2=>by omega) (mn-an) a0b an mn (by omega) (by unfold a0b;omega) (by omega) (by omega) (by omega) (fun c x y h1 h2=>by omega) (fun c x y h1 h2=>by omega)
   rw[r1];simp only[obs,b0g,wn (x:=((mid+mn:Nat):Int)-(r:Int)) (k:=mid+mn-r) (by omega) (by omega)];refine fin r (by omega) (by omega) (by omega) (by omega) (by omega) (fun x y h1 h2 hx hy => ?_) (fun x y h1 h2 hx hy => ?_)
   ·refine r4 (r-1) x y (by omega) (by omega) hx ?_;rw[show mid+mn-1-(r-1)=mid+mn-r by omega];exact hy
   ·refine Int.le_of_lt (r5 r y x (by omega) (by omega) hy ?_);rw[show mid+mn-1-r=mid+mn-r-1 by omega];exact hx
end
def Runs (key:a0c→Int) (d:List a0c) (B N:Nat):Prop:=∀c,B ∣ c→Srt key d c (min (c+B) N)
theorem i0w {B a c:Nat} (ha:B ∣ a) (hc:B ∣ c) (h:a<c):a+B≤c:=by
 obtain ⟨x,rfl⟩:=ha;obtain ⟨y,rfl⟩:=hc;have:x<y:=Nat.lt_of_mul_lt_mul_left h
 calc B*x+B=B*(x+1):=by rw[Nat.mul_succ]
  _≤B*y:=Nat.mul_le_mul_left B this
section
variable {cmp:(a0c×(a0c×Unit))→Option Int} {key:a0c→Int} (hc:Cmp cmp key)
include hc
theorem x1l (n:Nat) (N:Nat) (n_:Int) (hn:n_=N):∀(k f a:Nat) (d:List a0c),N-a≤k→k<f→20 ∣ a→a≤N→N=d.length→d.length≤100000000000→(∀c,20 ∣ c→c<a→Srt key d c (min (c+20) N)) →
  ∃d' a',l0d (n+1) f (d,n_,cmp,(20:Int),(a:Int),((a+20:Nat):Int),())=some (.inl (d',n_,cmp,(20:Int),((a':Nat):Int),()))∧20 ∣ a'∧a'≤N∧N<a'+20∧Mv d d' 0 N ∧
   (∀c,20 ∣ c→c<a'→Srt key d' c (min (c+20) N)):=by
 subst hn;intro k;induction k with
 | zero =>
  intro f a d hk hf h20 haN hN hL hs;obtain ⟨f,rfl⟩:∃g,f=g+1:=⟨f-1,by omega⟩;rw[s0x];simp only[tfd,if_neg (show ¬(((a+20:Nat):Int)≤(N:Int)) by omega)];exact ⟨d,a,rfl,h20,haN,by omega,.refl _ _ _,hs⟩
 | succ k ih =>
  intro f a d hk hf h20 haN hN hL hs;obtain ⟨f,rfl⟩:∃g,f=g+1:=⟨f-1,by omega⟩;rw[s0x];by_cases hle:a+20≤N
  ·obtain ⟨d1,r1,r2,r3⟩:=ins_ok hc n (a:Int) ((a+20:Nat):Int) a (a+20) rfl rfl d (by omega) (by omega) (by omega);have l1:=r2.len;simp only[tfd,if_pos (show (((a+20:Nat):Int)≤(N:Int)) by omega),r1,obs];rw[wn (x:=((a+20:Nat):Int)+20) (k:=a+20+20) (by omega) (by omega)];obtain ⟨d',a',s1,s2,s3,s4,s5,s6⟩:=ih f (a+20) d1 (by omega) (by omega) (by omega) (by omega) (by omega) (by omega) (fun c c1 c2=>by
    by_cases e:c<a
    ·have:=i0w c1 h20 e;exact (hs c c1 e).keep r2 (.inl (by omega))
    ·have:c=a:=by
      rcases Nat.lt_or_eq_of_le (Nat.le_of_not_lt e) with h | h
      ·have:=i0w h20 c1 h;omega
      ·exact h.symm
     subst this;rw[Nat.min_eq_left (by omega)]
     exact r3)
   exact ⟨d',a',s1,s2,s3,s4,(r2.mono (by omega) (by omega)).trans s5,s6⟩
  ·simp only[tfd,if_neg (show ¬(((a+20:Nat):Int)≤(N:Int)) by omega)];exact ⟨d,a,rfl,h20,haN,by omega,.refl _ _ _,hs⟩
theorem x1j (n dd:Nat) (N B:Nat) (n_:Int) (hn:n_=N) (hB:0<B) (hBN:B<N) (hdd:N≤2^dd):∀(k f a:Nat) (d:List a0c),N-a≤k→k<f→2*B ∣ a→a≤N→N=d.length→d.length≤100000000000 →
  (∀c,2*B ∣ c→c<a→Srt key d c (min (c+2*B) N))→(∀c,B ∣ c→a≤c→Srt key d c (min (c+B) N)) →
  ∃d' a',p0l (n+dd+2) f (d,n_,cmp,(B:Int),(a:Int),((a+2*B:Nat):Int),())=some (.inl (d',n_,cmp,(B:Int),((a':Nat):Int),()))∧2*B ∣ a'∧a'≤N∧N<a'+2*B∧Mv d d' 0 N ∧
   (∀c,2*B ∣ c→c<a'→Srt key d' c (min (c+2*B) N))∧(∀c,B ∣ c→a'≤c→Srt key d' c (min (c+B) N)):=by
 subst hn;have dB:B ∣ 2*B:=⟨2,by omega⟩;intro k;induction k with
 | zero =>
  intro f a d hk hf h20 haN hN hL hs hs';obtain ⟨f,rfl⟩:∃g,f=g+1:=⟨f-1,by omega⟩;rw[s0v];simp only[tfd,if_neg (show ¬(((a+2*B:Nat):Int)≤(N:Int)) by omega)];exact ⟨d,a,rfl,h20,haN,by omega,.refl _ _ _,hs,hs'⟩
 | succ k ih =>
  intro f a d hk hf h20 haN hN hL hs hs';obtain ⟨f,rfl⟩:∃g,f=g+1:=⟨f-1,by omega⟩;rw[s0v];by_cases hle:a+2*B≤N
  ·have ba:B ∣ a:=Nat.dvd_trans dB h20;have q1:=hs' a ba (Nat.le_refl _);have q2:=hs' (a+B) (Nat.dvd_add ba (Nat.dvd_refl _)) (by omega);rw[Nat.min_eq_left (by omega)] at q1 q2;rw[wn (x:=(a:Int)+B) (k:=a+B) (by omega) (by omega)];obtain ⟨d1,r1,r2,r3⟩:=y0k hc dd n (a:Int) ((a+B:Nat):Int) ((a+2*B:Nat):Int) a (a+B) (a+2*B) d rfl rfl rfl (by omega) (by omega) (by omega) (by omega) (by omega) q1 (q2.mono (by omega) (by omega));have l1:=r2.len;simp only[tfd,if_pos (show (((a+2*B:Nat):Int)≤(N:Int)) by omega),r1,obs]
   rw[wn (x:=2*(B:Int)) (k:=2*B) (by omega) (by omega),wn (x:=((a+2*B:Nat):Int)+((2*B:Nat):Int)) (k:=a+2*B+2*B) (by omega) (by omega)];obtain ⟨d',a',s1,s2,s3,s4,s5,s6,s7⟩:=ih f (a+2*B) d1 (by omega) (by omega) (Nat.dvd_add h20 (Nat.dvd_refl _)) (by omega) (by omega) (by omega) (fun c c1 c2=>by
    by_cases e:c<a
    ·have:=i0w c1 h20 e;exact (hs c c1 e).keep r2 (.inl (by omega))
    ·have:c=a:=by
      rcases Nat.lt_or_eq_of_le (Nat.le_of_not_lt e) with h | h
      ·have:=i0w h20 c1 h;omega
      ·exact h.symm
     subst this;rw[Nat.min_eq_left (by omega)]
     exact r3)
    (fun c c1 c2=>(hs' c c1 (by omega)).keep r2 (.inr (by omega)))
   exact ⟨d',a',s1,s2,s3,s4,(r2.mono (by omega) (by omega)).trans s5,s6,s7⟩
  ·simp only[tfd,if_neg (show ¬(((a+2*B:Nat):Int)≤(N:Int)) by omega)];exact ⟨d,a,rfl,h20,haN,by omega,.refl _ _ _,hs,hs'⟩
theorem x1k (n dd:Nat) (N:Nat) (n_:Int) (hn:n_=N) (hdd:N≤2^dd):∀(k f B:Nat) (d:List a0c),N-B≤k→k<f→0<B→B≤200000000000→N=d.length→d.length≤100000000000→Runs key d B N →
  ∃d',j0c (n+dd+2) f (d,n_,cmp,(B:Int),())=some (.inl (d',()))∧Mv d d' 0 N∧Srt key d' 0 N:=by
 subst hn;intro k;induction k with
 | zero =>
  intro f B d hk hf hB hBl hN hL hs;obtain ⟨f,rfl⟩:∃g,f=g+1:=⟨f-1,by omega⟩;rw[s0w];simp only[tfd,if_neg (show ¬((B:Int)<(N:Int)) by omega)];have:=hs 0 (Nat.dvd_zero _);rw[Nat.min_eq_right (by omega)] at this;exact ⟨d,rfl,.refl _ _ _,this⟩
 | succ k ih =>
  intro f B d hk hf hB hBl hN hL hs;obtain ⟨f,rfl⟩:∃g,f=g+1:=⟨f-1,by omega⟩;rw[s0w];by_cases hlt:B<N
  ·obtain ⟨d1,a,r1,r2,r3,r4,r5,r6,r7⟩:=x1j hc n dd N B (N:Int) rfl hB hlt hdd N a0b 0 d (by omega) (by unfold a0b;omega) (Nat.dvd_zero _) (by omega) hN hL (fun c _ h=>by omega) (fun c h _=>hs c h);have l1:=r5.len;rw[Nat.zero_add] at r1;simp only[tfd,if_pos (show ((B:Int)<(N:Int)) by omega),wn (x:=2*(B:Int)) (k:=2*B) (by omega) (by omega)];rw[show ((0:Int))=((0:Nat):Int) from rfl,r1];simp only[obs,b0g,wn (x:=(a:Int)+B) (k:=a+B) (by omega) (by omega),wn (x:=(B:Int)*2) (k:=2*B) (by omega) (by omega)];have dB:B ∣ 2*B:=⟨2,by omega⟩;have ba:B ∣ a:=Nat.dvd_trans dB r2
   by_cases hm:a+B<N
   ·have q1:=r7 a ba (Nat.le_refl _);have q2:=r7 (a+B) (Nat.dvd_add ba (Nat.dvd_refl _)) (by omega);rw[Nat.min_eq_left (by omega)] at q1;rw[Nat.min_eq_right (by omega)] at q2;obtain ⟨d2,t1,t2,t3⟩:=y0k hc dd n (a:Int) ((a+B:Nat):Int) (N:Int) a (a+B) N d1 rfl rfl rfl (by omega) (by omega) (by omega) (by omega) (by omega) q1 q2;have l2:=t2.len;simp only[if_pos (show (((a+B:Nat):Int)<(N:Int)) by omega),t1,obs];obtain ⟨d3,u1,u2,u3⟩:=ih f (2*B) d2 (by omega) (by omega) (by omega) (by omega) (by omega) (by omega) (fun c hcd=>by
     by_cases e:c<a
     ·have:=i0w hcd r2 e;exact (r6 c hcd e).keep t2 (.inl (by omega))
     ·by_cases e':c=a
      ·subst e';exact t3.mono (Nat.le_refl _) (by omega)
      ·have:=i0w r2 hcd (by omega)
       exact Srt.one _ _ (by omega))
    exact ⟨d3,u1,(r5.trans (t2.mono (by omega) (by omega))).trans u2,u3⟩
   ·simp only[if_neg (show ¬(((a+B:Nat):Int)<(N:Int)) by omega)];obtain ⟨d3,u1,u2,u3⟩:=ih f (2*B) d1 (by omega) (by omega) (by omega) (by omega) (by omega) (by omega) (fun c hcd=>by
     by_cases e:c<a
     ·exact r6 c hcd e
     ·by_cases e':c=a
      ·subst e';have q1:=r7 c ba (Nat.le_refl _);exact q1.mono (Nat.le_refl _) (by omega)
      ·have:=i0w r2 hcd (by omega)
       exact Srt.one _ _ (by omega))
    exact ⟨d3,u1,r5.trans u2,u3⟩
  ·simp only[tfd,if_neg (show ¬((B:Int)<(N:Int)) by omega)];have:=hs 0 (Nat.dvd_zero _);rw[Nat.min_eq_right (by omega)] at this;exact ⟨d,rfl,.refl _ _ _,this⟩
theorem f1c (n dd:Nat) (d:List a0c) (hL:d.length≤2^dd) (hL':d.length≤100000000000) :
  ∃d',e0j (n+dd+4) d cmp=some d'∧d'.Perm d∧Srt key d' 0 d.length:=by
 rw[k0q,t1c];obtain ⟨d1,a,r1,r2,r3,r4,r5,r6⟩:=x1l hc (n+dd+1) d.length (d.length:Int) rfl d.length a0b 0 d (by omega) (by unfold a0b;omega) (Nat.dvd_zero _) (by omega) rfl hL' (fun c _ h=>by omega);have l1:=r5.len;obtain ⟨d2,s1,s2,s3⟩:=ins_ok hc (n+dd+1) (a:Int) (d.length:Int) a d.length rfl rfl d1 r3 (by omega) (by omega);have l2:=s2.len;obtain ⟨d3,t1,t2,t3⟩:=x1k hc n dd d.length (d.length:Int) rfl hL d.length a0b 20 d2 (by omega) (by unfold a0b;omega) (by omega) (by omega) (by omega) (by omega) (fun c hcd=>by
  by_cases e:c<a
  ·have:=i0w hcd r2 e;exact (r6 c hcd e).keep s2 (.inl (by omega))
  ·by_cases e':c=a
   ·subst e';exact s3.mono (Nat.le_refl _) (by omega)
   ·have:=i0w r2 hcd (by omega)
    exact Srt.one _ _ (by omega))
 have r1':l0d (n+dd+2) a0b (d,((d.length:Nat):Int),cmp,(20:Int),(0:Int),(20:Int),())=_:=r1;rw[r1'];simp only[obs,b0g,s1];have t1':j0c (n+dd+2) a0b (d2,((d.length:Nat):Int),cmp,(20:Int),())=_:=t1;rw[t1'];exact ⟨d3,by simp,(t2.perm.trans s2.perm).trans r5.perm,t3⟩
end
end Go.Proofs.YtkajechaanmplaaGreatDoor

namespace Go.Plim
set_option linter.unusedVariables false
abbrev Slo:=Int×Cel
instance decSlo:DecidableEq Slo := @instDecidableEqProd _ _ _ decCel
def s0:Slo:=(0,z0)
structure FitsP (c:Cel) (w i:Int):Prop where
 n:CellN c
 w0:1≤w
 w1:w≤1099511627776
 f:c.2.1.1 / w=i
 l:c.2.2.1.1 / w=i
theorem FitsP.i0 {c:Cel} {w i:Int} (h:FitsP c w i):0≤i∧i<35184372088832:=by
 obtain ⟨n,w0,w1,f,l⟩:=h;have h1:=n.f.t0;have h2:=n.f.t1;have:0≤c.2.1.1 / w:=Int.ediv_nonneg h1 (by omega);have:c.2.1.1 / w≤c.2.1.1:=Int.ediv_le_self _ h1;omega
structure TierOk (l:List Slo) (w:Int):Prop where
 l0:1≤l.length
 l1:l.length≤4096
 w0:1≤w
 w1:w≤1099511627776
 s:∀(j:Nat) s,l[j]? = some s→s=s0∨(s.1 % (l.length:Int)=j∧FitsP s.2 w s.1)
noncomputable instance (c w i):Decidable (FitsP c w i):=Classical.propDecidable _
noncomputable instance (l w):Decidable (TierOk l w):=Classical.propDecidable _
def Up (l:List Slo):Prop:=l.Pairwise fun a b=>a.1<b.1
theorem up_perm:∀ {a b:List Slo},Up a→Up b→a.Perm b→a=b:=by
 intro a;induction a with
 | nil=>intro b _ _ h;exact h.nil_eq
 | cons x a ih =>
  intro b ha hb h;cases b with
  | nil=>exact absurd h.length_eq (by simp)
  | cons y b =>
   unfold Up at *
   rw[List.pairwise_cons] at ha hb;have hx:x∈y::b:=h.subset (by simp);have hy:y∈x::a:=h.symm.subset (by simp);have e:x=y:=by
    rcases List.mem_cons.1 hx with e | hx
    ·exact e
    ·rcases List.mem_cons.1 hy with e | hy
     ·exact e.symm
     ·have:=hb.1 x hx;have:=ha.1 y hy;omega
   subst e;rw[ih ha.2 hb.2 (List.Perm.cons_inv h)]
def n0r (l:List Slo):List Slo:=l.filter fun s=>decide (s≠s0)
theorem TierOk.apart {l:List Slo} {w:Int} (h:TierOk l w):(n0r l).Pairwise fun a b=>a.1≠b.1:=by
 have key:∀(m:List Slo) (k:Nat),(∀(j:Nat) s,m[j]? = some s→s=s0∨s.1 % (l.length:Int)=((k+j:Nat):Int))→(n0r m).Pairwise fun a b=>a.1≠b.1:=by
  intro m;induction m with
  | nil=>intro k _;exact .nil
  | cons x m ih =>
   intro k hm;have ih':=ih (k+1) (fun j s hs=>by
    have:=hm (j+1) s hs
    rwa [show k+(j+1)=k+1+j by omega] at this)
   unfold n0r at *
   by_cases hx:x=s0
   ·rw[List.filter_cons_of_neg (by simp[hx])];exact ih'
   ·rw[List.filter_cons_of_pos (by simp[hx])];refine List.pairwise_cons.2 ⟨fun y hy => ?_,ih'⟩;have hy':=List.mem_filter.1 hy;obtain ⟨j,hj⟩:=List.getElem?_of_mem hy'.1;have h1:=(hm 0 x rfl).resolve_left hx;have h2:=(hm (j+1) y hj).resolve_left (by simpa using hy'.2);intro e;rw[e,h2] at h1;omega
 exact key l 0 (fun j s hs=>by
  rcases h.s j s hs with e | e
  ·exact .inl e
  ·exact .inr (by rw[e.1,Nat.zero_add]))
def tall (l:List Slo):List Slo:=(n0r l).mergeSort fun a b=>decide (a.1≤b.1)
theorem s0n (l:List Slo):(tall l).Perm (n0r l):=List.mergeSort_perm _ _
theorem up_of {l:List Slo} (h:l.Pairwise fun a b=>a.1≤b.1) (h':l.Pairwise fun a b=>a.1≠b.1):Up l:=by
 have:=h.and h';exact this.imp (fun {a b} k=>by have:=k.1;have:=k.2;omega)
theorem tall_up {l:List Slo} {w:Int} (h:TierOk l w):Up (tall l):=by
 refine up_of ?_ ((s0n l).pairwise_iff (fun {a b} k=>k.symm) |>.2 h.apart);have:=List.pairwise_mergeSort (le:=fun a b:Slo=>decide (a.1≤b.1)) (fun a b c h1 h2=>by simp at *;omega) (fun a b=>by simp;omega) (n0r l);exact this.imp (fun {a b} k=>by simpa using k)
theorem tall_eq {l r:List Slo} {w:Int} (h:TierOk l w) (hp:r.Perm (n0r l)) (hs:r.Pairwise fun a b=>a.1≤b.1):r=tall l:=by
 refine up_perm (up_of hs (hp.pairwise_iff (fun {a b} k=>k.symm) |>.2 h.apart)) (tall_up h) (hp.trans (s0n l).symm)
theorem p0v {l:List Slo} {s:Slo}:s∈tall l↔s∈l∧s≠s0:=by
 rw[(s0n l).mem_iff];simp[n0r]
theorem l0b {l:List Slo} {w:Int} (h:TierOk l w) {s:Slo} (hs:s∈tall l):FitsP s.2 w s.1∧l[(s.1 % (l.length:Int)).toNat]? = some s:=by
 obtain ⟨h1,h2⟩:=p0v.1 hs;obtain ⟨j,hj⟩:=List.getElem?_of_mem h1;obtain ⟨h3,h4⟩:=(h.s j s hj).resolve_left h2;refine ⟨h4,?_⟩;rw[h3];exact hj
def within (l:List Slo) (i k:Int):List Cel:=((tall l).filter fun s=>decide (i≤s.1∧s.1<k)).map (·.2)
def j1b (l:List Slo) (i k:Int):Cel×Int:=if i<0∨k<i then (z0,1) else allE z0 (within l i k)
def tput (l:List Slo) (i:Int) (c:Cel):List Slo:=l.set (i % (l.length:Int)).toNat (i,c)
theorem e1k {l:List Slo} {w i:Int} {c:Cel} (h:TierOk l w) (hf:FitsP c w i):TierOk (tput l i c) w:=by
 obtain ⟨l0,l1,w0,w1,hs⟩:=h;refine ⟨by simpa [tput] using l0,by simpa [tput] using l1,w0,w1,fun j s hj => ?_⟩;unfold tput at hj;have hi:=hf.i0;have hm:0≤i % (l.length:Int):=Int.emod_nonneg _ (by omega);rw[List.getElem?_set] at hj;simp only[tput,List.length_set];by_cases e:(i % (l.length:Int)).toNat=j
 ·rw[if_pos e] at hj;split at hj
  ·injection hj with hj;subst hj;exact .inr ⟨by simp only;omega,hf⟩
  ·cases hj
 ·rw[if_neg e] at hj;exact hs j s hj
end Go.Plim

namespace Go.Proofs.YtkajechaanmplaaGreatDoor
open Go.Flat Go.Plim
set_option linter.unusedVariables false
set_option linter.unusedSimpArgs false
structure SloW (s:Slo):Prop where
 i:I64 s.1
 c:CelW s.2
theorem sloEq (a b:Slo):((decide (a.1=b.1))&&((decide (a.2.1=b.2.1))&&((decide (a.2.2.1.1=b.2.2.1.1))&&((decide (a.2.2.1.2.1=b.2.2.1.2.1))&&((decide (a.2.2.1.2.2.1=b.2.2.1.2.2.1))&&((a.2.2.1.2.2.2==b.2.2.1.2.2.2)&&((decide (a.2.2.2.1.1=b.2.2.2.1.1))&&((decide (a.2.2.2.1.2.1=b.2.2.2.1.2.1))&&((decide (a.2.2.2.1.2.2.1=b.2.2.2.1.2.2.1))&&((a.2.2.2.1.2.2.2==b.2.2.2.1.2.2.2)&&((decide (a.2.2.2.2.1.1=b.2.2.2.2.1.1))&&((decide (a.2.2.2.2.1.2=b.2.2.2.2.1.2))&&((decide (a.2.2.2.2.2.1=b.2.2.2.2.2.1))&&((decide (a.2.2.2.2.2.2.1=b.2.2.2.2.2.2.1))&&(decide (a.2.2.2.2.2.2.2=b.2.2.2.2.2.2.2))))))))))))))))=decide (a=b):=by
 rw[celEq a.2 b.2,Bool.eq_iff_iff];simp[Prod.ext_iff]
theorem x1r (a:Slo):((decide (a.1=(0:Int)))&&((decide (a.2.1=(0:Int)))&&((decide (a.2.2.1.1=(0:Int)))&&((decide (a.2.2.1.2.1=(0:Int)))&&((decide (a.2.2.1.2.2.1=(0:Int)))&&((a.2.2.1.2.2.2==false)&&((decide (a.2.2.2.1.1=(0:Int)))&&((decide (a.2.2.2.1.2.1=(0:Int)))&&((decide (a.2.2.2.1.2.2.1=(0:Int)))&&((a.2.2.2.1.2.2.2==false)&&((decide (a.2.2.2.2.1.1=(0:Int)))&&((decide (a.2.2.2.2.1.2=(0:Int)))&&((decide (a.2.2.2.2.2.1=(0:Int)))&&((decide (a.2.2.2.2.2.2.1=(0:Int)))&&(decide (a.2.2.2.2.2.2.2=(0:Int)))))))))))))))))=decide (a=s0):=sloEq a s0
theorem wi_in (n:Nat) (x a b:Int):m0f (n+1) x a b=some (decide (a≤x∧x≤b)):=by
 rw[a1r];by_cases h1:a≤x<;>by_cases h2:x≤b<;>simp[h1,h2]
def OfP (t w:Int):Prop:=0≤t∧t<35184372088832∧1≤w∧w≤1099511627776
instance (t w:Int):Decidable (OfP t w):=by unfold OfP;infer_instance
theorem j1y {t w:Int} (h:OfP t w):0≤t / w∧t / w<35184372088832:=by
 obtain ⟨h1,h2,h3,h4⟩:=h;have:0≤t / w:=Int.ediv_nonneg h1 (by omega);have:t / w≤t:=Int.ediv_le_self _ h1;omega
theorem wi_of (n:Nat) (t w:Int):s1o (n+3) t w=some (if OfP t w then (t / w,0) else (0,1)):=by
 rw[wi_Of_eq,m1h,wi_in,wi_in];simp only[obs,tfn,tfd];by_cases h:OfP t w
 ·have hq:=j1y h;rw[if_pos h];obtain ⟨h1,h2,h3,h4⟩:=h;rw[if_pos (show (0:Int)≤t∧t≤35184372088831 by omega),if_pos (And.intro h3 h4),if_neg (show ¬(w=0) by omega),u0l h1,w64 (by omega) (by omega)]
 ·rw[if_neg h];by_cases h1:(0:Int)≤t∧t≤35184372088831
  ·rw[if_pos h1,if_neg (fun k=>h ⟨h1.1,by omega,k.1,k.2⟩)]
  ·rw[if_neg h1]
def c1g (i n:Int):Int:=if i<0 then 0 else if n<1 then 0 else i % n
theorem w1l (n:Nat) (i m:Int):e1i (n+1) i m=some (c1g i m):=by
 rw[s1n];simp only[tfd];unfold c1g;by_cases h1:i<0
 ·rw[if_pos h1,if_pos h1]
 by_cases h2:m<1
 ·rw[if_neg h1,if_neg h1,if_pos h2,if_pos h2]
 rw[if_neg h1,if_neg h1,if_neg h2,if_neg h2,if_neg (by omega),n0y (by omega)]
theorem u0q {i n:Int} (hi:0≤i) (hn:1≤n):c1g i n=i % n:=by
 unfold c1g;rw[if_neg (by omega),if_neg (by omega)]
theorem a2q (c:Cel) (w i:Int):FitsP c w i↔c≠z0∧c0p c∧OfP c.2.1.1 w∧c.2.1.1 / w=i∧OfP c.2.2.1.1 w∧c.2.2.1.1 / w=i:=by
 constructor
 ·rintro ⟨n,w0,w1,f,l⟩;exact ⟨n.ne,n.ok,⟨n.f.t0,n.f.t1,w0,w1⟩,f,⟨n.l.t0,n.l.t1,w0,w1⟩,l⟩
 ·rintro ⟨h1,h2,h3,h4,h5,h6⟩;exact ⟨h2.n h1,h3.2.2.1,h3.2.2.2,h4,h6⟩
theorem of01 (p:Prop) [Decidable p] (x:Int):((if p then (x,(0:Int)) else (0,1)).2=0)↔p:=by by_cases h:p<;>simp[h]
theorem a2n (n f:Nat) (w i:Int) (s:Int×Int):e0n n (f+1) (w,i,s,(2:Int),())=some (.inl ()):=by
 rw[j0l,show (decide ((2:Int)<2))=false from rfl,tff]
theorem a2o (n f:Nat) (w i:Int) (s:Int×Int):e0n (n+3) (f+2) (w,i,s,(1:Int),())=some (if OfP s.2 w∧s.2 / w=i then .inl () else .inr false):=by
 rw[j0l,show (decide ((1:Int)<2))=true from rfl,tft,show (decide ((1:Int)=0))=false from rfl,tff,show (decide ((1:Int)=1))=true from rfl,tft,wi_of];simp only[tfd,tfn,obs,of01];rw[show IntKind.wrap .i64 ((1:Int)+1)=2 from rfl,a2n];by_cases h3:OfP s.2 w
 ·rw[if_pos h3,if_pos h3];by_cases h4:s.2 / w=i
  ·rw[if_pos h4,if_pos (And.intro h3 h4)]
  ·rw[if_neg h4,if_neg (fun k=>h4 k.2)]
 ·rw[if_neg h3,if_neg (fun k=>h3 k.1)]
theorem a2p (n f:Nat) (w i:Int) (s:Int×Int):e0n (n+3) (f+3) (w,i,s,(0:Int),())=some (if (OfP s.1 w∧s.1 / w=i)∧(OfP s.2 w∧s.2 / w=i) then .inl () else .inr false):=by
 rw[j0l,show (decide ((0:Int)<2))=true from rfl,tft,show (decide ((0:Int)=0))=true from rfl,tft,wi_of];simp only[tfd,tfn,obs,of01];rw[show IntKind.wrap .i64 ((0:Int)+1)=1 from rfl,a2o];by_cases h3:OfP s.1 w
 ·rw[if_pos h3,if_pos h3];by_cases h4:s.1 / w=i
  ·rw[if_pos h4];by_cases h5:OfP s.2 w∧s.2 / w=i
   ·rw[if_pos h5,if_pos (And.intro (And.intro h3 h4) h5)]
   ·rw[if_neg h5,if_neg (fun k=>h5 k.2)]
  ·rw[if_neg h4,if_neg (fun k=>h4 k.1.2)]
 ·rw[if_neg h3,if_neg (fun k=>h3 k.1.1)]
theorem s0j (n:Nat) {c:Cel} (hc:CelW c) (w i:Int):j0m (n+6) c w i=some (decide (FitsP c w i)):=by
 rw[i1y,v0v n hc];simp only[tfd,obs,tfn,z02];have e:a0b=(2^70-3)+3:=by decide
 rw[e,a2p];have hiff:=a2q c w i;by_cases h1:c.1=0
 ·rw[if_pos h1,decide_eq_false];intro k;have:=k.n.n1;omega
 rw[if_neg h1];by_cases h2:c0p c
 case neg=>rw[if_neg h2,decide_eq_false (fun k=>h2 (hiff.1 k).2.1)]
 rw[if_pos h2];by_cases h3:(OfP c.2.1.1 w∧c.2.1.1 / w=i)∧(OfP c.2.2.1.1 w∧c.2.2.1.1 / w=i)
 ·rw[if_pos h3,decide_eq_true (hiff.2 ⟨mt h2.count.1.2 h1,h2,h3.1.1,h3.1.2,h3.2.1,h3.2.2⟩)];rfl
 ·rw[if_neg h3,decide_eq_false (fun k=>h3 (by have:=hiff.1 k;exact ⟨⟨this.2.2.1,this.2.2.2.1⟩,this.2.2.2.2⟩))];rfl
theorem s0i (n:Nat) (s:Slo):n0z (n+1) s=some (decide (s=s0)):=by rw[i1u,x1r]
def m1a (m w:Int) (j:Int) (s:Slo):Prop:=s=s0∨(c1g s.1 m=j∧FitsP s.2 w s.1)
theorem i1w (n:Nat) (l:List Slo) (w:Int) (hL:l.length≤4096) (hw:∀s∈l,SloW s):∀(rest pre:List Slo) (f:Nat) (i len:Int),l=pre++rest→i=pre.length→len=l.length→rest.length<f →
  ((∀(j:Nat) s,rest[j]? = some s→m1a l.length w (i+j) s)→e0w (n+6) f (l,w,l,len,i,())=some (.inl ())) ∧
  (¬(∀(j:Nat) s,rest[j]? = some s→m1a l.length w (i+j) s)→e0w (n+6) f (l,w,l,len,i,())=some (.inr 2)):=by
 intro rest;induction rest with
 | nil =>
  intro pre f i len hl hi hn hf;obtain ⟨f,rfl⟩:∃g,f=g+1:=⟨f-1,by simp at hf;omega⟩;rw[n0q];refine ⟨fun _=>by simp only[tfd,if_neg (idxe hl hi hn)],fun h=>absurd ?_ h⟩;intro j s hs;simp at hs
 | cons x rest ih =>
  intro pre f i len hl hi hn hf;obtain ⟨f,rfl⟩:∃g,f=g+1:=⟨f-1,by simp at hf;omega⟩;rw[n0q];have hx:SloW x:=hw x (by rw[hl];simp);have ih':=ih (pre++[x]) f (i+1) len (idxl hl) (idxs hi) hn (by simp at hf;omega);simp only[tfd,tfn,if_pos (idx hl hi hn),b0z hl hi,obs,s0i,w1l,s0j n hx.c,idxw hl hi (by omega)];have split:(∀(j:Nat) s,(x::rest)[j]? = some s→m1a l.length w (i+j) s)↔m1a l.length w i x∧(∀(j:Nat) s,rest[j]? = some s→m1a l.length w (i+1+j) s):=by
   constructor
   ·intro h;refine ⟨by simpa using h 0 x rfl,fun j s hs => ?_⟩;have:=h (j+1) s hs
    rwa [show i+((j+1:Nat):Int)=i+1+j by omega] at this
   ·rintro ⟨h1,h2⟩ j s hs;cases j with
    | zero=>simp at hs;subst hs;simpa using h1
    | succ j =>
     have:=h2 j s hs
     rwa [show i+((j+1:Nat):Int)=i+1+j by omega]
  rw[split];by_cases h0:x=s0
  ·rw[if_pos h0];have hp:m1a l.length w i x := .inl h0;exact ⟨fun h=>ih'.1 h.2,fun h=>ih'.2 (fun k=>h ⟨hp,k⟩)⟩
  ·rw[if_neg h0];by_cases h1:c1g x.1 l.length=i
   ·rw[if_pos h1];by_cases h2:FitsP x.2 w x.1
    ·rw[if_pos h2];have hp:m1a l.length w i x := .inr ⟨h1,h2⟩;exact ⟨fun h=>ih'.1 h.2,fun h=>ih'.2 (fun k=>h ⟨hp,k⟩)⟩
    ·rw[if_neg h2];exact ⟨fun h=>absurd (h.1.resolve_left h0).2 h2,fun _=>rfl⟩
   ·rw[if_neg h1];exact ⟨fun h=>absurd (h.1.resolve_left h0).1 h1,fun _=>rfl⟩
theorem x1q {l:List Slo} {w:Int} (h0:1≤l.length):(∀(j:Nat) s,l[j]? = some s→m1a l.length w (0+j) s)↔(∀(j:Nat) s,l[j]? = some s→s=s0∨(s.1 % (l.length:Int)=j∧FitsP s.2 w s.1)):=by
 constructor
 ·intro h j s hs;rcases h j s hs with e | ⟨e,f⟩
  ·exact .inl e
  ·rw[u0q f.i0.1 (by omega)] at e;exact .inr ⟨by omega,f⟩
 ·intro h j s hs;rcases h j s hs with e | ⟨e,f⟩
  ·exact .inl e
  ·exact .inr ⟨by rw[u0q f.i0.1 (by omega)];omega,f⟩
theorem p0g (n:Nat) (l:List Slo) (w:Int) (hw:∀s∈l,SloW s):j0b (n+7) l w=some (if TierOk l w then 0 else 2):=by
 rw[e1o];simp only[tfd];by_cases h1:(l.length:Int)=0
 ·rw[if_pos h1,if_neg (fun k=>by have:=k.l0;omega)]
 by_cases h2:(4096:Int)<l.length
 ·rw[if_neg h1,if_pos h2,if_neg (fun k=>by have:=k.l1;omega)]
 by_cases h3:w<1
 ·rw[if_neg h1,if_neg h2,if_pos h3,if_neg (fun k=>by have:=k.w0;omega)]
 by_cases h4:(1099511627776:Int)<w
 ·rw[if_neg h1,if_neg h2,if_neg h3,if_pos h4,if_neg (fun k=>by have:=k.w1;omega)]
 rw[if_neg h1,if_neg h2,if_neg h3,if_neg h4];have hl:=i1w n l w (by omega) hw l [] a0b 0 l.length rfl rfl rfl (by unfold a0b;omega);rw[x1q (by omega)] at hl;by_cases h5:∀(j:Nat) s,l[j]? = some s→s=s0∨(s.1 % (l.length:Int)=j∧FitsP s.2 w s.1)
 ·rw[hl.1 h5,if_pos ⟨by omega,by omega,by omega,by omega,h5⟩];rfl
 ·rw[hl.2 h5,if_neg (fun k=>h5 k.s)];rfl
theorem d1s (n:Nat) (l:List Slo) (h:l.length≤1000000):i0s (n+1) l=some l:=by
 rw[w0y];simp only[tfd,if_pos (show (0+l.length)*120≤140737488355328 by omega),List.nil_append];by_cases h0:l.length=0
 ·obtain rfl:=List.length_eq_zero_iff.1 h0;simp
 ·rw[if_neg h0]
section
variable {del:a0c×Unit→Option Bool} {p:Slo→Bool} (hd:∀x,del (x,())=some (p x))
include hd
theorem z1x (n:Nat) (l:List Slo) (hL:l.length≤1000000):∀(rest pre:List Slo) (f:Nat) (i len:Int),l=pre++rest→i=pre.length→len=l.length→rest.length<f →
  (c0k n f (l,del,len,i,())=some (.inl ())∧∀x∈rest,p x=false) ∨
  (∃A x B,rest=A++x::B∧(∀y∈A,p y=false)∧p x=true∧c0k n f (l,del,len,i,())=some (.inr (i+A.length))):=by
 intro rest;induction rest with
 | nil =>
  intro pre f i len hl hi hn hf;obtain ⟨f,rfl⟩:∃g,f=g+1:=⟨f-1,by simp at hf;omega⟩;rw[g0a];exact .inl ⟨by simp only[tfd,if_neg (idxe hl hi hn)],by simp⟩
 | cons x rest ih =>
  intro pre f i len hl hi hn hf;obtain ⟨f,rfl⟩:∃g,f=g+1:=⟨f-1,by simp at hf;omega⟩;rw[g0a];simp only[tfd,if_pos (idx hl hi hn),b0z hl hi,obs,hd,idxw hl hi (by omega)];cases hp:p x with
  | true=>exact .inr ⟨[],x,rest,rfl,by simp,hp,by simp⟩
  | false =>
   rw[tff];rcases ih (pre++[x]) f (i+1) len (idxl hl) (idxs hi) hn (by simp at hf;omega) with ⟨h1,h2⟩ | ⟨A,y,B,h1,h2,h3,h4⟩
   ·exact .inl ⟨h1,by intro z hz;rcases List.mem_cons.1 hz with rfl | hz;exact hp;exact h2 z hz⟩
   ·refine .inr ⟨x::A,y,B,by rw[h1];rfl,?_,h3,by rw[h4,List.length_cons,show i+1+(A.length:Int)=i+((A.length+1:Nat):Int) by omega]⟩;intro z hz;rcases List.mem_cons.1 hz with rfl | hz
    ·exact hp
    ·exact h2 z hz
theorem delete_l (n:Nat) (l0:List Slo) (hL:l0.length≤1000000):∀(rest F G:List Slo) (f:Nat) (i j:Int),(F++(G++rest)).length=l0.length→G≠[]→i=F.length→j=F.length+G.length→rest.length<f →
  ∃G',c0c n f (F++(G++rest),del,i,j,())=some (.inl (F++rest.filter (fun x => !p x)++G',(F++rest.filter (fun x => !p x)).length,()))∧(F++rest.filter (fun x => !p x)++G').length=l0.length:=by
 intro rest;induction rest with
 | nil =>
  intro F G f i j hl hg hi hj hf;obtain ⟨f,rfl⟩:∃g,f=g+1:=⟨f-1,by simp at hf;omega⟩;rw[f0t];have:¬(j<((F++(G++[])).length:Int)):=by simp;omega
  simp only[tfd,if_neg this];exact ⟨G,by simp[hi],by simpa using hl⟩
 | cons x rest ih =>
  intro F G f i j hl hg hi hj hf;obtain ⟨f,rfl⟩:∃g,f=g+1:=⟨f-1,by simp at hf;omega⟩;rw[f0t];simp only[List.length_append,List.length_cons] at hl;have hlt:j<((F++(G++x::rest)).length:Int):=by simp;omega
  have hat:at? (F++(G++x::rest)) j=some x:=b0z (pre:=F++G) (rest:=rest) (by simp) (by simp;omega);have hget:(F++(G++x::rest))[j.toNat]? = some x:=by
   rw[show j.toNat=F.length+G.length by omega,List.getElem?_append_right (by omega),List.getElem?_append_right (by omega)];simp
  simp only[tfd,if_pos hlt,hat,hget,obs,hd];have wj:IntKind.wrap .i64 (j+1)=j+1:=by rw[w64 (by omega) (by omega)]
  have wi:IntKind.wrap .i64 (i+1)=i+1:=by rw[w64 (by omega) (by omega)]
  rw[wj,wi]
  match G,hg with
  | g::G,_ =>
  cases hp:p x with
  | false =>
   have hat':at? (F++(g::G++x::rest)) i=some g:=b0z (pre:=F) (rest:=G++x::rest) (by simp) hi;have hget':(F++(g::G++x::rest))[i.toNat]? = some g:=by
    rw[show i.toNat=F.length by omega];simp
   have hset:(F++(g::G++x::rest)).set i.toNat x=(F++[x])++((G++[x])++rest):=by
    rw[show i.toNat=F.length by omega,List.set_append_right _ _ (by omega)];simp
   simp only[Bool.not_false,tft,hat',hget',obs,hset];obtain ⟨G',h1,h2⟩:=ih (F++[x]) (G++[x]) f (i+1) (j+1) (by simp at hl ⊢;omega) (by simp) (by simp;omega) (by simp at hj ⊢;omega) (by simp at hf;omega);refine ⟨G',?_,?_⟩
   ·rw[h1];simp[List.filter_cons,hp]
   ·rw[←h2];simp[List.filter_cons,hp]
  | true =>
   simp only[Bool.not_true,tff];obtain ⟨G',h1,h2⟩:=ih F (g::G++[x]) f i (j+1) (by simp at hl ⊢;omega) (by simp) hi (by simp at hj ⊢;omega) (by simp at hf;omega);simp only[List.append_assoc,List.singleton_append] at h1;refine ⟨G',?_,?_⟩
   ·rw[h1];simp[List.filter_cons,hp]
   ·rw[←h2];simp[List.filter_cons,hp]
theorem p1h (n:Nat) (l:List Slo) (hL:l.length≤1000000):g0d (n+2) l del=some (l.filter fun x => !p x):=by
 rw[o0e,i0k];rcases z1x hd n l hL l [] a0b 0 l.length rfl rfl rfl (by unfold a0b;omega) with ⟨h1,h2⟩ | ⟨A,x,B,h1,h2,h3,h4⟩
 ·rw[h1];simp only[obs,b0g,tfd,if_pos trivial];exact congrArg some (List.filter_eq_self.2 fun y hy=>by simp[h2 y hy]).symm
 ·rw[h4];have hl:l.length=A.length+(B.length+1):=by rw[h1];simp
  simp only[obs,o0i,tfd,Int.zero_add];rw[if_neg (by omega),w64 (x:=(A.length:Int)+1) (by omega) (by omega)];obtain ⟨G',g1,g2⟩:=delete_l hd (n+1) l hL B A [x] a0b (A.length:Int) (A.length+1) (by rw[h1];simp) (by simp) rfl (by simp) (by unfold a0b;omega);rw[show A++([x]++B)=l by rw[h1];simp] at g1;rw[g1];have hF:A++B.filter (fun x => !p x)=l.filter fun x => !p x:=by
   rw[h1,List.filter_append,List.filter_cons];have:A.filter (fun x => !p x)=A:=List.filter_eq_self.2 fun y hy=>by simp[h2 y hy]
   simp[h3,this]
  rw[hF] at g2 ⊢;generalize (l.filter fun x => !p x)=F at *
  simp only[obs,b0g,u0k,tfd,Int.toNat_natCast];have hle:F.length≤(F++G').length:=by simp
  have k1:putRow (F++G') F.length (List.replicate ((F++G').length-F.length) s0)=F++List.replicate ((F++G').length-F.length) s0:=by
   unfold putRow;rw[List.drop_of_length_le (by simp)];simp
  have k2:=k1;simp only[s0,z0,e0] at k2;rw[k2,if_pos (by omega),if_pos hle,if_pos (by omega),if_pos (by omega),if_pos (by simp;omega)];simp
end
theorem b2k (n:Nat) (x y:Int):h0f (n+2) x y=some (if x<y then -1 else if y<x then 1 else 0):=by
 rw[q0l,k0m,k0m];simp only[decide_true,Bool.not_true,obs,tff,tfd];by_cases h1:x<y
 ·rw[if_pos h1,if_pos h1]
 ·rw[if_neg h1,if_neg h1];by_cases h2:y<x
  ·rw[if_pos h2,if_pos h2]
  ·rw[if_neg h2,if_neg h2]
theorem b2l (n:Nat):Cmp (fun y3=>p0h (n+3) y3.1 y3.2.1) (fun s=>s.1):=by
 intro x y;refine ⟨if x.1<y.1 then -1 else if y.1<x.1 then 1 else 0,?_,?_⟩
 ·show p0h (n+3) x y=_;rw[e1p,b2k];rfl
 ·by_cases h1:x.1<y.1
  ·simp[h1]
  ·by_cases h2:y.1<x.1
   ·simp[h1,h2]
   ·simp[h1,h2]
theorem z0e {l:List Slo} (h:Srt (fun s=>s.1) l 0 l.length):l.Pairwise fun a b=>a.1≤b.1:=by
 rw[List.pairwise_iff_getElem];intro i j hi hj hij;exact h i j _ _ (by omega) hij hj (List.getElem?_eq_getElem hi) (List.getElem?_eq_getElem hj)
theorem tier_all (n:Nat) {l:List Slo} {w:Int} (h:TierOk l w):e1q (n+17) l=some (tall l):=by
 have hl:=h.l1;rw[m1o,d1s _ l (by omega)];simp only[obs];rw[p1h (del:=fun y1=>n0z (n+16) y1.1) (p:=fun s=>decide (s=s0)) (fun x=>s0i (n+15) x) (n+14) l (by omega)];simp only[obs];have e:(l.filter fun x => !decide (x=s0))=n0r l:=by unfold n0r;congr 1;funext x;simp
 rw[e];have hle:(n0r l).length≤l.length:=List.length_filter_le _ _;obtain ⟨d',r1,r2,r3⟩:=f1c (b2l (n+13)) n 12 (n0r l) (by omega) (by omega);rw[r1];rw[←r2.length_eq] at r3;rw[tall_eq h r2 (z0e r3)];rfl
theorem ev_wf {e:Ev} (h:Wf a0j e):EvW e:=by
 obtain ⟨h1,h2,h3,_⟩:=h;exact ⟨h1,h2,h3⟩
theorem e1n (n:Nat) {l:List Slo} (w i:Int) {c:Cel} (hw:∀s∈l,SloW s) (hc:CelW c):s0k (n+8) l w i c=some (if TierOk l w∧FitsP c w i then (tput l i c,0) else ([],2)):=by
 rw[m1m,p0g n l w hw,s0j (n+1) hc];simp only[obs,tfn,tfd,z02];by_cases h1:TierOk l w
 case neg=>rw[if_neg h1,if_neg (fun k=>h1 k.1)]
 by_cases h2:FitsP c w i
 case neg=>rw[if_pos h1,if_neg h2,if_neg (fun k=>h2 k.2)]
 have l0:=h1.l0;have l1:=h1.l1;have hi:=h2.i0;rw[if_pos h1,if_pos h2,if_pos (And.intro h1 h2),d1s _ l (by omega)];simp only[obs,w1l,u0q hi.1 (show (1:Int)≤l.length by omega)];have hm:=Int.emod_nonneg i (show (l.length:Int)≠0 by omega);have hm':=Int.emod_lt_of_pos i (show (0:Int)<l.length by omega);have e:at? l (i % (l.length:Int))=l[(i % (l.length:Int)).toNat]? := by
  obtain ⟨k,hk⟩:=Int.eq_ofNat_of_zero_le hm;rw[hk];exact w0r l k
 have hlt:(i % (l.length:Int)).toNat<l.length:=by omega
 simp only[e,List.getElem?_eq_getElem hlt,obs];rfl
theorem tier_new (n:Nat) (m:Int):s0l (n+1) m=some (if 1≤m∧m≤4096 then List.replicate m.toNat s0 else []):=by
 rw[m1n];simp only[tfd,u0k];by_cases h1:m<1
 ·rw[if_pos h1,if_neg (by omega)]
 by_cases h2:4096<m
 ·rw[if_neg h1,if_pos h2,if_neg (by omega)]
 rw[if_neg h1,if_neg h2,if_pos (by omega),if_pos (by omega),if_pos (by omega),if_pos (by omega)];rfl
def inW (i k:Int) (s:Slo):Bool:=decide (i≤s.1∧s.1<k)
theorem m1l (n:Nat) (i k:Int) (s6:Cel) (l:List Slo) (hL:l.length≤1000000):∀(rest pre:List Slo) (f:Nat) (cells:List Cel) (ix len:Int),l=pre++rest→ix=pre.length→len=l.length→rest.length<f→cells.length≤pre.length →
  f0s n f (i,k,s6,cells,l,len,ix,())=some (.inl (s6,cells++(rest.filter (inW i k)).map (·.2),())):=by
 intro rest;induction rest with
 | nil =>
  intro pre f cells ix len hl hi hn hf hc;obtain ⟨f,rfl⟩:∃g,f=g+1:=⟨f-1,by simp at hf;omega⟩;rw[o0a];simp only[tfd,if_neg (idxe hl hi hn),List.filter_nil,List.map_nil,List.append_nil]
 | cons x rest ih =>
  intro pre f cells ix len hl hi hn hf hc;obtain ⟨f,rfl⟩:∃g,f=g+1:=⟨f-1,by simp at hf;omega⟩;rw[o0a];have hp:pre.length+1≤l.length:=by have:=congrArg List.length hl;simp at this;omega
  simp only[tfd,if_pos (idx hl hi hn),b0z hl hi,obs,idxw hl hi (by omega)];by_cases h1:i≤x.1
  ·rw[if_pos h1];by_cases h2:x.1<k
   ·rw[if_pos h2,if_pos (by omega),ih (pre++[x]) f _ (ix+1) len (idxl hl) (idxs hi) hn (by simp at hf;omega) (by simp;omega)];have:inW i k x=true:=by simp[inW,h1,h2]
    rw[List.filter_cons_of_pos this];simp
   ·rw[if_neg h2,ih (pre++[x]) f _ (ix+1) len (idxl hl) (idxs hi) hn (by simp at hf;omega) (by simp;omega)];rw[List.filter_cons_of_neg (by simp[inW,h2])]
  ·rw[if_neg h1,ih (pre++[x]) f _ (ix+1) len (idxl hl) (idxs hi) hn (by simp at hf;omega) (by simp;omega)];rw[List.filter_cons_of_neg (by simp[inW,h1])]
theorem within_w {l:List Slo} {w:Int} (h:TierOk l w) (i k:Int):∀c∈within l i k,CellN c:=by
 intro c hc;simp only[within,List.mem_map,List.mem_filter] at hc;obtain ⟨s,⟨hs,_⟩,rfl⟩:=hc;exact (l0b h hs).1.n
theorem q1h {l:List Slo}:(tall l).length≤l.length:=by
 rw[(s0n l).length_eq];exact List.length_filter_le _ _
theorem s1j (l:List Slo) (i k:Int):(within l i k).length≤l.length:=by
 unfold within;rw[List.length_map];exact Nat.le_trans (List.length_filter_le _ _) q1h
theorem i1v (n:Nat) {l:List Slo} {w:Int} (h:TierOk l w) (i k:Int):s0m (n+18) l i k=some (j1b l i k):=by
 have l1:=h.l1;have ht:=q1h (l:=l);rw[i1x];simp only[tfd];unfold j1b;by_cases h1:i<0
 ·rw[if_pos h1,if_pos (.inl h1)];rfl
 by_cases h2:k<i
 ·rw[if_neg h1,if_pos h2,if_pos (.inr h2)];rfl
 rw[if_neg h1,if_neg h2,if_neg (by omega),tier_all n h];simp only[obs];rw[m1l (n+17) i k _ (tall l) (by omega) (tall l) [] a0b [] 0 _ rfl rfl rfl (by unfold a0b;omega) (by simp)];simp only[obs,b0g,List.nil_append];have e:List.map (·.2) (List.filter (inW i k) (tall l))=within l i k:=rfl;rw[e,cell_all (n+10) _ (by have:=s1j l i k;omega) (fun c hc => .ofN (within_w h i k c hc))];rfl
theorem y0p:SloW s0:=⟨by simp[I64,s0],a1f⟩
theorem p0i {l:List Slo} {w:Int} (h:TierOk l w):∀s∈l,SloW s:=by
 intro s hs;obtain ⟨j,hj⟩:=List.getElem?_of_mem hs;rcases h.s j s hj with rfl | ⟨_,hf⟩
 ·exact y0p
 ·have:=hf.i0;exact ⟨by unfold I64;omega,.ofN hf.n⟩
theorem q1s {e:Ev} (h:EvOk e) {w:Int} (hw:1≤w):IntKind.wrap .i64 (Int.tdiv e.1 w)=e.1 / w:=by
 have h0:=h.t0;have h1:=h.t1;have:0≤e.1 / w:=Int.ediv_nonneg h0 (by omega);have:e.1 / w≤e.1:=Int.ediv_le_self _ h0;rw[u0l h0,w64 (by omega) (by omega)]
theorem j1z {e:Ev} (h:EvOk e) {w:Int} (hw:1≤w):0≤e.1 / w∧e.1 / w<35184372088832:=by
 have h0:=h.t0;have h1:=h.t1;have:0≤e.1 / w:=Int.ediv_nonneg h0 (by omega);have:e.1 / w≤e.1:=Int.ediv_le_self _ h0;omega
end Go.Proofs.YtkajechaanmplaaGreatDoor

namespace Go.Plim
set_option linter.unusedVariables false
def rng (w:Int) (l:List Ev) (i k:Int):List Ev:=l.filter fun e=>decide (i≤e.1 / w∧e.1 / w<k)
def win (w:Int) (l:List Ev) (i:Int):List Ev:=l.filter fun e=>decide (e.1 / w=i)
theorem e1e {w:Int} {l:List Ev} (h:Foll l) (i:Int):Foll (win w l i):=h.sub List.filter_sublist
theorem w1o {w:Int} (hw:1≤w) {a b:Ev} (h:a.1<b.1):a.1 / w≤b.1 / w:=Int.ediv_le_ediv (by omega) (by omega)
theorem foll_wd {w:Int} (hw:1≤w) {l:List Ev} (h:Foll l):l.Pairwise fun a b=>a.1 / w≤b.1 / w:=h.inc.imp fun k=>w1o hw k
theorem k0j {l:List Slo} {w:Int} (h:TierOk l w) {s:Slo}:s∈tall l↔s≠s0∧l[(s.1 % (l.length:Int)).toNat]? = some s:=by
 constructor
 ·intro hs;exact ⟨(p0v.1 hs).2,(l0b h hs).2⟩
 ·rintro ⟨h1,h2⟩;exact p0v.2 ⟨List.mem_of_getElem? h2,h1⟩
theorem tall_N {l:List Slo} {w:Int} (h:TierOk l w) {s:Slo} (hs:s∈tall l):CellN s.2:=(l0b h hs).1.n
theorem rest_ne {a b n:Int} (hn:1≤n) (h1:a<b) (h2:b<a+n):a % n≠b % n:=by
 intro e;have:(b-a) % n=0:=by rw[Int.sub_emod,e];simp
 have h3:(b-a) % n=b-a:=Int.emod_eq_of_lt (by omega) (by omega);omega
theorem win_snoc (w:Int) (l:List Ev) (e:Ev) (i:Int):win w (l++[e]) i=if e.1 / w=i then win w l i++[e] else win w l i:=by
 unfold win;rw[List.filter_append];by_cases h:e.1 / w=i
 ·simp[h]
 ·simp[h]
theorem v0d {w:Int} {l:List Ev} {i:Int} {e:Ev}:e∈win w l i↔e∈l∧e.1 / w=i:=by simp[win]
structure TierInv (t:List Slo) (w:Int) (l:List Ev):Prop where
 ok:TierOk t w
 cells:∀s∈tall t,s.2=cellOf (win w l s.1)
 kept:∀i,(∃e∈l,e.1 / w=i)→(∀e∈l,e.1 / w<i+(t.length:Int))→(i,cellOf (win w l i))∈tall t
theorem r0g {n:Nat} {w:Int} (h0:1≤n) (h1:n≤4096) (w0:1≤w) (w1:w≤1099511627776):TierInv (List.replicate n s0) w []:=by
 have all:∀(j:Nat) s,(List.replicate n s0)[j]? = some s→s=s0:=fun j s hs=>List.eq_of_mem_replicate (List.mem_of_getElem? hs)
 refine ⟨⟨by simpa using h0,by simpa using h1,w0,w1,fun j s hs => .inl (all j s hs)⟩,fun s hs => ?_,fun i ⟨e,he,_⟩=>by cases he⟩;have:=p0v.1 hs;obtain ⟨j,hj⟩:=List.getElem?_of_mem this.1;exact absurd (all j s hj) this.2
theorem p1q {w i:Int} {l:List Ev} (h:Foll l) (hn:l≠[]) (hi:∀e∈l,e.1 / w=i) (w0:1≤w) (w1:w≤1099511627776):FitsP (cellOf l) w i:=by
 have hs:=s1b h hn;exact ⟨hs.n,w0,w1,hi _ (List.mem_of_head? hs.first),hi _ (List.mem_of_getLast? hs.last)⟩
theorem tput_len (t:List Slo) (i:Int) (c:Cel):(tput t i c).length=t.length:=by simp[tput]
theorem y0h {t:List Slo} {w:Int} {l:List Ev} {e:Ev} (h:TierInv t w l) (hl:Foll (l++[e])):FitsP (cellOf (win w l (e.1 / w)++[e])) w (e.1 / w)∧TierInv (tput t (e.1 / w) (cellOf (win w l (e.1 / w)++[e]))) w (l++[e]):=by
 obtain ⟨hok,hcells,hkept⟩:=h;have w0:=hok.w0;have hl':=(d0a.1 hl).1;have hlt:∀x∈l,x.1<e.1:=fun x hx=>(d0a.1 hl).2.2 x hx e (by simp)
 have hle:∀x∈l,x.1 / w≤e.1 / w:=fun x hx=>w1o w0 (hlt x hx)
 have ews:win w (l++[e]) (e.1 / w)=win w l (e.1 / w)++[e]:=by rw[win_snoc,if_pos rfl]
 have hwf:Foll (win w l (e.1 / w)++[e]):=by rw[←ews];exact e1e hl _
 have hfit:FitsP (cellOf (win w l (e.1 / w)++[e])) w (e.1 / w):=by
  refine p1q hwf (by simp) (fun x hx => ?_) w0 hok.w1;rcases List.mem_append.1 hx with hx | hx
  ·exact (v0d.1 hx).2
  ·simp at hx;rw[hx]
 generalize hi:e.1 / w=i at *
 generalize hc:cellOf (win w l i++[e])=c at *
 have hok':=e1k hok hfit;have hlen:=tput_len t i c;have hn:=hok.l0;have i0:=hfit.i0;have hm:=Int.emod_nonneg i (show (t.length:Int)≠0 by omega);have hm':=Int.emod_lt_of_pos i (show (0:Int)<t.length by omega);have cne:(i,c)≠s0:=fun k=>hfit.n.ne (congrArg Prod.snd k)
 have here:(tput t i c)[(i % (t.length:Int)).toNat]? = some (i,c):=by
  unfold tput;rw[List.getElem?_set,if_pos rfl,if_pos (by omega)]
 have there:∀j:Nat,j≠(i % (t.length:Int)).toNat→(tput t i c)[j]? = t[j]? := fun j hj=>by
  unfold tput;rw[List.getElem?_set,if_neg (Ne.symm hj)]
 refine ⟨hfit,hok',fun s hs => ?_,fun j ⟨x,hx,hxj⟩ hall => ?_⟩
 ·rw[k0j hok',hlen] at hs;obtain ⟨s1,s2⟩:=hs;by_cases hj:(s.1 % (t.length:Int)).toNat=(i % (t.length:Int)).toNat
  ·rw[hj,here] at s2;injection s2 with s2;subst s2;rw[ews,hc]
  ·rw[there _ hj] at s2;have:=hcells s ((k0j hok).2 ⟨s1,s2⟩);rw[win_snoc,if_neg (fun k=>hj (by rw[←k,hi])),this]
 ·rw[hlen] at hall;rw[k0j hok',hlen];rcases List.mem_append.1 hx with hx | hx
  ·by_cases hji:j=i
   ·subst hji;rw[ews,hc];exact ⟨cne,here⟩
   ·have hxi:=hle x hx;have hil:=hall e (by simp);have hjlt:j<i:=by omega
    have:=hkept j ⟨x,hx,hxj⟩ (fun y hy=>hall y (by simp[hy]));rw[k0j hok] at this;rw[win_snoc,if_neg (by omega)];refine ⟨this.1,?_⟩;rw[there _ ?_]
    ·exact this.2
    ·intro k;have k:(j % (t.length:Int)).toNat=(i % (t.length:Int)).toNat:=k;have hjm:=Int.emod_nonneg j (show (t.length:Int)≠0 by omega);exact rest_ne (n:=(t.length:Int)) (by omega) hjlt (by omega) (by omega)
  ·simp at hx;subst hx;rw[hi] at hxj;subst hxj;rw[ews,hc];exact ⟨cne,here⟩
end Go.Plim

namespace Go.Proofs.YtkajechaanmplaaGreatDoor
open Go.Flat
abbrev Conf:=Int×((Int×(Int×Int))×((Int×(Int×Int))×(Int×Int)))
def prt (n e:Int):Int:=(n+e-1) / e
def plc (c:Conf):Int:=1+prt c.1 16+prt c.2.2.1.1 4+prt c.2.2.1.2.1 4+prt c.2.2.1.2.2 4
structure Rng (c:Conf):Prop where
 raw:1≤c.1∧c.1≤4096
 cap:1≤c.2.2.2.1∧c.2.2.2.1≤65536
 log:1≤c.2.2.2.2∧c.2.2.2.2≤8192
 w0:1≤c.2.1.1∧c.2.1.1≤1099511627776
 w1:1≤c.2.1.2.1∧c.2.1.2.1≤1099511627776
 w2:1≤c.2.1.2.2∧c.2.1.2.2≤1099511627776
 n0:1≤c.2.2.1.1∧c.2.2.1.1≤4096
 n1:1≤c.2.2.1.2.1∧c.2.2.1.2.1≤4096
 n2:1≤c.2.2.1.2.2∧c.2.2.1.2.2≤4096
structure OkC (c:Conf):Prop where
 rng:Rng c
 m1:c.2.1.2.1 % c.2.1.1=0
 d1:c.2.1.2.1 / c.2.1.1≤c.2.2.1.1
 m2:c.2.1.2.2 % c.2.1.2.1=0
 d2:c.2.1.2.2 / c.2.1.2.1≤c.2.2.1.2.1
 pl:plc c<c.2.2.2.2
theorem o0l (n:Nat) (x e:Int) (he:1≤e) (he':e≤1000) (hx:0≤x) (hx':x≤1000000000):h0d (n+1) x e=some (prt x e):=by
 rw[h1w];have h1:¬(e=0):=by omega
 simp only[tfd,if_neg h1];rw[w64 (x:=x+e) (by omega) (by omega),w64 (x:=x+e-1) (by omega) (by omega),u0l (by omega)];have h2:0≤(x+e-1) / e:=Int.ediv_nonneg (by omega) (by omega);have h3:(x+e-1) / e≤x+e-1:=Int.ediv_le_self _ (by omega);rw[w64 (by omega) (by omega)];rfl
theorem g0e {x e:Int} (he:1≤e) (hx:0≤x):0≤prt x e∧prt x e≤x:=by
 unfold prt;refine ⟨Int.ediv_nonneg (by omega) (by omega),?_⟩;have:x+e-1<(x+1)*e:=by
  have:=Int.mul_le_mul_of_nonneg_left he (show 0≤x by omega);rw[Int.add_mul];omega
 have:=Int.ediv_lt_of_lt_mul (by omega) this;omega
theorem y1h {c:Conf} (h:Rng c):1≤plc c∧plc c≤20000:=by
 have a:=g0e (x:=c.1) (e:=16) (by omega) (by have:=h.raw;omega);have b:=g0e (x:=c.2.2.1.1) (e:=4) (by omega) (by have:=h.n0;omega);have d:=g0e (x:=c.2.2.1.2.1) (e:=4) (by omega) (by have:=h.n1;omega);have f:=g0e (x:=c.2.2.1.2.2) (e:=4) (by omega) (by have:=h.n2;omega);have:=h.raw;have:=h.n0;have:=h.n1;have:=h.n2;unfold plc;omega
theorem z0b (n:Nat) {c:Conf} (h:Rng c):h0b (n+2) c=some (plc c):=by
 have h0:=h.raw;have h1:=h.n0;have h2:=h.n1;have h3:=h.n2;rw[h1u,o0l n _ 16 (by omega) (by omega) (by omega) (by omega),o0l n _ 4 (by omega) (by omega) (by omega) (by omega),o0l n _ 4 (by omega) (by omega) (by omega) (by omega),o0l n _ 4 (by omega) (by omega) (by omega) (by omega)];simp only[obs];have a:=g0e (x:=c.1) (e:=16) (by omega) (by omega);have b:=g0e (x:=c.2.2.1.1) (e:=4) (by omega) (by omega);have d:=g0e (x:=c.2.2.1.2.1) (e:=4) (by omega) (by omega);have f:=g0e (x:=c.2.2.1.2.2) (e:=4) (by omega) (by omega)
 rw[w64 (x:=1+_) (by omega) (by omega),w64 (x:=1+_+_) (by omega) (by omega),w64 (x:=1+_+_+_) (by omega) (by omega),w64 (by omega) (by omega)];rfl
theorem in_int (n:Nat) (x a b:Int):e0s (n+1) x a b=some (decide (a≤x∧x≤b)):=by
 rw[b1v];by_cases h1:a≤x<;>by_cases h2:x≤b<;>simp[h1,h2]
theorem r1o (n:Nat) (x a b:Int):g0i (n+1) x a b=some (decide (a≤x∧x≤b)):=by
 rw[x0e];by_cases h1:a≤x<;>by_cases h2:x≤b<;>simp[h1,h2]
theorem t1x {a b:Int} (ha:1≤a∧a≤1099511627776) (hb:1≤b):IntKind.wrap .i64 (Int.tdiv a b)=a / b:=by
 rw[u0l (by omega)];have h2:0≤a / b:=Int.ediv_nonneg (by omega) (by omega);have h3:a / b≤a:=Int.ediv_le_self _ (by omega);rw[w64 (by omega) (by omega)]
theorem u0e (n:Nat) {c:Conf} (h:OkC c):c0w (n+3) c=some 0:=by
 obtain ⟨hr,m1,d1,m2,d2,pl⟩:=h;have hp:=z0b n hr;obtain ⟨raw,cap,log,w0,w1,w2,n0,n1,n2⟩:=hr;rw[u0b];simp only[in_int,r1o,obs,tfd,if_pos raw,if_pos cap,if_pos log,if_pos w0,if_pos w1,if_pos w2,if_pos n0,if_pos n1,if_pos n2];have z0:¬(c.2.1.1=0):=by omega
 have z1:¬(c.2.1.2.1=0):=by omega
 rw[t1x w1 w0.1,t1x w2 w1.1,n0y (a:=c.2.1.2.1) (by omega),n0y (a:=c.2.1.2.2) (by omega)];have l:¬(c.2.2.2.2≤plc c):=by omega
 simp only[if_neg z0,if_neg z1,if_pos m1,if_pos d1,if_pos m2,if_pos d2,tfn,tfd,hp,obs,if_neg l]
theorem s1a (n:Nat) {c:Conf} (h:¬OkC c):c0w (n+3) c=some 2:=by
 rw[u0b];simp only[in_int,r1o,obs,tfd,tfn];by_cases raw:1≤c.1∧c.1≤4096
 case neg=>rw[if_neg raw]
 rw[if_pos raw];by_cases cap:1≤c.2.2.2.1∧c.2.2.2.1≤65536
 case neg=>rw[if_neg cap]
 rw[if_pos cap];by_cases log:1≤c.2.2.2.2∧c.2.2.2.2≤8192
 case neg=>rw[if_neg log]
 rw[if_pos log];by_cases w0:1≤c.2.1.1∧c.2.1.1≤1099511627776
 case neg=>rw[if_neg w0]
 rw[if_pos w0];by_cases n0:1≤c.2.2.1.1∧c.2.2.1.1≤4096
 case neg=>rw[if_neg n0]
 rw[if_pos n0];by_cases w1:1≤c.2.1.2.1∧c.2.1.2.1≤1099511627776
 case neg=>rw[if_neg w1]
 rw[if_pos w1];by_cases n1:1≤c.2.2.1.2.1∧c.2.2.1.2.1≤4096
 case neg=>rw[if_neg n1]
 rw[if_pos n1];by_cases w2:1≤c.2.1.2.2∧c.2.1.2.2≤1099511627776
 case neg=>rw[if_neg w2]
 rw[if_pos w2];by_cases n2:1≤c.2.2.1.2.2∧c.2.2.1.2.2≤4096
 case neg=>rw[if_neg n2,if_neg n2]
 rw[if_pos n2];have hr:Rng c:=⟨raw,cap,log,w0,w1,w2,n0,n1,n2⟩;have hp:=z0b n hr;have z0:¬(c.2.1.1=0):=by omega
 have z1:¬(c.2.1.2.1=0):=by omega
 rw[t1x w1 w0.1,t1x w2 w1.1,n0y (a:=c.2.1.2.1) (by omega),n0y (a:=c.2.1.2.2) (by omega)];rw[if_neg z0,if_neg z0];by_cases m1:c.2.1.2.1 % c.2.1.1=0
 case neg=>rw[if_neg m1]
 rw[if_pos m1];by_cases d1:c.2.1.2.1 / c.2.1.1≤c.2.2.1.1
 case neg=>rw[if_neg d1,if_neg d1]
 rw[if_pos d1,if_neg z1,if_neg z1];by_cases m2:c.2.1.2.2 % c.2.1.2.1=0
 case neg=>rw[if_neg m2]
 rw[if_pos m2];by_cases d2:c.2.1.2.2 / c.2.1.2.1≤c.2.2.1.2.1
 case neg=>rw[if_neg d2,if_neg d2]
 rw[if_pos d2,if_pos d2,hp];simp only[obs];by_cases pl:c.2.2.2.2≤plc c
 ·rw[if_pos pl]
 ·exact absurd ⟨hr,m1,d1,m2,d2,by omega⟩ h
end Go.Proofs.YtkajechaanmplaaGreatDoor
namespace Go.Proofs.YtkajechaanmplaaGreatDoor
open Go.Flat Go.Plim
set_option linter.unusedVariables false
abbrev Trs:=List Slo×(List Slo×List Slo)
noncomputable instance (c:Conf):Decidable (OkC c):=Classical.propDecidable _
structure FoldOk (c:Conf) (s:Trs):Prop where
 cok:OkC c
 n0:(s.1.length:Int)=c.2.2.1.1
 n1:(s.2.1.length:Int)=c.2.2.1.2.1
 n2:(s.2.2.length:Int)=c.2.2.1.2.2
 t0:TierOk s.1 c.2.1.1
 t1:TierOk s.2.1 c.2.1.2.1
 t2:TierOk s.2.2 c.2.1.2.2
noncomputable instance (c:Conf) (s:Trs):Decidable (FoldOk c s):=Classical.propDecidable _
def mk1 (c:Conf) (s:Trs) (i:Int):Cel×Int:=j1b s.1 (i*(c.2.1.2.1 / c.2.1.1)) ((i+1)*(c.2.1.2.1 / c.2.1.1))
def mk2 (c:Conf) (s:Trs) (i:Int):Cel×Int:=j1b s.2.1 (i*(c.2.1.2.2 / c.2.1.2.1)) ((i+1)*(c.2.1.2.2 / c.2.1.2.1))
noncomputable def up1 (c:Conf) (s:Trs) (i j:Int):Trs :=
 if i*c.2.1.1 / c.2.1.2.1=j*c.2.1.1 / c.2.1.2.1 then s
 else if (mk1 c s (i*c.2.1.1 / c.2.1.2.1)).2=0∧FitsP (mk1 c s (i*c.2.1.1 / c.2.1.2.1)).1 c.2.1.2.1 (i*c.2.1.1 / c.2.1.2.1) then (s.1,(tput s.2.1 (i*c.2.1.1 / c.2.1.2.1) (mk1 c s (i*c.2.1.1 / c.2.1.2.1)).1,s.2.2))
 else s
noncomputable def up2 (c:Conf) (s:Trs) (i j:Int):Trs :=
 if i*c.2.1.1 / c.2.1.2.2=j*c.2.1.1 / c.2.1.2.2 then s
 else if (mk2 c s (i*c.2.1.1 / c.2.1.2.2)).2=0∧FitsP (mk2 c s (i*c.2.1.1 / c.2.1.2.2)).1 c.2.1.2.2 (i*c.2.1.1 / c.2.1.2.2) then (s.1,(s.2.1,tput s.2.2 (i*c.2.1.1 / c.2.1.2.2) (mk2 c s (i*c.2.1.1 / c.2.1.2.2)).1))
 else s
noncomputable def upw (c:Conf) (s:Trs) (i j:Int):Trs:=up2 c (up1 c s i j) i j
theorem up1_ok {c:Conf} {s:Trs} (h:FoldOk c s) (i j:Int):FoldOk c (up1 c s i j):=by
 unfold up1;split
 ·exact h
 ·split
  ·rename_i k;exact ⟨h.cok,h.n0,by simpa [tput] using h.n1,h.n2,h.t0,e1k h.t1 k.2,h.t2⟩
  ·exact h
theorem up2_ok {c:Conf} {s:Trs} (h:FoldOk c s) (i j:Int):FoldOk c (up2 c s i j):=by
 unfold up2;split
 ·exact h
 ·split
  ·rename_i k;exact ⟨h.cok,h.n0,h.n1,by simpa [tput] using h.n2,h.t0,h.t1,e1k h.t2 k.2⟩
  ·exact h
theorem upw_ok {c:Conf} {s:Trs} (h:FoldOk c s) (i j:Int):FoldOk c (upw c s i j):=up2_ok (up1_ok h i j) i j
theorem u1m {a w m:Int} (hw:1≤w) (h:a≤m / w):a*w≤m :=
 Int.le_trans (Int.mul_le_mul_of_nonneg_right h (by omega)) (Int.ediv_mul_le m (by omega))
def g0n (w i:Int):Prop:=0≤i∧i≤35184372088831 / w
instance (w i:Int):Decidable (g0n w i):=by unfold g0n;infer_instance
theorem g0n.mul {w i:Int} (hw:1≤w) (h:g0n w i):0≤i*w∧i*w≤35184372088831:=⟨Int.mul_nonneg h.1 (by omega),u1m hw h.2⟩
theorem d1r {x w:Int} (hw:1≤w) (h:0≤x∧x≤35184372088831):g0n w (x / w):=⟨Int.ediv_nonneg h.1 (by omega),Int.ediv_le_ediv (by omega) h.2⟩
theorem l1x {w i:Int} (hw:1≤w) (h:g0n w i):i≤35184372088831:=by
 have:=Int.ediv_le_self w (a:=35184372088831) (by decide);have:=h.2;omega
theorem u1n {a b i:Int} (ha:1≤a∧a≤1099511627776) (hb:1≤b∧b≤1099511627776) (hm:b % a=0) (h:g0n b i) :
  1≤b / a∧b / a≤1099511627776∧b / a*a=b∧0≤i*(b / a)∧i*(b / a)≤35184372088831∧(i+1)*(b / a)=i*(b / a)+b / a:=by
 have e:b / a*a=b:=by have:=Int.mul_ediv_add_emod b a;rw[Int.mul_comm];omega
 have h0:0≤b / a:=Int.ediv_nonneg (by omega) (by omega);have h1:b / a≤b:=Int.ediv_le_self _ (by omega);have h2:1≤b / a:=by
  rcases Int.lt_or_le 0 (b / a) with k | k
  ·omega
  ·have:b / a=0:=by omega
   rw[this] at e;omega
 have hi:=h.mul hb.1;have h3:0≤i*(b / a):=Int.mul_nonneg h.1 h0;have h4:i*(b / a)≤i*b:=Int.mul_le_mul_of_nonneg_left h1 h.1;exact ⟨h2,by omega,e,h3,by omega,by rw[Int.add_mul,Int.one_mul]⟩
end Go.Proofs.YtkajechaanmplaaGreatDoor
namespace Go.Proofs.YtkajechaanmplaaGreatDoor
open Go.Flat Go.Plim
set_option linter.unusedVariables false
set_option linter.unusedSimpArgs false
structure TrsW (s:Trs):Prop where
 a:∀x∈s.1,SloW x
 b:∀x∈s.2.1,SloW x
 c:∀x∈s.2.2,SloW x
theorem FoldOk.w {c:Conf} {s:Trs} (h:FoldOk c s):TrsW s:=⟨p0i h.t0,p0i h.t1,p0i h.t2⟩
theorem l0v (n:Nat) (c:Conf):c0w (n+3) c=some (if OkC c then 0 else 2):=by
 by_cases h:OkC c
 ·rw[if_pos h,u0e n h]
 ·rw[if_neg h,s1a n h]
theorem t0t (n:Nat) (c:Conf) {s:Trs} (hw:TrsW s):t0u (n+8) c s=some (if FoldOk c s then (some (c,s),0) else (none,2)):=by
 rw[l1d,l0v (n+4),p0g n _ _ hw.a,p0g n _ _ hw.b,p0g n _ _ hw.c];simp only[obs,tfn,tfd];by_cases h0:OkC c
 case neg=>rw[if_neg (mt (z02 _).1 h0),if_neg h0,if_neg (fun k:FoldOk c s=>h0 k.cok)]
 rw[if_pos ((z02 _).2 h0)];by_cases h1:(s.1.length:Int)=c.2.2.1.1
 case neg=>rw[if_neg h1,if_neg (fun k:FoldOk c s=>h1 k.n0)]
 rw[if_pos h1];by_cases h2:TierOk s.1 c.2.1.1
 case neg=>rw[if_neg (mt (z02 _).1 h2),if_neg (fun k:FoldOk c s=>h2 k.t0)]
 rw[if_pos ((z02 _).2 h2)];by_cases h3:(s.2.1.length:Int)=c.2.2.1.2.1
 case neg=>rw[if_neg h3,if_neg (fun k:FoldOk c s=>h3 k.n1)]
 rw[if_pos h3];by_cases h4:TierOk s.2.1 c.2.1.2.1
 case neg=>rw[if_neg (mt (z02 _).1 h4),if_neg (fun k:FoldOk c s=>h4 k.t1)]
 rw[if_pos ((z02 _).2 h4)];by_cases h5:(s.2.2.length:Int)=c.2.2.1.2.2
 case neg=>rw[if_neg h5,if_neg (fun k:FoldOk c s=>h5 k.n2)]
 rw[if_pos h5];by_cases h6:TierOk s.2.2 c.2.1.2.2
 case neg=>rw[if_neg (mt (z02 _).1 h6),if_neg (fun k:FoldOk c s=>h6 k.t2)]
 rw[if_pos ((z02 _).2 h6),if_pos (⟨h0,h1,h3,h5,h2,h4,h6⟩:FoldOk c s)]
theorem v1d (n:Nat) (c:Conf) {s:Trs} (hw:TrsW s):v0k (n+9) c s=some (if FoldOk c s then 0 else 2):=by
 rw[g1l,t0t n c hw];by_cases h:FoldOk c s
 ·rw[if_pos h,if_pos h];rfl
 ·rw[if_neg h,if_neg h];rfl
noncomputable def emp (c:Conf):Trs:=if OkC c then (List.replicate c.2.2.1.1.toNat s0,(List.replicate c.2.2.1.2.1.toNat s0,List.replicate c.2.2.1.2.2.toNat s0)) else ([],([],[]))
theorem v1b (n:Nat) (c:Conf):v0i (n+4) c=some (emp c):=by
 rw[g1i,l0v n];simp only[obs,tfn,tfd,tier_new];unfold emp;by_cases h:OkC c
 ·have h0:=h.rng.n0;have h1:=h.rng.n1;have h2:=h.rng.n2;rw[if_pos ((z02 _).2 h),if_pos h,if_pos h0,if_pos h1,if_pos h2]
 ·rw[if_neg (mt (z02 _).1 h),if_neg h]
theorem quo_top {w:Int} (hw:1≤w):IntKind.wrap .i64 (Int.tdiv 35184372088831 w)=35184372088831 / w:=by
 have:0≤(35184372088831:Int) / w:=Int.ediv_nonneg (by decide) (by omega);have:(35184372088831:Int) / w≤35184372088831:=Int.ediv_le_self _ (by decide);rw[u0l (by decide),w64 (by omega) (by omega)]
theorem begins_0 (n:Nat) (c:Conf) (s:Trs) (h:1≤c.2.1.1) (i:Int):n0f (n+1) (c,s) 0 i=some (decide (g0n c.2.1.1 i),(c,s)):=by
 rw[x0c];simp only[tfd,if_neg (show ¬(c.2.1.1=0) by omega),quo_top h];by_cases h0:(0:Int)≤i
 ·rw[if_pos h0];refine congrArg (fun b=>some (b,(c,s))) (decide_eq_decide.2 ⟨fun k=>⟨h0,k⟩,fun k=>k.2⟩)
 ·rw[if_neg h0,decide_eq_false (fun k:g0n c.2.1.1 i=>h0 k.1)]
end Go.Proofs.YtkajechaanmplaaGreatDoor
