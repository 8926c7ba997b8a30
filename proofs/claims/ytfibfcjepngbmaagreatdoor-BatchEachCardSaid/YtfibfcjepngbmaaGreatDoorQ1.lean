/-
 Plain proofs about the functions of this seat, part 1 of 3.
-/
import Derived.IntWalk
import Derived.Test.YtfibfcjepngbmaaGreatDoorTr
import Derived.Test.YtfibfcjepngbmaaGreatDoorFlatM4
set_option linter.unusedVariables false
set_option linter.unusedSimpArgs false
open Go.IntKind (wrap)
namespace Go.Plim
abbrev Wd:=Int×Int
abbrev Ev:=Int×(Int×(Int×Bool))
abbrev Cel:=Int×(Ev×(Ev×(Wd×(Int×(Int×Int)))))
instance decWd:DecidableEq Wd:=inferInstanceAs (DecidableEq (Int×Int))
instance decEv:DecidableEq Ev:=inferInstanceAs (DecidableEq (Int×(Int×(Int×Bool))))
instance decCel:DecidableEq Cel := @instDecidableEqProd _ _ _ (@instDecidableEqProd _ _ decEv (@instDecidableEqProd _ _ decEv (@instDecidableEqProd _ _ decWd inferInstance)))
def wv (a:Wd):Int:=a.1*18446744073709551616+a.2
structure WdOk (a:Wd):Prop where
 hi:0<=a.1/\a.1<=18446744073709551615
 lo:0<=a.2/\a.2<=18446744073709551615
def mkW (v:Int):Wd:=(v / 18446744073709551616,v % 18446744073709551616)
theorem p1g {a:Wd}(h:WdOk a):mkW (wv a)=a:=by
 obtain ⟨h1,h2⟩:=h;obtain ⟨x,y⟩:=a;simp only[mkW,wv] at *
 exact Prod.ext (by simp only;omega) (by simp only;omega)
theorem t0h (v:Int):wv (mkW v)=v:=by
 simp only[mkW,wv];omega
theorem y0m {v:Int}(h:0<=v)(h':v<340282366920938463463374607431768211456):WdOk (mkW v):=by
 constructor<;>simp only[mkW]<;>omega
theorem f0p {a:Wd}(h:WdOk a):0<=wv a/\wv a<340282366920938463463374607431768211456:=by
 obtain ⟨h1,h2⟩:=h;simp only[wv];omega
theorem a1a:wv (0,0)=0:=rfl
theorem wv_lo (x:Int):wv (0,x)=x:=by simp[wv]
def addW (a b:Wd):Wd×Int:=if wv a+wv b<340282366920938463463374607431768211456 then (mkW (wv a+wv b),0) else ((0,0),1)
def e0:Ev:=(0,(0,(0,false)))
structure EvOk (e:Ev):Prop where
 t0:0<=e.1
 t1:e.1<35184372088832
 v0:0<=e.2.1
 v1:e.2.1<=18446744073709551615
 c0:0<=e.2.2.1
 c1:e.2.2.1<=e.1
 st:e.2.2.2=true->e.2.1=0/\e.2.2.1=0
theorem evOk_iff (e:Ev):EvOk e↔(0<=e.1/\e.1<35184372088832/\0<=e.2.1/\e.2.1<=18446744073709551615/\0<=e.2.2.1/\e.2.2.1<=e.1/\(e.2.2.2=true->e.2.1=0/\e.2.2.1=0)) :=
 ⟨fun ⟨a,b,c,d,f,g,h⟩=>⟨a,b,c,d,f,g,h⟩,fun ⟨a,b,c,d,f,g,h⟩=>⟨a,b,c,d,f,g,h⟩⟩
instance (e:Ev):Decidable (EvOk e):=decidable_of_iff _ (evOk_iff e).symm
def btw (p c:Ev):Int×(Int×(Int×Int)) :=
 if c.2.2.2=true then (0,0,0,0)
 else if p.1<c.2.2.1 then (c.2.1,1,0,c.1-c.2.2.1)
 else if p.2.2.2=true then (0,0,1,0)
 else if c.2.1<p.2.1 then (c.2.1,1,0,c.1-p.1)
 else (c.2.1-p.2.1,0,0,c.1-p.1)
structure DlOk (d:Int×(Int×(Int×Int)))(s:Int):Prop where
 i:0<=d.1/\d.1<=18446744073709551615
 r:0<=d.2.1
 g:0<=d.2.2.1
 rg:d.2.1+d.2.2.1<=1
 s:0<=d.2.2.2/\d.2.2.2<=s
theorem x1u {p c:Ev}(hp:EvOk p)(hc:EvOk c)(h:p.1<c.1):DlOk (btw p c) (c.1-p.1):=by
 obtain ⟨a1,a2,a3,a4,a5,a6,a7⟩:=hp;obtain ⟨b1,b2,b3,b4,b5,b6,b7⟩:=hc;unfold btw;by_cases k1:c.2.2.2=true
 ·rw[q0z k1];constructor<;>simp only<;>omega
 rw[q0n k1];by_cases k2:p.1<c.2.2.1
 ·rw[q0z k2];constructor<;>simp only<;>omega
 rw[q0n k2];by_cases k3:p.2.2.2=true
 ·rw[q0z k3];constructor<;>simp only<;>omega
 rw[q0n k3];by_cases k4:c.2.1<p.2.1
 ·rw[q0z k4];constructor<;>simp only<;>omega
 rw[q0n k4];constructor<;>simp only<;>omega
def z0:Cel:=(0,(e0,(e0,((0,0),(0,(0,0))))))
structure CellN (c:Cel):Prop where
 n1:1<=c.1
 f:EvOk c.2.1
 l:EvOk c.2.2.1
 one:c.1=1->c.2.1=c.2.2.1
 more:1<c.1->c.2.1.1<c.2.2.1.1
 n2:c.1-1<=c.2.2.1.1-c.2.1.1
 w:WdOk c.2.2.2.1
 inc:wv c.2.2.2.1<=18446744073709551615*(c.1-1)
 r:0<=c.2.2.2.2.1
 g:0<=c.2.2.2.2.2.1
 rg:c.2.2.2.2.1+c.2.2.2.2.2.1<=c.1-1
 s0:0<=c.2.2.2.2.2.2
 s1:c.2.2.2.2.2.2<=c.2.2.1.1-c.2.1.1
theorem wdOk_iff (a:Wd):WdOk a↔(0<=a.1/\a.1<=18446744073709551615)/\(0<=a.2/\a.2<=18446744073709551615) :=
 ⟨fun ⟨a,b⟩=>⟨a,b⟩,fun ⟨a,b⟩=>⟨a,b⟩⟩
instance (a:Wd):Decidable (WdOk a):=decidable_of_iff _ (wdOk_iff a).symm
theorem i2d (c:Cel):CellN c↔(1<=c.1/\EvOk c.2.1/\EvOk c.2.2.1/\(c.1=1->c.2.1=c.2.2.1)/\(1<c.1->c.2.1.1<c.2.2.1.1)/\c.1-1<=c.2.2.1.1-c.2.1.1/\WdOk c.2.2.2.1 /\
  wv c.2.2.2.1<=18446744073709551615*(c.1-1)/\0<=c.2.2.2.2.1/\0<=c.2.2.2.2.2.1/\c.2.2.2.2.1+c.2.2.2.2.2.1<=c.1-1/\0<=c.2.2.2.2.2.2/\c.2.2.2.2.2.2<=c.2.2.1.1-c.2.1.1) :=
 ⟨fun ⟨a,b,c,d,e,f,g,h,i,j,k,l,m⟩=>⟨a,b,c,d,e,f,g,h,i,j,k,l,m⟩,fun ⟨a,b,c,d,e,f,g,h,i,j,k,l,m⟩=>⟨a,b,c,d,e,f,g,h,i,j,k,l,m⟩⟩
instance (c:Cel):Decidable (CellN c):=decidable_of_iff _ (i2d c).symm
def b0x (c:Cel):Prop:=c=z0\/CellN c
instance (c:Cel):Decidable (b0x c):=by unfold b0x;infer_instance
theorem CellN.ne {c:Cel}(h:CellN c):c≠z0:=by
 intro e;have:=h.n1;rw[e] at this;simp[z0] at this
theorem CellN.ok {c:Cel}(h:CellN c):b0x c := .inr h
theorem f2k:b0x z0 := .inl rfl
theorem b0x.n {c:Cel}(h:b0x c)(hz:c≠z0):CellN c:=h.resolve_left hz
theorem b0x.count {c:Cel}(h:b0x c):(c.1=0↔c=z0)/\0<=c.1:=by
 rcases h with rfl | h
 ·exact ⟨⟨fun _=>rfl,fun _=>rfl⟩,by simp[z0]⟩
 ·have:=h.n1;exact ⟨⟨fun e=>by omega,fun e=>absurd e h.ne⟩,by omega⟩
theorem CellN.ft {c:Cel}(h:CellN c):c.2.1.1<=c.2.2.1.1:=by have:=h.n1;have:=h.n2;omega
theorem CellN.small {c:Cel}(h:CellN c):c.1<=35184372088832:=by
 have:=h.n2;have:=h.f.t0;have:=h.l.t1;omega
def mrg (a b:Cel):Cel :=
 if a=z0 then b else if b=z0 then a else
  (a.1+b.1,(a.2.1,(b.2.2.1,(mkW (wv a.2.2.2.1+(btw a.2.2.1 b.2.1).1+wv b.2.2.2.1),
   (a.2.2.2.2.1+(btw a.2.2.1 b.2.1).2.1+b.2.2.2.2.1,(a.2.2.2.2.2.1+(btw a.2.2.1 b.2.1).2.2.1+b.2.2.2.2.2.1,a.2.2.2.2.2.2+(btw a.2.2.1 b.2.1).2.2.2+b.2.2.2.2.2.2))))))
def Ahead (a b:Cel):Prop:=a=z0\/b=z0\/a.2.2.1.1<b.2.1.1
instance (a b:Cel):Decidable (Ahead a b):=by unfold Ahead;infer_instance
theorem f2m (a:Cel):mrg a z0=a:=by
 unfold mrg;split
 ·rename_i h;exact h.symm
 ·simp
theorem l1u (a:Cel):mrg z0 a=a:=by unfold mrg;simp
theorem p1f {a b:Cel}(ha:CellN a)(hb:CellN b):mrg a b=(a.1+b.1,(a.2.1,(b.2.2.1,(mkW (wv a.2.2.2.1+(btw a.2.2.1 b.2.1).1+wv b.2.2.2.1),
  (a.2.2.2.2.1+(btw a.2.2.1 b.2.1).2.1+b.2.2.2.2.1,(a.2.2.2.2.2.1+(btw a.2.2.1 b.2.1).2.2.1+b.2.2.2.2.2.1,a.2.2.2.2.2.2+(btw a.2.2.1 b.2.1).2.2.2+b.2.2.2.2.2.2)))))):=by
 unfold mrg;rw[q0n ha.ne,q0n hb.ne]
theorem mrg_N {a b:Cel}(ha:CellN a)(hb:CellN b)(h:a.2.2.1.1<b.2.1.1):CellN (mrg a b):=by
 have d:=x1u ha.l hb.f h;have a1:=ha.n1;have b1:=hb.n1;have a2:=ha.ft;have b2:=hb.ft;have a3:=ha.inc;have b3:=hb.inc;have a4:=f0p ha.w;have b4:=f0p hb.w;have a5:=ha.small;have b5:=hb.small;rw[p1f ha hb];generalize btw a.2.2.1 b.2.1=x at *
 obtain ⟨d1,d2,d3,d4,d5⟩:=d;have e:18446744073709551615*(a.1+b.1-1)=18446744073709551615*(a.1-1)+18446744073709551615+18446744073709551615*(b.1-1):=by omega
 constructor<;>simp only
 ·omega
 ·exact ha.f
 ·exact hb.l
 ·intro h;omega
 ·intro _;omega
 ·have:=ha.n2;have:=hb.n2;omega
 ·exact y0m (by omega) (by omega)
 ·rw[t0h];omega
 ·have:=ha.r;have:=hb.r;omega
 ·have:=ha.g;have:=hb.g;omega
 ·have:=ha.rg;have:=hb.rg;omega
 ·have:=ha.s0;have:=hb.s0;omega
 ·have:=ha.s1;have:=hb.s1;omega
theorem mrg_ok {a b:Cel}(ha:b0x a)(hb:b0x b)(h:Ahead a b):b0x (mrg a b):=by
 by_cases k:a=z0
 ·rw[k,l1u];exact hb
 by_cases k':b=z0
 ·rw[k',f2m];exact ha
 exact .inr (mrg_N (ha.n k) (hb.n k') ((h.resolve_left k).resolve_left k'))
def c0c (e:Ev):Cel:=(1,(e,(e,((0,0),(0,(0,0))))))
theorem o0g {e:Ev}(h:EvOk e):CellN (c0c e):=by
 constructor<;>simp only[c0c]
 ·omega
 ·exact h
 ·exact h
 ·intro _;trivial
 ·intro h;omega
 ·omega
 ·exact ⟨by simp,by simp⟩
 ·simp[wv]
 all_goals omega
def cellOf (l:List Ev):Cel:=l.foldl (fun c e=>mrg c (c0c e)) z0
structure Foll (l:List Ev):Prop where
 ok:∀e∈l,EvOk e
 inc:l.Pairwise fun a b=>a.1<b.1
theorem Foll.nil:Foll []:=⟨by simp,.nil⟩
theorem g2r {e:Ev}{l:List Ev}:Foll (e::l)↔EvOk e/\(∀x∈l,e.1<x.1)/\Foll l:=by
 constructor
 ·rintro ⟨h1,h2⟩;rw[List.pairwise_cons] at h2;exact ⟨h1 e (by simp),h2.1,⟨fun x hx=>h1 x (by simp[hx]),h2.2⟩⟩
 ·rintro ⟨h1,h2,h3⟩;refine ⟨fun x hx => ?_,List.pairwise_cons.2 ⟨h2,h3.inc⟩⟩;rcases q2l.1 hx with rfl | hx
  ·exact h1
  ·exact h3.ok x hx
theorem d0b {l m:List Ev}:Foll (l++m)↔Foll l/\Foll m/\∀x∈l,∀y∈m,x.1<y.1:=by
 constructor
 ·rintro ⟨h1,h2⟩;rw[List.pairwise_append] at h2;exact ⟨⟨fun x hx=>h1 x (by simp[hx]),h2.1⟩,⟨fun x hx=>h1 x (by simp[hx]),h2.2.1⟩,h2.2.2⟩
 ·rintro ⟨h1,h2,h3⟩;refine ⟨fun x hx => ?_,List.pairwise_append.2 ⟨h1.inc,h2.inc,h3⟩⟩;rcases q2n.1 hx with hx | hx
  ·exact h1.ok x hx
  ·exact h2.ok x hx
theorem Foll.sub {l m:List Ev}(h:Foll l)(s:m.Sublist l):Foll m:=⟨fun e he=>h.ok e (s.subset he),h.inc.sublist s⟩
theorem v1l (l:List Ev)(e:Ev):cellOf (l++[e])=mrg (cellOf l) (c0c e):=by simp[cellOf,List.foldl_append]
theorem b2u (e:Ev):cellOf [e]=c0c e:=by simp[cellOf,l1u]
structure Has (l:List Ev)(c:Cel):Prop where
 n:CellN c
 cnt:c.1=l.length
 first:l.head? = some c.2.1
 last:l.getLast? = some c.2.2.1
theorem g1j:∀(l:List Ev) (e:Ev),Foll (l++[e])->Has (l++[e]) (cellOf (l++[e])):=by
 intro l;induction hl:l.length generalizing l with
 | zero =>
  intro e h;obtain rfl:=List.length_eq_zero_iff.1 hl;rw[q2q,b2u];exact ⟨o0g (h.ok e (by simp)),rfl,rfl,rfl⟩
 | succ k ih =>
  intro e h;rcases List.eq_nil_or_concat l with rfl | ⟨m,x,rfl⟩
  ·cases hl
  rw[List.concat_eq_append] at *
  have hm:=ih m (by simp at hl;exact hl) x (d0b.1 h).1;have hx:x.1<e.1:=(d0b.1 h).2.2 x (by simp) e (by simp);rw[v1l];have hlast:(cellOf (m++[x])).2.2.1=x:=by have:=hm.last;simp at this;exact this.symm
  have he:=o0g (h.ok e (by simp));have hlt:(cellOf (m++[x])).2.2.1.1<(c0c e).2.1.1:=by rw[hlast];exact hx
  refine ⟨mrg_N hm.n he hlt,?_,?_,?_⟩
  ·rw[p1f hm.n he];simp only[hm.cnt,c0c];simp;omega
  ·rw[p1f hm.n he];have:=hm.first;simp only[List.head?_append] at this ⊢;rw[this];rfl
  ·rw[p1f hm.n he];simp[c0c]
theorem i2c {l:List Ev}(h:Foll l):b0x (cellOf l):=by
 rcases List.eq_nil_or_concat l with rfl | ⟨m,x,rfl⟩
 ·exact f2k
 ·rw[List.concat_eq_append] at *;exact (g1j m x h).n.ok
theorem x1s {l:List Ev}(h:Foll l)(hn:l≠[]):Has l (cellOf l):=by
 rcases List.eq_nil_or_concat l with rfl | ⟨m,x,rfl⟩
 ·exact absurd rfl hn
 ·rw[List.concat_eq_append] at *;exact g1j m x h
def mrgE (a b:Cel):Cel×Int:=if b0x a/\b0x b then (if Ahead a b then (mrg a b,0) else (z0,9)) else (z0,2)
def allE:Cel->List Cel->Cel×Int
 | c,[]=>(c,0)
 | c,x::r=>if (mrgE c x).2=0 then allE (mrgE c x).1 r else (z0,(mrgE c x).2)
end Go.Plim
namespace Go.Proofs.YtfibfcjepngbmaaGreatDoor
open Go.Flat Go.Plim
theorem n0p (x:Int)(k:Nat)(hk:k<=64):shrI .u64 x (k:Int)=x / 2^k:=by
 unfold shrI;rw[show min (k:Int).toNat IntKind.u64.bits=k from by show min (k:Int).toNat 64=k;omega];exact Int.fdiv_eq_ediv_of_nonneg _ (Int.le_of_lt (Int.pow_pos (by decide)))
theorem x1w (x:Int)(k:Nat)(hk:k<=63)(h:0<=x)(h':x<=18446744073709551615):andI .u64 x ((2^k-1:Nat):Int)=x % ((2^k:Nat):Int):=by
 obtain ⟨a,rfl⟩:=Int.eq_ofNat_of_zero_le h;have hp:2^k<=2^63:=Nat.pow_le_pow_right (by decide) hk;have h63:(2:Nat)^63=9223372036854775808:=by decide
 unfold andI;have e:(BitVec.ofInt IntKind.u64.bits (a:Int) &&& BitVec.ofInt IntKind.u64.bits ((2^k-1:Nat):Int)).toNat=a % 2^k:=by
  show (BitVec.ofInt 64 (a:Int) &&& BitVec.ofInt 64 ((2^k-1:Nat):Int)).toNat=_;rw[BitVec.toNat_and,BitVec.ofInt_natCast,BitVec.ofInt_natCast,BitVec.toNat_ofNat,BitVec.toNat_ofNat,Nat.mod_eq_of_lt (a:=a) (by omega),Nat.mod_eq_of_lt (a:=2^k-1) (by omega),Nat.and_two_pow_sub_one_eq_mod]
 rw[e];have:a % 2^k<2^k:=Nat.mod_lt _ (Nat.pow_pos (by decide));rw[wu64 (by omega) (by omega)];simp
theorem i0v (a x:Int)(k:Nat)(hk:k<=56)(ha:0<=a)(ha':a<((2^k:Nat):Int))(hx:0<=x)(hx':x<=255) :
  orI .u64 a (shlI .u64 (wrap .u64 x) (k:Int))=a+x*((2^k:Nat):Int):=by
 obtain ⟨a,rfl⟩:=Int.eq_ofNat_of_zero_le ha;obtain ⟨c,rfl⟩:=Int.eq_ofNat_of_zero_le hx;have hp:2^k<=2^56:=Nat.pow_le_pow_right (by decide) hk;have h56:(2:Nat)^56=72057594037927936:=by decide
 have hc:c*2^k<=255*2^k:=q3r _ (by omega);have e1:shlI .u64 (wrap .u64 (c:Int)) (k:Int)=((c*2^k:Nat):Int):=by
  rw[wu64 (by omega) (by omega)];show wrap .u64 ((c:Int)*2^(min (k:Int).toNat 64))=_;rw[show min (k:Int).toNat 64=k by omega];have:(c:Int)*2^k=((c*2^k:Nat):Int):=by simp
  rw[this,wu64 (by omega) (by omega)]
 rw[e1];unfold orI;have e2:(BitVec.ofInt IntKind.u64.bits (a:Int) ||| BitVec.ofInt IntKind.u64.bits ((c*2^k:Nat):Int)).toNat=c*2^k+a:=by
  show (BitVec.ofInt 64 (a:Int) ||| BitVec.ofInt 64 ((c*2^k:Nat):Int)).toNat=_;rw[BitVec.toNat_or,BitVec.ofInt_natCast,BitVec.ofInt_natCast,BitVec.toNat_ofNat,BitVec.toNat_ofNat,Nat.mod_eq_of_lt (by omega),Nat.mod_eq_of_lt (by omega)];have:=Nat.two_pow_add_eq_or_of_lt (i:=k) (b:=a) (by omega) c;rw[Nat.mul_comm c (2^k),this,Nat.or_comm]
 rw[e2,wu64 (by omega) (by omega)];simp[Int.add_comm]
theorem or_zero (a b:Int)(ha:0<=a/\a<=18446744073709551615)(hb:0<=b/\b<=18446744073709551615):orI .u64 a b=0↔a=0/\b=0:=by
 obtain ⟨a,rfl⟩:=Int.eq_ofNat_of_zero_le ha.1;obtain ⟨b,rfl⟩:=Int.eq_ofNat_of_zero_le hb.1;unfold orI;have e2:(BitVec.ofInt IntKind.u64.bits (a:Int) ||| BitVec.ofInt IntKind.u64.bits (b:Int)).toNat=a ||| b:=by
  show (BitVec.ofInt 64 (a:Int) ||| BitVec.ofInt 64 (b:Int)).toNat=_;rw[BitVec.toNat_or,BitVec.ofInt_natCast,BitVec.ofInt_natCast,BitVec.toNat_ofNat,BitVec.toNat_ofNat,Nat.mod_eq_of_lt (by omega),Nat.mod_eq_of_lt (by omega)]
 rw[e2];have:a ||| b<2^64:=Nat.or_lt_two_pow (by omega) (by omega)
 rw[wu64 (by omega) (by omega)];have h3:a ||| b=0↔a=0/\b=0:=Nat.or_eq_zero_iff
 omega
theorem r1a (n:Nat)(x:Int):a1c (n+1) x=some (0,x):=y1e n x
theorem t0i (n:Nat)(a:Wd)(o:Int):t0j (n+1) a o=some (if o=0 then (a,0) else ((0,0),1)):=by
 rw[l1x];by_cases h:o=0<;>simp[h]
theorem wide_add (n:Nat){a b:Wd}(ha:WdOk a)(hb:WdOk b):g1x (n+2) a b=some (addW a b):=by
 obtain ⟨h1,h2⟩:=ha;obtain ⟨h3,h4⟩:=hb;obtain ⟨ah,al⟩:=a;obtain ⟨bh,bl⟩:=b;simp only at h1 h2 h3 h4;rw[r1c];simp only[s0q,tfd,q0z h2.1,q0z h4.1,q0z h1.1,q0z h3.1,tft,q0z (show (0:Int)<=(al+bl+0) / 18446744073709551616 by omega),q0z (show (al+bl+0) / 18446744073709551616<=(1:Int) by omega),t0i,obs];unfold addW;have ea:wv (ah,al)=ah*18446744073709551616+al:=rfl;have eb:wv (bh,bl)=bh*18446744073709551616+bl:=rfl;generalize wv (ah,al)=va at *
 generalize wv (bh,bl)=vb at *
 by_cases hc:va+vb<340282366920938463463374607431768211456
 ·rw[q0z hc,q0z (by omega)];simp only[mkW];congr 2;exact Prod.ext (by simp only;omega) (by simp only;omega)
 ·rw[q0n hc,q0n (by omega)]
theorem c2g (n:Nat){a b:Wd}(ha:WdOk a)(hb:WdOk b):a1d (n+1) a b=some (decide (wv a<wv b)):=by
 obtain ⟨h1,h2⟩:=ha;obtain ⟨h3,h4⟩:=hb;obtain ⟨ah,al⟩:=a;obtain ⟨bh,bl⟩:=b;simp only at h1 h2 h3 h4;rw[l1y];have ea:wv (ah,al)=ah*18446744073709551616+al:=rfl;have eb:wv (bh,bl)=bh*18446744073709551616+bl:=rfl;generalize wv (ah,al)=va at *
 generalize wv (bh,bl)=vb at *
 simp only[tfd];by_cases c1:ah<bh
 ·rw[q0z c1,q2a (by omega)]
 ·rw[q0n c1];by_cases c2:ah=bh
  ·rw[q0z c2];congr 1;exact q2s.2 (by omega)
  ·rw[q0n c2,q1z (by omega)]
theorem mul64 (n:Nat)(x y:Int)(hx:0<=x/\x<=18446744073709551615)(hy:0<=y/\y<=18446744073709551615):g0u (n+1) x y=some (x*y / 18446744073709551616,x*y % 18446744073709551616):=by
 rw[v0i];have sh:∀z:Int,shrI .u64 z (32:Int)=z / 4294967296:=fun z=>n0p z 32 (by decide)
 have an:∀z:Int,0<=z->z<=18446744073709551615->andI .u64 z (4294967295:Int)=z % 4294967296:=fun z h h'=>x1w z 32 (by decide) h h'
 rw[an x hx.1 hx.2,an y hy.1 hy.2];simp only[sh];have b1:0<=x / 4294967296/\x / 4294967296<=4294967295:=by omega
 have b2:0<=y / 4294967296/\y / 4294967296<=4294967295:=by omega
 have b3:0<=x % 4294967296/\x % 4294967296<=4294967295:=by omega
 have b4:0<=y % 4294967296/\y % 4294967296<=4294967295:=by omega
 have ex:x=x / 4294967296*4294967296+x % 4294967296:=by omega
 have ey:y=y / 4294967296*4294967296+y % 4294967296:=by omega
 generalize hx1:x / 4294967296=x1 at *
 generalize hx0:x % 4294967296=x0 at *
 generalize hy1:y / 4294967296=y1 at *
 generalize hy0:y % 4294967296=y0 at *
 have bound:∀ {u v:Int},0<=u/\u<=4294967295->0<=v/\v<=4294967295->0<=u*v/\u*v<=18446744065119617025:=fun {u v} hu hv =>
  ⟨Int.mul_nonneg hu.1 hv.1,Int.le_trans (Int.mul_le_mul hu.2 hv.2 hv.1 (by decide)) (by decide)⟩
 have p11:=bound b1 b2;have p10:=bound b1 b4;have p01:=bound b3 b2;have p00:=bound b3 b4;have exy:x*y=x1*y1*18446744073709551616+(x1*y0+x0*y1)*4294967296+x0*y0:=by
  rw[ex,ey];simp only[Int.add_mul,Int.mul_add];have q1:x1*4294967296*(y1*4294967296)=x1*y1*18446744073709551616:=by
   rw[Int.mul_assoc,Int.mul_left_comm 4294967296 y1,<-Int.mul_assoc];rfl
  have q2:x0*(y1*4294967296)=x0*y1*4294967296:=by rw[Int.mul_assoc]
  have q3:x1*4294967296*y0=x1*y0*4294967296:=by rw[Int.mul_assoc,Int.mul_comm 4294967296 y0,<-Int.mul_assoc]
  rw[q1,q2,q3];omega
 rw[exy];generalize x1*y1=a11 at *
 generalize x1*y0=a10 at *
 generalize x0*y1=a01 at *
 generalize x0*y0=a00 at *
 rw[wu64 (x:=a00) (by omega) (by omega),wu64 (x:=a11) (by omega) (by omega),wu64 (x:=a10) (by omega) (by omega),wu64 (x:=a01) (by omega) (by omega)];rw[wu64 (x:=a10+a00 / 4294967296) (by omega) (by omega),an _ (by omega) (by omega)];rw[wu64 (x:=a11+(a10+a00 / 4294967296) / 4294967296) (by omega) (by omega),wu64 (x:=(a10+a00 / 4294967296) % 4294967296+a01) (by omega) (by omega),wu64 (by omega) (by omega)];have wm:∀z:Int,wrap .u64 z=z % 18446744073709551616:=fun z=>IntKind.wrap_u64 z
 rw[wm];congr 2;omega
def e1o (a:Wd)(k:Int):Wd×Int:=if wv a*k<340282366920938463463374607431768211456 then (mkW (wv a*k),0) else ((0,0),1)
theorem y1c (n:Nat){a:Wd}(ha:WdOk a)(k:Int)(hk:0<=k/\k<=18446744073709551615):w0e (n+2) a k=some (e1o a k):=by
 obtain ⟨h1,h2⟩:=ha;obtain ⟨ah,al⟩:=a;simp only at h1 h2;rw[g1v,mul64 n al k h2 hk,mul64 n ah k h1 hk];simp only[obs];have bd:∀ {u:Int},0<=u/\u<=18446744073709551615->0<=u*k/\u*k<=340282366920938463426481119284349108225:=fun {u} hu =>
  ⟨Int.mul_nonneg hu.1 hk.1,Int.le_trans (Int.mul_le_mul hu.2 hk.2 hk.1 (by decide)) (by decide)⟩
 have b1:=bd h1;have b2:=bd h2;unfold e1o;have e:wv (ah,al)*k=ah*k*18446744073709551616+al*k:=by
  simp only[wv];rw[Int.add_mul,Int.mul_assoc,Int.mul_comm 18446744073709551616 k,<-Int.mul_assoc]
 rw[e];generalize ah*k=p at *
 generalize al*k=q at *
 simp only[s0q,tfd,tft,q0z (show (0:Int)<=p % 18446744073709551616 by omega),q0z (show (0:Int)<=q / 18446744073709551616 by omega),t0i,obs];have ho:=or_zero (p / 18446744073709551616) ((p % 18446744073709551616+q / 18446744073709551616+0) / 18446744073709551616) (by omega) (by omega);by_cases hc:p*18446744073709551616+q<340282366920938463463374607431768211456
 ·rw[q0z hc,q0z (ho.2 (by omega))];simp only[mkW];congr 2;exact Prod.ext (by simp only;omega) (by simp only;omega)
 ·rw[q0n hc,q0n (fun h=>by have:=ho.1 h;omega)]
def Byt (x:Int):Prop:=0<=x/\x<=255
theorem bytes8 (v:Int)(h:0<=v/\v<=18446744073709551615):∃x0 x1 x2 x3 x4 x5 x6 x7:Int,(Byt x0/\Byt x1/\Byt x2/\Byt x3/\Byt x4/\Byt x5/\Byt x6/\Byt x7)/\v=x0+x1*256+x2*65536+x3*16777216+x4*4294967296+x5*1099511627776+x6*281474976710656+x7*72057594037927936 /\
  v % 256=x0/\v / 256 % 256=x1/\v / 65536 % 256=x2/\v / 16777216 % 256=x3/\v / 4294967296 % 256=x4/\v / 1099511627776 % 256=x5/\v / 281474976710656 % 256=x6/\v / 72057594037927936 % 256=x7:=by
 refine ⟨v % 256,v / 256 % 256,v / 65536 % 256,v / 16777216 % 256,v / 4294967296 % 256,v / 1099511627776 % 256,v / 281474976710656 % 256,v / 72057594037927936 % 256,?_,?_,rfl,rfl,rfl,rfl,rfl,rfl,rfl,rfl⟩
 ·simp only[Byt];omega
 ·have e2:v / 65536=v / 256 / 256:=by omega
  have e3:v / 16777216=v / 65536 / 256:=by omega
  have e4:v / 4294967296=v / 16777216 / 256:=by omega
  have e5:v / 1099511627776=v / 4294967296 / 256:=by omega
  have e6:v / 281474976710656=v / 1099511627776 / 256:=by omega
  have e7:v / 72057594037927936=v / 281474976710656 / 256:=by omega
  have e8:v / 72057594037927936 / 256=0:=by omega
  omega
theorem v0b (n:Nat){a:Wd}(ha:WdOk a):∃x0 x1 x2 x3 x4 x5 x6 x7 x8 x9 x10 x11 x12 x13 x14 x15:Int,m0e (n+1) a=some (x0,x1,x2,x3,x4,x5,x6,x7,x8,x9,x10,x11,x12,x13,x14,x15)/\(Byt x0/\Byt x1/\Byt x2/\Byt x3/\Byt x4/\Byt x5/\Byt x6/\Byt x7/\Byt x8/\Byt x9/\Byt x10/\Byt x11/\Byt x12/\Byt x13/\Byt x14/\Byt x15)/\a.2=x0+x1*256+x2*65536+x3*16777216+x4*4294967296+x5*1099511627776+x6*281474976710656+x7*72057594037927936/\a.1=x8+x9*256+x10*65536+x11*16777216+x12*4294967296+x13*1099511627776+x14*281474976710656+x15*72057594037927936:=by
 obtain ⟨x0,x1,x2,x3,x4,x5,x6,x7,⟨b0,b1,b2,b3,b4,b5,b6,b7⟩,hv,e0,e1,e2,e3,e4,e5,e6,e7⟩:=bytes8 a.2 ha.lo;obtain ⟨x8,x9,x10,x11,x12,x13,x14,x15,⟨b8,b9,b10,b11,b12,b13,b14,b15⟩,hv',e8,e9,e10,e11,e12,e13,e14,e15⟩:=bytes8 a.1 ha.hi;refine ⟨x0,x1,x2,x3,x4,x5,x6,x7,x8,x9,x10,x11,x12,x13,x14,x15,?_,⟨b0,b1,b2,b3,b4,b5,b6,b7,b8,b9,b10,b11,b12,b13,b14,b15⟩,hv,hv'⟩;have an:∀z:Int,0<=z->z<=18446744073709551615->andI .u64 z (255:Int)=z % 256:=fun z h h'=>x1w z 8 (by decide) h h'
 have s0:∀z:Int,shrI .u64 z (0:Int)=z / 1:=fun z=>n0p z 0 (by decide)
 have s1:∀z:Int,shrI .u64 z (8:Int)=z / 256:=fun z=>n0p z 8 (by decide)
 have s2:∀z:Int,shrI .u64 z (16:Int)=z / 65536:=fun z=>n0p z 16 (by decide)
 have s3:∀z:Int,shrI .u64 z (24:Int)=z / 16777216:=fun z=>n0p z 24 (by decide)
 have s4:∀z:Int,shrI .u64 z (32:Int)=z / 4294967296:=fun z=>n0p z 32 (by decide)
 have s5:∀z:Int,shrI .u64 z (40:Int)=z / 1099511627776:=fun z=>n0p z 40 (by decide)
 have s6:∀z:Int,shrI .u64 z (48:Int)=z / 281474976710656:=fun z=>n0p z 48 (by decide)
 have s7:∀z:Int,shrI .u64 z (56:Int)=z / 72057594037927936:=fun z=>n0p z 56 (by decide)
 have h1:=ha.lo;have h2:=ha.hi;rw[o1n];simp only[s0,s1,s2,s3,s4,s5,s6,s7,Int.ediv_one];rw[an (a.2) (by omega) (by omega),e0,w64 (x:=x0) (by have:=b0.1;omega) (by have:=b0.2;omega)];rw[an (a.2 / 256) (by omega) (by omega),e1,w64 (x:=x1) (by have:=b1.1;omega) (by have:=b1.2;omega)];rw[an (a.2 / 65536) (by omega) (by omega),e2,w64 (x:=x2) (by have:=b2.1;omega) (by have:=b2.2;omega)];rw[an (a.2 / 16777216) (by omega) (by omega),e3,w64 (x:=x3) (by have:=b3.1;omega) (by have:=b3.2;omega)]
 rw[an (a.2 / 4294967296) (by omega) (by omega),e4,w64 (x:=x4) (by have:=b4.1;omega) (by have:=b4.2;omega)];rw[an (a.2 / 1099511627776) (by omega) (by omega),e5,w64 (x:=x5) (by have:=b5.1;omega) (by have:=b5.2;omega)];rw[an (a.2 / 281474976710656) (by omega) (by omega),e6,w64 (x:=x6) (by have:=b6.1;omega) (by have:=b6.2;omega)];rw[an (a.2 / 72057594037927936) (by omega) (by omega),e7,w64 (x:=x7) (by have:=b7.1;omega) (by have:=b7.2;omega)];rw[an (a.1) (by omega) (by omega),e8,w64 (x:=x8) (by have:=b8.1;omega) (by have:=b8.2;omega)]
 rw[an (a.1 / 256) (by omega) (by omega),e9,w64 (x:=x9) (by have:=b9.1;omega) (by have:=b9.2;omega)];rw[an (a.1 / 65536) (by omega) (by omega),e10,w64 (x:=x10) (by have:=b10.1;omega) (by have:=b10.2;omega)];rw[an (a.1 / 16777216) (by omega) (by omega),e11,w64 (x:=x11) (by have:=b11.1;omega) (by have:=b11.2;omega)];rw[an (a.1 / 4294967296) (by omega) (by omega),e12,w64 (x:=x12) (by have:=b12.1;omega) (by have:=b12.2;omega)];rw[an (a.1 / 1099511627776) (by omega) (by omega),e13,w64 (x:=x13) (by have:=b13.1;omega) (by have:=b13.2;omega)]
 rw[an (a.1 / 281474976710656) (by omega) (by omega),e14,w64 (x:=x14) (by have:=b14.1;omega) (by have:=b14.2;omega)];rw[an (a.1 / 72057594037927936) (by omega) (by omega),e15,w64 (x:=x15) (by have:=b15.1;omega) (by have:=b15.2;omega)]
theorem r01_of (n:Nat){x0 x1 x2 x3 x4 x5 x6 x7 x8 x9 x10 x11 x12 x13 x14 x15:Int}(b0:Byt x0)(b1:Byt x1)(b2:Byt x2)(b3:Byt x3)(b4:Byt x4)(b5:Byt x5)(b6:Byt x6)(b7:Byt x7)(b8:Byt x8)(b9:Byt x9)(b10:Byt x10)(b11:Byt x11)(b12:Byt x12)(b13:Byt x13)(b14:Byt x14)(b15:Byt x15):w1m (n+1) (x0,x1,x2,x3,x4,x5,x6,x7,x8,x9,x10,x11,x12,x13,x14,x15)=some (x8+x9*256+x10*65536+x11*16777216+x12*4294967296+x13*1099511627776+x14*281474976710656+x15*72057594037927936,x0+x1*256+x2*65536+x3*16777216+x4*4294967296+x5*1099511627776+x6*281474976710656+x7*72057594037927936):=by
 rw[e2u];simp only[Byt] at *
 have q0:orI .u64 (0:Int) (shlI .u64 (wrap .u64 x0) (0:Int))=(0:Int)+x0*1:=i0v _ _ 0 (by decide) (by omega) (by show _<(1:Int);omega) b0.1 b0.2;have q1:orI .u64 ((0:Int)+x0*1) (shlI .u64 (wrap .u64 x1) (8:Int))=(0:Int)+x0*1+x1*256:=i0v _ _ 8 (by decide) (by omega) (by show _<(256:Int);omega) b1.1 b1.2;have q2:orI .u64 ((0:Int)+x0*1+x1*256) (shlI .u64 (wrap .u64 x2) (16:Int))=(0:Int)+x0*1+x1*256+x2*65536:=i0v _ _ 16 (by decide) (by omega) (by show _<(65536:Int);omega) b2.1 b2.2
 have q3:orI .u64 ((0:Int)+x0*1+x1*256+x2*65536) (shlI .u64 (wrap .u64 x3) (24:Int))=(0:Int)+x0*1+x1*256+x2*65536+x3*16777216:=i0v _ _ 24 (by decide) (by omega) (by show _<(16777216:Int);omega) b3.1 b3.2;have q4:orI .u64 ((0:Int)+x0*1+x1*256+x2*65536+x3*16777216) (shlI .u64 (wrap .u64 x4) (32:Int))=(0:Int)+x0*1+x1*256+x2*65536+x3*16777216+x4*4294967296:=i0v _ _ 32 (by decide) (by omega) (by show _<(4294967296:Int);omega) b4.1 b4.2
 have q5:orI .u64 ((0:Int)+x0*1+x1*256+x2*65536+x3*16777216+x4*4294967296) (shlI .u64 (wrap .u64 x5) (40:Int))=(0:Int)+x0*1+x1*256+x2*65536+x3*16777216+x4*4294967296+x5*1099511627776:=i0v _ _ 40 (by decide) (by omega) (by show _<(1099511627776:Int);omega) b5.1 b5.2;have q6:orI .u64 ((0:Int)+x0*1+x1*256+x2*65536+x3*16777216+x4*4294967296+x5*1099511627776) (shlI .u64 (wrap .u64 x6) (48:Int))=(0:Int)+x0*1+x1*256+x2*65536+x3*16777216+x4*4294967296+x5*1099511627776+x6*281474976710656:=i0v _ _ 48 (by decide) (by omega) (by show _<(281474976710656:Int);omega) b6.1 b6.2
 have q7:orI .u64 ((0:Int)+x0*1+x1*256+x2*65536+x3*16777216+x4*4294967296+x5*1099511627776+x6*281474976710656) (shlI .u64 (wrap .u64 x7) (56:Int))=(0:Int)+x0*1+x1*256+x2*65536+x3*16777216+x4*4294967296+x5*1099511627776+x6*281474976710656+x7*72057594037927936:=i0v _ _ 56 (by decide) (by omega) (by show _<(72057594037927936:Int);omega) b7.1 b7.2;have q8:orI .u64 (0:Int) (shlI .u64 (wrap .u64 x8) (0:Int))=(0:Int)+x8*1:=i0v _ _ 0 (by decide) (by omega) (by show _<(1:Int);omega) b8.1 b8.2
 have q9:orI .u64 ((0:Int)+x8*1) (shlI .u64 (wrap .u64 x9) (8:Int))=(0:Int)+x8*1+x9*256:=i0v _ _ 8 (by decide) (by omega) (by show _<(256:Int);omega) b9.1 b9.2;have q10:orI .u64 ((0:Int)+x8*1+x9*256) (shlI .u64 (wrap .u64 x10) (16:Int))=(0:Int)+x8*1+x9*256+x10*65536:=i0v _ _ 16 (by decide) (by omega) (by show _<(65536:Int);omega) b10.1 b10.2;have q11:orI .u64 ((0:Int)+x8*1+x9*256+x10*65536) (shlI .u64 (wrap .u64 x11) (24:Int))=(0:Int)+x8*1+x9*256+x10*65536+x11*16777216:=i0v _ _ 24 (by decide) (by omega) (by show _<(16777216:Int);omega) b11.1 b11.2
 have q12:orI .u64 ((0:Int)+x8*1+x9*256+x10*65536+x11*16777216) (shlI .u64 (wrap .u64 x12) (32:Int))=(0:Int)+x8*1+x9*256+x10*65536+x11*16777216+x12*4294967296:=i0v _ _ 32 (by decide) (by omega) (by show _<(4294967296:Int);omega) b12.1 b12.2;have q13:orI .u64 ((0:Int)+x8*1+x9*256+x10*65536+x11*16777216+x12*4294967296) (shlI .u64 (wrap .u64 x13) (40:Int))=(0:Int)+x8*1+x9*256+x10*65536+x11*16777216+x12*4294967296+x13*1099511627776:=i0v _ _ 40 (by decide) (by omega) (by show _<(1099511627776:Int);omega) b13.1 b13.2
 have q14:orI .u64 ((0:Int)+x8*1+x9*256+x10*65536+x11*16777216+x12*4294967296+x13*1099511627776) (shlI .u64 (wrap .u64 x14) (48:Int))=(0:Int)+x8*1+x9*256+x10*65536+x11*16777216+x12*4294967296+x13*1099511627776+x14*281474976710656:=i0v _ _ 48 (by decide) (by omega) (by show _<(281474976710656:Int);omega) b14.1 b14.2
 have q15:orI .u64 ((0:Int)+x8*1+x9*256+x10*65536+x11*16777216+x12*4294967296+x13*1099511627776+x14*281474976710656) (shlI .u64 (wrap .u64 x15) (56:Int))=(0:Int)+x8*1+x9*256+x10*65536+x11*16777216+x12*4294967296+x13*1099511627776+x14*281474976710656+x15*72057594037927936:=i0v _ _ 56 (by decide) (by omega) (by show _<(72057594037927936:Int);omega) b15.1 b15.2;rw[q8,q9,q10,q11,q12,q13,q14,q15,q0,q1,q2,q3,q4,q5,q6,q7];congr 2
 ·omega
 ·omega
theorem r01_less (n:Nat){a b:Wd}(ha:WdOk a)(hb:WdOk b):q0x (n+2) a b=some (decide (wv a<wv b)):=by
 obtain ⟨x0,x1,x2,x3,x4,x5,x6,x7,x8,x9,x10,x11,x12,x13,x14,x15,hx,⟨b0,b1,b2,b3,b4,b5,b6,b7,b8,b9,b10,b11,b12,b13,b14,b15⟩,va,va'⟩:=v0b n ha;obtain ⟨y0,y1,y2,y3,y4,y5,y6,y7,y8,y9,y10,y11,y12,y13,y14,y15,hy,⟨d0,d1,d2,d3,d4,d5,d6,d7,d8,d9,d10,d11,d12,d13,d14,d15⟩,vb,vb'⟩:=v0b n hb;rw[t1x,hx,hy];simp only[obs,tfn,tfd];simp only[Byt] at *
 have ea:wv a=a.1*18446744073709551616+a.2:=rfl;have eb:wv b=b.1*18446744073709551616+b.2:=rfl;rw[va,va'] at ea;rw[vb,vb'] at eb;clear va va' vb vb' hx hy ha hb;generalize wv a=va at *
 generalize wv b=vb at *
 by_cases c15:x15=y15
 case neg=>rw[q0n c15];congr 1;exact q2s.2 (by omega)
 rw[q0z c15];subst c15;by_cases c14:x14=y14
 case neg=>rw[q0n c14];congr 1;exact q2s.2 (by omega)
 rw[q0z c14];subst c14;by_cases c13:x13=y13
 case neg=>rw[q0n c13];congr 1;exact q2s.2 (by omega)
 rw[q0z c13];subst c13;by_cases c12:x12=y12
 case neg=>rw[q0n c12];congr 1;exact q2s.2 (by omega)
 rw[q0z c12];subst c12;by_cases c11:x11=y11
 case neg=>rw[q0n c11];congr 1;exact q2s.2 (by omega)
 rw[q0z c11];subst c11;by_cases c10:x10=y10
 case neg=>rw[q0n c10];congr 1;exact q2s.2 (by omega)
 rw[q0z c10];subst c10;by_cases c9:x9=y9
 case neg=>rw[q0n c9];congr 1;exact q2s.2 (by omega)
 rw[q0z c9];subst c9;by_cases c8:x8=y8
 case neg=>rw[q0n c8];congr 1;exact q2s.2 (by omega)
 rw[q0z c8];subst c8;by_cases c7:x7=y7
 case neg=>rw[q0n c7];congr 1;exact q2s.2 (by omega)
 rw[q0z c7];subst c7;by_cases c6:x6=y6
 case neg=>rw[q0n c6];congr 1;exact q2s.2 (by omega)
 rw[q0z c6];subst c6;by_cases c5:x5=y5
 case neg=>rw[q0n c5];congr 1;exact q2s.2 (by omega)
 rw[q0z c5];subst c5;by_cases c4:x4=y4
 case neg=>rw[q0n c4];congr 1;exact q2s.2 (by omega)
 rw[q0z c4];subst c4;by_cases c3:x3=y3
 case neg=>rw[q0n c3];congr 1;exact q2s.2 (by omega)
 rw[q0z c3];subst c3;by_cases c2:x2=y2
 case neg=>rw[q0n c2];congr 1;exact q2s.2 (by omega)
 rw[q0z c2];subst c2;by_cases c1:x1=y1
 case neg=>rw[q0n c1];congr 1;exact q2s.2 (by omega)
 rw[q0z c1];subst c1;by_cases c0:x0=y0
 case neg=>rw[q0n c0];congr 1;exact q2s.2 (by omega)
 rw[q0z c0];subst c0;rw[q1z (by omega)]
def cN (x y m:Int):Int:=wrap .i64 (Int.tdiv (wrap .i64 ((wrap .i64 (x+y))+m)) (256:Int))
def dN (x y m:Int):Int:=Int.tmod (wrap .i64 ((wrap .i64 (x+y))+m)) (256:Int)
theorem digit (x y m:Int)(hx:Byt x)(hy:Byt y)(hm:0<=m/\m<=1):(0<=cN x y m/\cN x y m<=1)/\Byt (dN x y m)/\x+y+m=256*cN x y m+dN x y m:=by
 obtain ⟨h1,h2⟩:=hx;obtain ⟨h3,h4⟩:=hy;unfold cN dN Byt;rw[w64 (x:=x+y) (by omega) (by omega),w64 (x:=x+y+m) (by omega) (by omega),j0v (by omega),e0k (by omega),w64 (by omega) (by omega)];omega
theorem b1g (n:Nat){a b:Wd}(ha:WdOk a)(hb:WdOk b):p0j (n+2) a b=some (addW a b):=by
 obtain ⟨x0,x1,x2,x3,x4,x5,x6,x7,x8,x9,x10,x11,x12,x13,x14,x15,hx,⟨b0,b1,b2,b3,b4,b5,b6,b7,b8,b9,b10,b11,b12,b13,b14,b15⟩,va,va'⟩:=v0b n ha;obtain ⟨y0,y1,y2,y3,y4,y5,y6,y7,y8,y9,y10,y11,y12,y13,y14,y15,hy,⟨d0,d1,d2,d3,d4,d5,d6,d7,d8,d9,d10,d11,d12,d13,d14,d15⟩,vb,vb'⟩:=v0b n hb;rw[a2e,hx,hy];simp only[obs]
 show tif (decide ((0:Int)<(cN x15 y15 (cN x14 y14 (cN x13 y13 (cN x12 y12 (cN x11 y11 (cN x10 y10 (cN x9 y9 (cN x8 y8 (cN x7 y7 (cN x6 y6 (cN x5 y5 (cN x4 y4 (cN x3 y3 (cN x2 y2 (cN x1 y1 (cN x0 y0 (0:Int))))))))))))))))))) (some (((0:Int),(0:Int)),(1:Int))) (a0a (w1m (n+1) (dN x0 y0 (0:Int),dN x1 y1 (cN x0 y0 (0:Int)),dN x2 y2 (cN x1 y1 (cN x0 y0 (0:Int))),dN x3 y3 (cN x2 y2 (cN x1 y1 (cN x0 y0 (0:Int)))),dN x4 y4 (cN x3 y3 (cN x2 y2 (cN x1 y1 (cN x0 y0 (0:Int))))),dN x5 y5 (cN x4 y4 (cN x3 y3 (cN x2 y2 (cN x1 y1 (cN x0 y0 (0:Int)))))),dN x6 y6 (cN x5 y5 (cN x4 y4 (cN x3 y3 (cN x2 y2 (cN x1 y1 (cN x0 y0 (0:Int))))))),dN x7 y7 (cN x6 y6 (cN x5 y5 (cN x4 y4 (cN x3 y3 (cN x2 y2 (cN x1 y1 (cN x0 y0 (0:Int)))))))),dN x8 y8 (cN x7 y7 (cN x6 y6 (cN x5 y5 (cN x4 y4 (cN x3 y3 (cN x2 y2 (cN x1 y1 (cN x0 y0 (0:Int))))))))),dN x9 y9 (cN x8 y8 (cN x7 y7 (cN x6 y6 (cN x5 y5 (cN x4 y4 (cN x3 y3 (cN x2 y2 (cN x1 y1 (cN x0 y0 (0:Int)))))))))),dN x10 y10 (cN x9 y9 (cN x8 y8 (cN x7 y7 (cN x6 y6 (cN x5 y5 (cN x4 y4 (cN x3 y3 (cN x2 y2 (cN x1 y1 (cN x0 y0 (0:Int))))))))))),dN x11 y11 (cN x10 y10 (cN x9 y9 (cN x8 y8 (cN x7 y7 (cN x6 y6 (cN x5 y5 (cN x4 y4 (cN x3 y3 (cN x2 y2 (cN x1 y1 (cN x0 y0 (0:Int)))))))))))),dN x12 y12 (cN x11 y11 (cN x10 y10 (cN x9 y9 (cN x8 y8 (cN x7 y7 (cN x6 y6 (cN x5 y5 (cN x4 y4 (cN x3 y3 (cN x2 y2 (cN x1 y1 (cN x0 y0 (0:Int))))))))))))),dN x13 y13 (cN x12 y12 (cN x11 y11 (cN x10 y10 (cN x9 y9 (cN x8 y8 (cN x7 y7 (cN x6 y6 (cN x5 y5 (cN x4 y4 (cN x3 y3 (cN x2 y2 (cN x1 y1 (cN x0 y0 (0:Int)))))))))))))),dN x14 y14 (cN x13 y13 (cN x12 y12 (cN x11 y11 (cN x10 y10 (cN x9 y9 (cN x8 y8 (cN x7 y7 (cN x6 y6 (cN x5 y5 (cN x4 y4 (cN x3 y3 (cN x2 y2 (cN x1 y1 (cN x0 y0 (0:Int))))))))))))))),dN x15 y15 (cN x14 y14 (cN x13 y13 (cN x12 y12 (cN x11 y11 (cN x10 y10 (cN x9 y9 (cN x8 y8 (cN x7 y7 (cN x6 y6 (cN x5 y5 (cN x4 y4 (cN x3 y3 (cN x2 y2 (cN x1 y1 (cN x0 y0 (0:Int)))))))))))))))))) fun r2=>some (r2,(0:Int)))=_
 obtain ⟨k0,g0,z0⟩:=digit x0 y0 (0:Int) b0 d0 (by omega);generalize cN x0 y0 (0:Int)=c0 at *
 generalize dN x0 y0 (0:Int)=t0 at *
 obtain ⟨k1,g1,z1⟩:=digit x1 y1 c0 b1 d1 (by omega);generalize cN x1 y1 c0=c1 at *
 generalize dN x1 y1 c0=t1 at *
 obtain ⟨k2,g2,z2⟩:=digit x2 y2 c1 b2 d2 (by omega);generalize cN x2 y2 c1=c2 at *
 generalize dN x2 y2 c1=t2 at *
 obtain ⟨k3,g3,z3⟩:=digit x3 y3 c2 b3 d3 (by omega);generalize cN x3 y3 c2=c3 at *
 generalize dN x3 y3 c2=t3 at *
 obtain ⟨k4,g4,z4⟩:=digit x4 y4 c3 b4 d4 (by omega);generalize cN x4 y4 c3=c4 at *
 generalize dN x4 y4 c3=t4 at *
 obtain ⟨k5,g5,z5⟩:=digit x5 y5 c4 b5 d5 (by omega);generalize cN x5 y5 c4=c5 at *
 generalize dN x5 y5 c4=t5 at *
 obtain ⟨k6,g6,z6⟩:=digit x6 y6 c5 b6 d6 (by omega);generalize cN x6 y6 c5=c6 at *
 generalize dN x6 y6 c5=t6 at *
 obtain ⟨k7,g7,z7⟩:=digit x7 y7 c6 b7 d7 (by omega);generalize cN x7 y7 c6=c7 at *
 generalize dN x7 y7 c6=t7 at *
 obtain ⟨k8,g8,z8⟩:=digit x8 y8 c7 b8 d8 (by omega);generalize cN x8 y8 c7=c8 at *
 generalize dN x8 y8 c7=t8 at *
 obtain ⟨k9,g9,z9⟩:=digit x9 y9 c8 b9 d9 (by omega);generalize cN x9 y9 c8=c9 at *
 generalize dN x9 y9 c8=t9 at *
 obtain ⟨k10,g10,z10⟩:=digit x10 y10 c9 b10 d10 (by omega);generalize cN x10 y10 c9=c10 at *
 generalize dN x10 y10 c9=t10 at *
 obtain ⟨k11,g11,z11⟩:=digit x11 y11 c10 b11 d11 (by omega);generalize cN x11 y11 c10=c11 at *
 generalize dN x11 y11 c10=t11 at *
 obtain ⟨k12,g12,z12⟩:=digit x12 y12 c11 b12 d12 (by omega);generalize cN x12 y12 c11=c12 at *
 generalize dN x12 y12 c11=t12 at *
 obtain ⟨k13,g13,z13⟩:=digit x13 y13 c12 b13 d13 (by omega);generalize cN x13 y13 c12=c13 at *
 generalize dN x13 y13 c12=t13 at *
 obtain ⟨k14,g14,z14⟩:=digit x14 y14 c13 b14 d14 (by omega);generalize cN x14 y14 c13=c14 at *
 generalize dN x14 y14 c13=t14 at *
 obtain ⟨k15,g15,z15⟩:=digit x15 y15 c14 b15 d15 (by omega);generalize cN x15 y15 c14=c15 at *
 generalize dN x15 y15 c14=t15 at *
 rw[r01_of n g0 g1 g2 g3 g4 g5 g6 g7 g8 g9 g10 g11 g12 g13 g14 g15];simp only[tfd,obs];have e:wv a+wv b=c15*340282366920938463463374607431768211456+((t8+t9*256+t10*65536+t11*16777216+t12*4294967296+t13*1099511627776+t14*281474976710656+t15*72057594037927936)*18446744073709551616+(t0+t1*256+t2*65536+t3*16777216+t4*4294967296+t5*1099511627776+t6*281474976710656+t7*72057594037927936)):=by
  simp only[wv];omega
 have r1:0<=t8+t9*256+t10*65536+t11*16777216+t12*4294967296+t13*1099511627776+t14*281474976710656+t15*72057594037927936/\t8+t9*256+t10*65536+t11*16777216+t12*4294967296+t13*1099511627776+t14*281474976710656+t15*72057594037927936<=18446744073709551615:=by simp only[Byt] at *;omega
 have r2:0<=t0+t1*256+t2*65536+t3*16777216+t4*4294967296+t5*1099511627776+t6*281474976710656+t7*72057594037927936/\t0+t1*256+t2*65536+t3*16777216+t4*4294967296+t5*1099511627776+t6*281474976710656+t7*72057594037927936<=18446744073709551615:=by simp only[Byt] at *;omega
 generalize t8+t9*256+t10*65536+t11*16777216+t12*4294967296+t13*1099511627776+t14*281474976710656+t15*72057594037927936=hi at *
 generalize t0+t1*256+t2*65536+t3*16777216+t4*4294967296+t5*1099511627776+t6*281474976710656+t7*72057594037927936=lo at *
 clear va va' vb vb';unfold addW;by_cases hc:(0:Int)<c15
 ·rw[q0z hc,q0n (by omega)]
 ·rw[q0n hc,q0z (by omega)];simp only[mkW];refine congrArg (fun z=>some (z,(0:Int))) (Prod.ext ?_ ?_)
  ·simp only;omega
  ·simp only;omega
theorem b0p {α:Type}{l pre rest:List α}{x:α}{i:Int}(h:l=pre++x::rest)(hi:i=pre.length):at? l i=some x:=by
 subst h hi;simp[at?]
theorem idx {α:Type}{l pre rest:List α}{x:α}{i len:Int}(h:l=pre++x::rest)(hi:i=pre.length)(hn:len=l.length):i<len:=by
 have:=congrArg List.length h;simp at this;omega
theorem idxe {α:Type}{l pre:List α}{i len:Int}(h:l=pre++[])(hi:i=pre.length)(hn:len=l.length):¬(i<len):=by
 have:=congrArg List.length h;simp at this;omega
theorem idxw {α:Type}{l pre rest:List α}{x:α}{i:Int}(h:l=pre++x::rest)(hi:i=pre.length)(hL:l.length<=1000000000000):wrap .i64 (i+1)=i+1:=by
 have:=congrArg List.length h;simp at this;rw[w64 (by omega) (by omega)]
theorem idxs {α:Type}{pre:List α}{x:α}{i:Int}(hi:i=pre.length):i+1=((pre++[x]).length:Int):=by simp;omega
theorem idxl {α:Type}{l pre rest:List α}{x:α}(h:l=pre++x::rest):l=(pre++[x])++rest:=by rw[h];simp
theorem evEq (a b:Ev):((decide (a.1=b.1))&&((decide (a.2.1=b.2.1))&&((decide (a.2.2.1=b.2.2.1))&&(a.2.2.2==b.2.2.2))))=decide (a=b):=by
 rw[Bool.eq_iff_iff];simp[Prod.ext_iff]
theorem celEq (a b:Cel):((decide (a.1=b.1))&&((decide (a.2.1.1=b.2.1.1))&&((decide (a.2.1.2.1=b.2.1.2.1))&&((decide (a.2.1.2.2.1=b.2.1.2.2.1))&&((a.2.1.2.2.2==b.2.1.2.2.2)&&((decide (a.2.2.1.1=b.2.2.1.1))&&((decide (a.2.2.1.2.1=b.2.2.1.2.1))&&((decide (a.2.2.1.2.2.1=b.2.2.1.2.2.1))&&((a.2.2.1.2.2.2==b.2.2.1.2.2.2)&&((decide (a.2.2.2.1.1=b.2.2.2.1.1))&&((decide (a.2.2.2.1.2=b.2.2.2.1.2))&&((decide (a.2.2.2.2.1=b.2.2.2.2.1))&&((decide (a.2.2.2.2.2.1=b.2.2.2.2.2.1))&&(decide (a.2.2.2.2.2.2=b.2.2.2.2.2.2)))))))))))))))=decide (a=b):=by
 rw[Bool.eq_iff_iff];simp[Prod.ext_iff];grind
theorem celEq0 (a:Cel):((decide (a.1=(0:Int)))&&((decide (a.2.1.1=(0:Int)))&&((decide (a.2.1.2.1=(0:Int)))&&((decide (a.2.1.2.2.1=(0:Int)))&&((a.2.1.2.2.2==false)&&((decide (a.2.2.1.1=(0:Int)))&&((decide (a.2.2.1.2.1=(0:Int)))&&((decide (a.2.2.1.2.2.1=(0:Int)))&&((a.2.2.1.2.2.2==false)&&((decide (a.2.2.2.1.1=(0:Int)))&&((decide (a.2.2.2.1.2=(0:Int)))&&((decide (a.2.2.2.2.1=(0:Int)))&&((decide (a.2.2.2.2.2.1=(0:Int)))&&(decide (a.2.2.2.2.2.2=(0:Int))))))))))))))))=decide (a=z0):=celEq a z0
def I64 (x:Int):Prop := -9223372036854775808<=x/\x<=9223372036854775807
structure EvW (e:Ev):Prop where
 t:I64 e.1
 v:0<=e.2.1/\e.2.1<=18446744073709551615
 c:I64 e.2.2.1
structure CelW (c:Cel):Prop where
 n:I64 c.1
 f:EvW c.2.1
 l:EvW c.2.2.1
 w:WdOk c.2.2.2.1
 r:I64 c.2.2.2.2.1
 g:I64 c.2.2.2.2.2.1
 s:I64 c.2.2.2.2.2.2
theorem EvW.of {e:Ev}(h:EvOk e):EvW e:=by
 obtain ⟨a,b,c,d,f,g,_⟩:=h;exact ⟨by unfold I64;omega,⟨c,d⟩,by unfold I64;omega⟩
theorem CelW.ofN {c:Cel}(h:CellN c):CelW c:=by
 have:=h.small;have:=h.n1;have:=h.f.t0;have:=h.f.t1;have:=h.l.t0;have:=h.l.t1;have:=h.r;have:=h.g;have:=h.rg;have:=h.s0;have:=h.s1;exact ⟨by unfold I64;omega,.of h.f,.of h.l,h.w,by unfold I64;omega,by unfold I64;omega,by unfold I64;omega⟩
theorem t0c:CelW z0:=⟨by simp[I64,z0],⟨by simp[I64,z0,e0],by simp[z0,e0],by simp[I64,z0,e0]⟩,⟨by simp[I64,z0,e0],by simp[z0,e0],by simp[I64,z0,e0]⟩,⟨by simp[z0],by simp[z0]⟩,by simp[I64,z0],by simp[I64,z0],by simp[I64,z0]⟩
theorem CelW.of {c:Cel}(h:b0x c):CelW c:=by
 rcases h with rfl | h
 ·exact t0c
 ·exact .ofN h
def sumW (l:List Wd):Int:=(l.map wv).sum
theorem c2y {l:List Wd}(h:∀x∈l,WdOk x):0<=sumW l:=by
 induction l with
 | nil=>simp[sumW]
 | cons x l ih =>
  have:=ih fun y hy=>h y (by simp[hy])
  have:=f0p (h x (by simp));simp only[sumW,q3h,List.sum_cons] at *
  omega
theorem y1d (n:Nat)(s2:Wd)(l:List Wd)(hL:l.length<=1000000000000)(hok:∀x∈l,WdOk x):∀(rest pre:List Wd) (f:Nat) (a:Wd) (i len:Int),l=pre++rest->i=pre.length->len=l.length->rest.length<f->WdOk a->wv a+sumW rest<340282366920938463463374607431768211456 ->
  n0f (n+2) f (s2,a,l,len,i,())=some (.inl (s2,mkW (wv a+sumW rest),())):=by
 intro rest;induction rest with
 | nil =>
  intro pre f a i len hl hi hn hf ha hs;obtain ⟨f,rfl⟩:=FSu hf;rw[r0s];have:=idxe hl hi hn;simp only[tfd,q0n this,sumW,List.map_nil,List.sum_nil,Int.add_zero,p1g ha]
 | cons x rest ih =>
  intro pre f a i len hl hi hn hf ha hs;obtain ⟨f,rfl⟩:=FSu hf;rw[r0s];have hlt:=idx hl hi hn;have hxo:WdOk x:=hok x (by rw[hl];simp);have hr:=c2y (l:=rest) fun y hy=>hok y (by rw[hl];simp[hy])
  have hx:=f0p hxo;have hb:=f0p ha;have es:sumW (x::rest)=wv x+sumW rest:=by simp[sumW]
  rw[es] at hs;have ew:addW a x=(mkW (wv a+wv x),0):=q0z (by omega);simp only[tfd,tfn,q0z hlt,b0p hl hi,obs,wide_add n ha hxo,ew,q0z trivial];rw[idxw hl hi hL];rw[ih (pre++[x]) f (mkW (wv a+wv x)) (i+1) len (idxl hl) (idxs hi) hn (by simp at hf;omega) (y0m (by omega) (by omega)) (by rw[t0h];omega),t0h,es];rw[show wv a+wv x+sumW rest=wv a+(wv x+sumW rest) by omega]
theorem wide_sum (n:Nat)(l:List Wd)(hL:l.length<=1000000000000)(hok:∀x∈l,WdOk x)(hs:sumW l<340282366920938463463374607431768211456):g1w (n+3) l=some (mkW (sumW l),0):=by
 rw[r1b,y1d n (0,0) l hL hok l [] a0b (0,0) 0 l.length rfl rfl rfl (by unfold a0b;omega) ⟨by simp,by simp⟩ (by simpa [a1a] using hs)];simp[a1a]
theorem e2t (n:Nat)(s2:Wd)(l:List Wd)(hL:l.length<=1000000000000)(hok:∀x∈l,WdOk x):∀(rest pre:List Wd) (f:Nat) (a:Wd) (i len:Int),l=pre++rest->i=pre.length->len=l.length->rest.length<f->WdOk a->wv a+sumW rest<340282366920938463463374607431768211456 ->
  q0w (n+2) f (s2,a,l,len,i,())=some (.inl (s2,mkW (wv a+sumW rest),())):=by
 intro rest;induction rest with
 | nil =>
  intro pre f a i len hl hi hn hf ha hs;obtain ⟨f,rfl⟩:=FSu hf;rw[v0c];have:=idxe hl hi hn;simp only[tfd,q0n this,sumW,List.map_nil,List.sum_nil,Int.add_zero,p1g ha]
 | cons x rest ih =>
  intro pre f a i len hl hi hn hf ha hs;obtain ⟨f,rfl⟩:=FSu hf;rw[v0c];have hlt:=idx hl hi hn;have hxo:WdOk x:=hok x (by rw[hl];simp);have hr:=c2y (l:=rest) fun y hy=>hok y (by rw[hl];simp[hy])
  have hx:=f0p hxo;have hb:=f0p ha;have es:sumW (x::rest)=wv x+sumW rest:=by simp[sumW]
  rw[es] at hs;have ew:addW a x=(mkW (wv a+wv x),0):=q0z (by omega);simp only[tfd,tfn,q0z hlt,b0p hl hi,obs,b1g n ha hxo,ew,q0z trivial];rw[idxw hl hi hL];rw[ih (pre++[x]) f (mkW (wv a+wv x)) (i+1) len (idxl hl) (idxs hi) hn (by simp at hf;omega) (y0m (by omega) (by omega)) (by rw[t0h];omega),t0h,es];rw[show wv a+wv x+sumW rest=wv a+(wv x+sumW rest) by omega]
theorem r01_sum (n:Nat)(l:List Wd)(hL:l.length<=1000000000000)(hok:∀x∈l,WdOk x)(hs:sumW l<340282366920938463463374607431768211456):t1w (n+3) l=some (mkW (sumW l),0):=by
 rw[a2d,e2t n (0,0) l hL hok l [] a0b (0,0) 0 l.length rfl rfl rfl (by unfold a0b;omega) ⟨by simp,by simp⟩ (by simpa [a1a] using hs)];simp[a1a]
theorem d1b (n:Nat)(s4 out:Wd):∀(k f:Nat) (m:Int) (a:Wd),m<=k->k<f->0<m->m<=18446744073709551615->WdOk a->c0w (n+2) f (m,a,s4,out,true,())=some (.inr ((0,0),1)):=by
 intro k;induction k with
 | zero=>intro f m a h1 h2 h3;omega
 | succ k ih =>
  intro f m a h1 h2 h3 h4 ha;obtain ⟨f,rfl⟩:∃g,f=g+1:=⟨f-1,by omega⟩;rw[g0t];simp only[tfd,q0z h3,e0k (a:=m) (by omega),tft];by_cases c:m % 2=1
  ·rw[q0z c]
  ·rw[q0n c,b1g n ha ha];simp only[obs];rw[j0v (by omega),wu64 (by omega) (by omega)];exact ih f (m / 2) (addW a a).1 (by omega) (by omega) (by omega) (by omega) (by
    unfold addW;have:=f0p ha;split
    ·exact y0m (by omega) (by omega)
    ·exact ⟨by simp,by simp⟩)
theorem t1v (n:Nat)(s4:Wd):∀(k f:Nat) (m:Int) (a out:Wd),m<=k->k<f->0<=m->m<=18446744073709551615->WdOk a->WdOk out->∀p,p=wv a*m ->
  c0w (n+2) f (m,a,s4,out,false,())=some (if wv out+p<340282366920938463463374607431768211456 then .inl (s4,mkW (wv out+p),()) else .inr ((0,0),1)):=by
 intro k;induction k with
 | zero =>
  intro f m a out h1 h2 h3 h4 ha ho p hp;obtain ⟨f,rfl⟩:∃g,f=g+1:=⟨f-1,by omega⟩;obtain rfl:m=0:=by omega
  rw[g0t];have:=f0p ho;rw[Int.mul_zero] at hp;subst hp;simp only[tfd,q0n (show ¬((0:Int)<0) by omega),Int.add_zero];rw[q0z (by omega),p1g ho]
 | succ k ih =>
  intro f m a out h1 h2 h3 h4 ha ho p hp;obtain ⟨f,rfl⟩:∃g,f=g+1:=⟨f-1,by omega⟩;rw[g0t];have ra:=f0p ha;have ro:=f0p ho;by_cases h0:0<m
  ·have hp0:0<=p:=by rw[hp];exact Int.mul_nonneg ra.1 h3
   have hq:wv a*m=2*(wv a*(m / 2))+wv a*(m % 2):=by
    have e:m=2*(m / 2)+m % 2:=by omega
    conv=>lhs;rw[e,Int.mul_add,Int.mul_left_comm]
   have hq0:0<=wv a*(m / 2):=Int.mul_nonneg ra.1 (by omega);have hq1:1<=m / 2->wv a<=wv a*(m / 2):=fun h=>by
    have:=Int.mul_le_mul_of_nonneg_left h ra.1;omega
   have hz:m / 2=0->wv a*(m / 2)=0:=fun h=>by rw[h,Int.mul_zero]
   rw[<-hp] at hq;have next:∀out':Wd,WdOk out'->a0a (some (addW a a)) (fun r1=>tif false (c0w (n+2) f (wrap .u64 (Int.tdiv m 2),r1.1,s4,out',true,())) (c0w (n+2) f (wrap .u64 (Int.tdiv m 2),r1.1,s4,out',!(decide (r1.2=(0:Int))),()))) =
     some (if wv out'+2*(wv a*(m / 2))<340282366920938463463374607431768211456 then .inl (s4,mkW (wv out'+2*(wv a*(m / 2))),()) else .inr ((0,0),1)):=by
    intro out' ho';have ro':=f0p ho';rw[j0v (by omega),wu64 (by omega) (by omega)];simp only[obs,tff];by_cases hov:wv a+wv a<340282366920938463463374607431768211456
    ·have ew:addW a a=(mkW (wv a+wv a),0):=q0z hov;rw[ew];have:=ih f (m / 2) (mkW (wv a+wv a)) out' (by omega) (by omega) (by omega) (by omega) (y0m (by omega) hov) ho' (2*(wv a*(m / 2))) (by rw[t0h,<-Int.two_mul,Int.mul_assoc])
     simpa using this
    ·have ew:addW a a=((0,0),1):=q0n hov;rw[ew];by_cases hm:0<m / 2
     ·have:=d1b n s4 out' k f (m / 2) (0,0) (by omega) (by omega) hm (by omega) ⟨by simp,by simp⟩;have:=hq1 (by omega);rw[q0n (by omega)]
      simpa using by assumption
     ·obtain ⟨f,rfl⟩:∃g,f=g+1:=⟨f-1,by omega⟩;have e0:m / 2=0:=by omega
      rw[hz e0,e0,g0t];simp only[tfd,q0n (show ¬((0:Int)<0) by omega),Int.mul_zero,Int.add_zero];rw[q0z (by omega),p1g ho']
   simp only[tfd,q0z h0,e0k (a:=m) (by omega),tff];by_cases c:m % 2=1
   ·rw[q0z c,b1g n ho ha];rw[c,Int.mul_one] at hq;by_cases hov:wv out+wv a<340282366920938463463374607431768211456
    ·have ew:addW out a=(mkW (wv out+wv a),0):=q0z hov;rw[ew];have:=next (mkW (wv out+wv a)) (y0m (by omega) hov);rw[t0h] at this;rw[b1g n ha ha];simp only[tff] at this;simp only[obs,tfn,tfd,q0z trivial,tff] at this ⊢;rw[this,hq];rw[show wv out+(2*(wv a*(m / 2))+wv a)=wv out+wv a+2*(wv a*(m / 2)) by omega]
    ·have ew:addW out a=((0,0),1):=q0n hov;rw[ew];simp only[obs,tfn,tfd];rw[q0n (by decide),q0n (by omega)]
   ·rw[q0n c,b1g n ha ha];have c0:m % 2=0:=by omega
    rw[c0,Int.mul_zero,Int.add_zero] at hq;have:=next out ho;simp only[tff] at this;simp only[obs] at this ⊢;rw[this,hq]
  ·obtain rfl:m=0:=by omega
   rw[Int.mul_zero] at hp;subst hp;simp only[tfd,q0n (show ¬((0:Int)<0) by omega),Int.add_zero];rw[q0z (by omega),p1g ho]
theorem e2s (n:Nat){a:Wd}(ha:WdOk a)(k:Int)(hk:0<=k/\k<=18446744073709551615):m0d (n+3) a k=some (e1o a k):=by
 rw[o1m,t1v n (0,0) 18446744073709551615 a0b k a (0,0) (by omega) (by unfold a0b;omega) hk.1 hk.2 ha ⟨by simp,by simp⟩ _ rfl];simp only[a1a,Int.zero_add,obs];unfold e1o;by_cases h:wv a*k<340282366920938463463374607431768211456
 ·rw[q0z h,q0z h];simp
 ·rw[q0n h,q0n h];simp
theorem f0u (n:Nat){e:Ev}(h:EvW e):d0q (n+1) e=some (if EvOk e then 0 else 2):=by
 obtain ⟨_,hv,_⟩:=h;rw[e1d];simp only[tfd];by_cases h1:e.1<0
 ·rw[q0z h1,q0n (fun k=>by have:=k.t0;omega)]
 by_cases h2:(35184372088832:Int)<=e.1
 ·rw[q0n h1,q0z h2,q0n (fun k=>by have:=k.t1;omega)]
 by_cases h3:e.2.2.1<0
 ·rw[q0n h1,q0n h2,q0z h3,q0n (fun k=>by have:=k.c0;omega)]
 by_cases h4:e.1<e.2.2.1
 ·rw[q0n h1,q0n h2,q0n h3,q0z h4,q0n (fun k=>by have:=k.c1;omega)]
 rw[q0n h1,q0n h2,q0n h3,q0n h4];cases h5:e.2.2.2 with
 | false =>
  rw[tff,q0z ⟨by omega,by omega,hv.1,hv.2,by omega,by omega,fun k=>by rw[h5] at k;cases k⟩]
 | true =>
  rw[tft];by_cases h6:e.2.1=0/\e.2.2.1=0
  ·rw[q0z ⟨by omega,by omega,hv.1,hv.2,by omega,by omega,fun _=>h6⟩];simp[h6]
  ·rw[q0n (fun k=>h6 (k.st h5))];by_cases h7:e.2.1=0
   ·have h8:¬(e.2.2.1=0):=fun k=>h6 ⟨h7,k⟩
    simp[h7,h8]
   ·simp[h7]
theorem g0s (n:Nat){e:Ev}(h:EvW e):e0p (n+1) e=some (if EvOk e then 0 else 2):=by
 obtain ⟨_,hv,_⟩:=h;rw[o1j];simp only[tfd,tfn];by_cases h1:e.1<0
 ·rw[q0z h1,q0n (fun k=>by have:=k.t0;omega)]
 by_cases h2:(35184372088832:Int)<=e.1
 ·rw[q0n h1,q0z h2,q0n (fun k=>by have:=k.t1;omega)]
 by_cases h3:e.2.2.1<0
 ·rw[q0n h1,q0n h2,q0z h3,q0n (fun k=>by have:=k.c0;omega)]
 by_cases h4:e.1<e.2.2.1
 ·rw[q0n h1,q0n h2,q0n h3,q0z h4,q0n (fun k=>by have:=k.c1;omega)]
 rw[q0n h1,q0n h2,q0n h3,q0n h4];cases h5:e.2.2.2 with
 | false =>
  rw[tff,q0z ⟨by omega,by omega,hv.1,hv.2,by omega,by omega,fun k=>by rw[h5] at k;cases k⟩]
 | true =>
  rw[tft];by_cases h6:e.2.1=0/\e.2.2.1=0
  ·rw[q0z h6.1,q0z h6.2,q0z ⟨by omega,by omega,hv.1,hv.2,by omega,by omega,fun _=>h6⟩]
  ·by_cases h7:e.2.1=0
   ·have h8:¬(e.2.2.1=0):=fun k=>h6 ⟨h7,k⟩
    rw[q0z h7,q0n h8,q0n (fun k=>h6 (k.st h5))]
   ·rw[q0n h7,q0n (fun k=>h6 (k.st h5))]
theorem zif (p:Prop)[Decidable p]:decide ((if p then (0:Int) else 2)=0)=decide p:=by by_cases h:p<;>simp[h]
theorem k1p (n:Nat)(l:List Ev)(hL:l.length<=1000000000000)(hw:∀e∈l,EvW e):∀(rest pre:List Ev) (f:Nat) (i len:Int),l=pre++rest->i=pre.length->len=l.length->rest.length<f ->
  i0a (n+1) f (l,len,i,())=some (if ∀e∈rest,EvOk e then .inl () else .inr false):=by
 intro rest;induction rest with
 | nil =>
  intro pre f i len hl hi hn hf;obtain ⟨f,rfl⟩:=FSu hf;rw[m0o];have:=idxe hl hi hn;simp[tfd,q0n this]
 | cons x rest ih =>
  intro pre f i len hl hi hn hf;obtain ⟨f,rfl⟩:=FSu hf;rw[m0o];have hlt:=idx hl hi hn;have hx:EvW x:=hw x (by rw[hl];simp);simp only[tfd,tfn,q0z hlt,b0p hl hi,obs,f0u n hx,idxw hl hi hL];by_cases ho:EvOk x
  ·rw[q0z ho,q0z rfl,ih (pre++[x]) f (i+1) len (idxl hl) (idxs hi) hn (by simp at hf;omega)];have e:(∀e∈x::rest,EvOk e)↔(∀e∈rest,EvOk e):=by simp[ho]
   by_cases hr:∀e∈rest,EvOk e
   ·rw[q0z hr,q0z (e.2 hr)]
   ·rw[q0n hr,q0n (fun k=>hr (e.1 k))]
  ·have h2:¬(∀e∈x::rest,EvOk e):=fun k=>ho (k x (by simp))
   rw[q0n ho,q0n (by decide),q0n h2]
theorem b1v (n:Nat)(l:List Ev)(hL:l.length<=1000000000000)(hw:∀e∈l,EvW e):k0n (n+2) l=some (decide (∀e∈l,EvOk e)):=by
 rw[e1c,k1p n l hL hw l [] a0b 0 l.length rfl rfl rfl (by unfold a0b;omega)];by_cases h:∀e∈l,EvOk e
 ·rw[q0z h,q2a h];simp
 ·rw[q0n h,q1z h];simp
theorem y0p (n:Nat){p c:Ev}(hp:EvW p)(hc:EvW c):k0n (n+2) [p,c]=some (decide (EvOk p/\EvOk c)):=by
 rw[b1v n [p,c] (by simp) (by simp[hp,hc])];simp
theorem q0a (n:Nat){p c:Ev}(hp:EvW p)(hc:EvW c):i0k (n+3) p c=some (decide (EvOk p/\EvOk c/\p.1<c.1)):=by
 rw[b1w,y0p n hp hc];by_cases h:EvOk p/\EvOk c
 ·simp[h.1,h.2]
 ·have h2:¬(EvOk p/\EvOk c/\p.1<c.1):=fun k=>h ⟨k.1,k.2.1⟩
  rw[q1z h,q1z h2];simp
def l1d (d:Int×(Int×(Int×Int))):Cel:=(0,(e0,(e0,((0,d.1),(d.2.1,(d.2.2.1,d.2.2.2))))))
theorem s0l (n:Nat)(c:Ev)(s:Int):r0i (n+2) c s=some (l1d (c.2.1,1,0,s)):=by
 rw[k1r,r1a];rfl
theorem k1q (n:Nat){p c:Ev}(hp:EvOk p)(hc:EvOk c):o0f (n+3) p c=some (if p.1<c.1 then (l1d (btw p c),0) else (z0,9)):=by
 rw[z0e,y0p n (.of hp) (.of hc),q2a ⟨hp,hc⟩];simp only[obs,q2t,tff,tfd];by_cases h:p.1<c.1
 ·have h':¬(c.1<=p.1):=by omega
  rw[q0n h',q0z h];obtain ⟨a1,a2,a3,a4,a5,a6,a7⟩:=hp;obtain ⟨b1,b2,b3,b4,b5,b6,b7⟩:=hc;unfold btw;cases k1:c.2.2.2 with
  | true=>rw[tft,q0z rfl];rfl
  | false =>
   rw[tff,q0n Bool.false_ne_true];by_cases k2:p.1<c.2.2.1
   ·rw[q0z k2,q0z k2,s0l,w64 (by omega) (by omega)];rfl
   rw[q0n k2,q0n k2];cases k3:p.2.2.2 with
   | true=>rw[tft,q0z rfl];rfl
   | false =>
    rw[tff,q0n Bool.false_ne_true];by_cases k4:c.2.1<p.2.1
    ·rw[q0z k4,q0z k4,s0l,w64 (by omega) (by omega)];rfl
    ·rw[q0n k4,q0n k4,r1a,w64 (by omega) (by omega),wu64 (by omega) (by omega)];rfl
 ·rw[q0z (by omega),q0n h];rfl
theorem t1q (n:Nat){p c:Ev}(hp:EvOk p)(hc:EvOk c):k0i (n+2) p c=some (if p.1<c.1 then (l1d (btw p c),0) else (z0,9)):=by
 rw[d1a,g0s n (.of hp),g0s n (.of hc)];simp only[obs,q0z hp,q0z hc,tfn,tfd,q0z trivial];by_cases h:p.1<c.1
 ·have h':¬(c.1<=p.1):=by omega
  rw[q0n h',q0z h];obtain ⟨a1,a2,a3,a4,a5,a6,a7⟩:=hp;obtain ⟨b1,b2,b3,b4,b5,b6,b7⟩:=hc;unfold btw;cases k1:c.2.2.2 with
  | true=>rw[tft,q0z rfl];rfl
  | false =>
   rw[tff,q0n Bool.false_ne_true];by_cases k2:p.1<c.2.2.1
   ·rw[q0z k2,q0z k2,w64 (by omega) (by omega)];rfl
   rw[q0n k2,q0n k2];cases k3:p.2.2.2 with
   | true=>rw[tft,q0z rfl];rfl
   | false =>
    rw[tff,q0n Bool.false_ne_true];by_cases k4:c.2.1<p.2.1
    ·rw[q0z k4,q0z k4,w64 (by omega) (by omega)];rfl
    ·rw[q0n k4,q0n k4,w64 (by omega) (by omega),wu64 (by omega) (by omega)];rfl
 ·rw[q0z (by omega),q0n h];rfl
theorem o0j (n:Nat)(c:Cel):q0b (n+1) c=some (decide (c=z0)):=by rw[q1l,celEq0]
theorem v1i (n:Nat)(x m:Int):c1c (n+1) x m=some (decide (0<=x/\x<=m)):=by
 rw[b2s];by_cases h1:(0:Int)<=x<;>by_cases h2:x<=m<;>simp[h1,h2]
def q1x (c:Cel):Prop:=(c.1=1/\c.2.1=c.2.2.1/\EvOk c.2.1)\/(1<c.1/\EvOk c.2.1/\EvOk c.2.2.1/\c.2.1.1<c.2.2.1.1/\c.1-1<=c.2.2.1.1-c.2.1.1)
instance (c:Cel):Decidable (q1x c):=by unfold q1x;infer_instance
theorem e1h (n:Nat){c:Cel}(hw:CelW c):x0p (n+4) c=some (decide (q1x c)):=by
 rw[l1i,evEq];simp only[tfd];by_cases h1:c.1=1
 ·rw[q0z h1];by_cases h2:c.2.1=c.2.2.1
  ·rw[q0z h2,f0u _ hw.f];simp only[obs,zif];congr 1;refine q2s.2 ⟨fun h => .inl ⟨h1,h2,h⟩,fun h => ?_⟩;rcases h with h | h
   ·exact h.2.2
   ·exact h.2.1
  ·rw[q0n h2,q1z];rintro (h | h)
   ·exact h2 h.2.1
   ·omega
 ·rw[q0n h1];by_cases h2:1<c.1
  ·rw[q0z h2,q0a _ hw.f hw.l];simp only[obs,tfd];by_cases h3:EvOk c.2.1/\EvOk c.2.2.1/\c.2.1.1<c.2.2.1.1
   ·rw[q0z h3];obtain ⟨h3,h4,h5⟩:=h3;have:=hw.n;unfold I64 at this;have:=h3.t0;have:=h4.t1;have:=h3.t1;have:=h4.t0;rw[w64 (by omega) (by omega),w64 (by omega) (by omega)];congr 1;refine q2s.2 ⟨fun h => .inr ⟨h2,h3,h4,h5,h⟩,fun h => ?_⟩;rcases h with h | h
    ·omega
    ·exact h.2.2.2.2
   ·rw[q0n h3,q1z];rintro (h | h)
    ·omega
    ·exact h3 ⟨h.2.1,h.2.2.1,h.2.2.2.1⟩
  ·rw[q0n h2,q1z];rintro (h | h)<;>omega
theorem CellN.spans {c:Cel}(h:CellN c):q1x c:=by
 by_cases h1:c.1=1
 ·exact .inl ⟨h1,h.one h1,h.f⟩
 ·have:=h.n1;exact .inr ⟨by omega,h.f,h.l,h.more (by omega),h.n2⟩
theorem x1t {c:Cel}(hw:CelW c)(hs:q1x c)(hi:wv c.2.2.2.1<=18446744073709551615*(c.1-1))(hr:0<=c.2.2.2.2.1)(hg:0<=c.2.2.2.2.2.1)(hrg:c.2.2.2.2.1+c.2.2.2.2.2.1<=c.1-1)
  (h0:0<=c.2.2.2.2.2.2) (h1:c.2.2.2.2.2.2<=c.2.2.1.1-c.2.1.1):CellN c:=by
 rcases hs with ⟨a,b,d⟩ | ⟨a,b,d,e,f⟩
 ·exact ⟨by omega,d,b ▸ d,fun _=>b,fun h=>by omega,by rw[b];omega,hw.w,hi,hr,hg,hrg,h0,h1⟩
 ·exact ⟨by omega,b,d,fun h=>by omega,fun _=>e,f,hw.w,hi,hr,hg,hrg,h0,h1⟩
theorem r1v {c:Cel}(h:q1x c):1<=c.1/\c.1<=35184372088832/\0<=c.2.2.1.1-c.2.1.1/\c.2.2.1.1-c.2.1.1<=35184372088832:=by
 rcases h with ⟨a,b,d⟩ | ⟨a,b,d,e,f⟩
 ·rw[b];have:=d.t0;omega
 ·have:=b.t0;have:=d.t1;omega
theorem e1n {k:Int}(h:0<=k/\k<=35184372088832):e1o (0,18446744073709551615) k=(mkW (18446744073709551615*k),0):=by
 unfold e1o;rw[show wv (0,18446744073709551615)=18446744073709551615 from rfl,q0z (by omega)]
theorem x0q (n:Nat){c:Cel}(hw:CelW c):m0s (n+5) c=some (if b0x c then 0 else 2):=by
 rw[l1l,o0j,e1h n hw];simp only[obs,tfd,tfn];by_cases h0:c=z0
 ·rw[q0z h0,q0z (.inl h0)]
 rw[q0n h0];by_cases hs:q1x c
 ·rw[q0z hs];obtain ⟨s1,s2,s3,s4⟩:=r1v hs;have hg:=hw.g;have hr:=hw.r;have hse:=hw.s;unfold I64 at hg hr hse;have hmw:WdOk (mkW (18446744073709551615*(c.1-1))):=y0m (by omega) (by omega);rw[r1a,w64 (x:=c.1-1) (by omega) (by omega),wu64 (by omega) (by omega)];simp only[obs];rw[y1c (n+2) ⟨by simp,by simp⟩ _ (by omega),e1n (by omega)];simp only[obs,q0z trivial,c2g (n+3) hmw hw.w,t0h,v1i,tfd];by_cases c1:18446744073709551615*(c.1-1)<wv c.2.2.2.1
  ·rw[q0z c1,q0n (fun k=>by have:=(k.n h0).inc;omega)]
  rw[q0n c1];by_cases c2:0<=c.2.2.2.2.2.1/\c.2.2.2.2.2.1<=c.1-1
  ·rw[q0z c2,w64 (by omega) (by omega)];by_cases c3:0<=c.2.2.2.2.1/\c.2.2.2.2.1<=c.1-1-c.2.2.2.2.2.1
   ·rw[q0z c3,w64 (by omega) (by omega)];by_cases c4:0<=c.2.2.2.2.2.2/\c.2.2.2.2.2.2<=c.2.2.1.1-c.2.1.1
    ·rw[q0z c4,q0z (.inr (x1t hw hs (by omega) c3.1 c2.1 (by omega) c4.1 c4.2))]
    ·rw[q0n c4,q0n (fun k=>c4 ⟨(k.n h0).s0,(k.n h0).s1⟩)]
   ·rw[q0n c3,q0n (fun k=>c3 (by have:=(k.n h0).r;have:=(k.n h0).rg;omega))]
  ·rw[q0n c2,q0n (fun k=>c2 (by have:=(k.n h0).r;have:=(k.n h0).g;have:=(k.n h0).rg;omega))]
 ·rw[q0n hs,q0n (fun k=>hs (CellN.spans (k.n h0)))]
theorem b1d (n:Nat){c:Cel}(hw:CelW c):p0g (n+4) c=some (if b0x c then 0 else 2):=by
 rw[o1i,evEq,celEq0,g0s _ hw.f,g0s _ hw.l];simp only[obs,tfd,tfn];by_cases h0:c=z0
 ·rw[q0z h0,q0z (.inl h0)]
 rw[q0n h0];have no:∀ {p:Prop},(CellN c->p)->¬p->(if b0x c then (0:Int) else 2)=2:=fun h h'=>q0n (fun k=>h' (h (k.n h0)))
 by_cases c1:c.1<1
 ·rw[q0z c1,no (fun k=>k.n1) (by omega)]
 rw[q0n c1];by_cases c2:EvOk c.2.1
 case neg=>rw[q0n c2,q0n (by decide),no (fun k=>k.f) c2]
 by_cases c3:EvOk c.2.2.1
 case neg=>rw[q0z c2,q0z rfl,q0n c3,q0n (by decide),no (fun k=>k.l) c3]
 rw[q0z c2,q0z rfl,q0z c3,q0z rfl];have t0:=c2.t0;have t1:=c2.t1;have t2:=c3.t0;have t3:=c3.t1;by_cases c4:c.2.2.1.1<c.2.1.1
 ·rw[q0z c4,no (fun k=>k.ft) (by omega)]
 rw[q0n c4,w64 (x:=c.2.2.1.1-c.2.1.1) (by omega) (by omega),w64 (x:=c.2.2.1.1-c.2.1.1+1) (by omega) (by omega)];by_cases c5:c.2.2.1.1-c.2.1.1+1<c.1
 ·rw[q0z c5,no (fun k=>k.n2) (by omega)]
 rw[q0n c5];have hg:=hw.g;have hr:=hw.r;have hse:=hw.s;unfold I64 at hg hr hse;have hmw:WdOk (mkW (18446744073709551615*(c.1-1))):=y0m (by omega) (by omega);rw[w64 (x:=c.1-1) (by omega) (by omega),wu64 (by omega) (by omega),e2s n (a:=(0,18446744073709551615)) ⟨by simp,by simp⟩ _ (by omega),e1n (by omega)];simp only[obs,r01_less (n+1) hmw hw.w,t0h,tfd];have tail:q1x c->(if c.2.2.2.2.1<0 then some (2:Int) else if c.2.2.2.2.2.1<0 then some 2 else if c.2.2.2.2.2.2<0 then some 2 else if c.1<=c.2.2.2.2.1 then some 2 else if c.1<=c.2.2.2.2.2.1 then some 2
   else if c.1<=wrap .i64 (c.2.2.2.2.1+c.2.2.2.2.2.1) then some 2 else if c.2.2.1.1-c.2.1.1<c.2.2.2.2.2.2 then some 2 else if 18446744073709551615*(c.1-1)<wv c.2.2.2.1 then some 2 else some 0)=some (if b0x c then 0 else 2):=by
  intro hs;by_cases d1:c.2.2.2.2.1<0
  ·rw[q0z d1,no (fun k=>k.r) (by omega)]
  by_cases d2:c.2.2.2.2.2.1<0
  ·rw[q0n d1,q0z d2,no (fun k=>k.g) (by omega)]
  by_cases d3:c.2.2.2.2.2.2<0
  ·rw[q0n d1,q0n d2,q0z d3,no (fun k=>k.s0) (by omega)]
  by_cases d4:c.1<=c.2.2.2.2.1
  ·rw[q0n d1,q0n d2,q0n d3,q0z d4,no (fun k=>k.rg) (by omega)]
  by_cases d5:c.1<=c.2.2.2.2.2.1
  ·rw[q0n d1,q0n d2,q0n d3,q0n d4,q0z d5,no (fun k=>k.rg) (by omega)]
  rw[q0n d1,q0n d2,q0n d3,q0n d4,q0n d5,w64 (x:=c.2.2.2.2.1+c.2.2.2.2.2.1) (by omega) (by omega)];by_cases d6:c.1<=c.2.2.2.2.1+c.2.2.2.2.2.1
  ·rw[q0z d6,no (fun k=>k.rg) (by omega)]
  by_cases d7:c.2.2.1.1-c.2.1.1<c.2.2.2.2.2.2
  ·rw[q0n d6,q0z d7,no (fun k=>k.s1) (by omega)]
  by_cases d8:18446744073709551615*(c.1-1)<wv c.2.2.2.1
  ·rw[q0n d6,q0n d7,q0z d8,no (fun k=>k.inc) (by omega)]
  ·rw[q0n d6,q0n d7,q0n d8,q0z (.inr (x1t hw hs (by omega) (by omega) (by omega) (by omega) (by omega) (by omega)))]
 by_cases c6:c.1=1
 ·rw[q0z c6];by_cases c7:c.2.1=c.2.2.1
  ·rw[q0z c7,q0n (show ¬(1<c.1) by omega)];exact tail (.inl ⟨c6,c7,c2⟩)
  ·rw[q0n c7,no (fun k=>k.one c6) c7]
 ·rw[q0n c6];have c8:1<c.1:=by omega
  rw[q0z c8];by_cases c9:c.2.1.1=c.2.2.1.1
  ·rw[q0z c9,no (fun k=>k.more c8) (by omega)]
  ·rw[q0n c9];exact tail (.inr ⟨c8,c2,c3,by omega,by omega⟩)
theorem z02 (p:Prop)[Decidable p]:((if p then (0:Int) else 2)=0)↔p:=by by_cases h:p<;>simp[h]
theorem l1q {a b:Cel}(ha:a≠z0)(hb:b≠z0):Ahead a b↔a.2.2.1.1<b.2.1.1:=⟨fun h=>(h.resolve_left ha).resolve_left hb,fun h => .inr (.inr h)⟩
theorem mrgE_z0 {b:Cel}(hb:b0x b):mrgE z0 b=(b,0):=by
 unfold mrgE;rw[q0z (And.intro f2k hb),q0z (.inl rfl),l1u]
theorem f1w {a b:Cel}(na:CellN a)(nb:CellN b)(h:a.2.2.1.1<b.2.1.1) :
  (∀x∈[a.2.2.2.1,(l1d (btw a.2.2.1 b.2.1)).2.2.2.1,b.2.2.2.1],WdOk x)/\sumW [a.2.2.2.1,(l1d (btw a.2.2.1 b.2.1)).2.2.2.1,b.2.2.2.1]=wv a.2.2.2.1+(btw a.2.2.1 b.2.1).1+wv b.2.2.2.1 /\
  wv a.2.2.2.1+(btw a.2.2.1 b.2.1).1+wv b.2.2.2.1<340282366920938463463374607431768211456:=by
 have d:=x1u na.l nb.f h;have ia:=na.inc;have ib:=nb.inc;have sa:=na.small;have sb:=nb.small;have d1:=d.i;refine ⟨?_,?_,by omega⟩
 ·intro x hx;simp only[q2l,List.not_mem_nil,or_false] at hx;rcases hx with rfl | rfl | rfl
  ·exact na.w
  ·exact ⟨by simp[l1d],d1⟩
  ·exact nb.w
 ·simp[sumW,l1d,wv_lo];omega
theorem g1i (n:Nat){a b:Cel}(ha:CelW a)(hb:CelW b):r0j (n+6) a b=some (mrgE a b):=by
 rw[l1k,x0q n ha,x0q n hb,o0j,o0j];simp only[obs,tfd,tfn,z02];unfold mrgE;by_cases h1:b0x a
 case neg=>rw[q0n h1,q0n (fun k=>h1 k.1)];rfl
 by_cases h2:b0x b
 case neg=>rw[q0z h1,q0n h2,q0n (fun k=>h2 k.2)];rfl
 rw[q0z h1,q0z h2,q0z (And.intro h1 h2)];by_cases h3:a=z0
 ·rw[q0z h3,q0z (.inl h3),h3,l1u]
 by_cases h4:b=z0
 ·rw[q0n h3,q0z h4,q0z (.inr (.inl h4)),h4,f2m]
 rw[q0n h3,q0n h4];have na:=h1.n h3;have nb:=h2.n h4;rw[q1m,k1q (n+1) na.l nb.f];simp only[obs];by_cases h5:a.2.2.1.1<b.2.1.1
 ·obtain ⟨w1,w2,w3⟩:=f1w na nb h5;have d:=x1u na.l nb.f h5;rw[q0z h5,q0z ((l1q h3 h4).2 h5)];simp only[decide_true,q2t,tff];rw[wide_sum (n+1) _ (by simp) w1 (by rw[w2];exact w3),w2];simp only[obs];rw[p1f na nb];have:=na.small;have:=nb.small;have:=na.n1;have:=nb.n1;have:=na.r;have:=na.g;have:=na.rg;have:=nb.r;have:=nb.g;have:=nb.rg;have:=na.s0;have:=na.s1;have:=nb.s0;have:=nb.s1;have:=na.f.t0;have:=na.l.t1;have:=nb.f.t0;have:=nb.l.t1;obtain ⟨d1,d2,d3,d4,d5⟩:=d;simp only[l1d]
  rw[w64 (x:=a.1+b.1) (by omega) (by omega),w64 (x:=a.2.2.2.2.1+b.2.2.2.2.1) (by omega) (by omega),w64 (x:=a.2.2.2.2.2.1+b.2.2.2.2.2.1) (by omega) (by omega),w64 (x:=a.2.2.2.2.2.2+b.2.2.2.2.2.2) (by omega) (by omega)];rw[w64 (by omega) (by omega),w64 (by omega) (by omega),w64 (by omega) (by omega)];refine congrArg some (Prod.ext (Prod.ext rfl (Prod.ext rfl (Prod.ext rfl (Prod.ext rfl (Prod.ext ?_ (Prod.ext ?_ ?_)))))) rfl)<;>simp only<;>omega
 ·rw[q0n h5,q0n (fun k=>h5 ((l1q h3 h4).1 k))];simp only[tfn,tfd];rw[q0n (by decide)];rfl
theorem o1g (n:Nat){a b:Cel}(ha:CelW a)(hb:CelW b):u0z (n+5) a b=some (mrgE a b):=by
 rw[o1h,b1d n ha,b1d n hb];simp only[obs,tfd,tfn,z02];unfold mrgE;by_cases h1:b0x a
 case neg=>rw[q0n h1,q0n (fun k=>h1 k.1)];rfl
 by_cases h2:b0x b
 case neg=>rw[q0z h1,q0n h2,q0n (fun k=>h2 k.2)];rfl
 rw[q0z h1,q0z h2,q0z (And.intro h1 h2)];by_cases h3:a=z0
 ·rw[q0z (h1.count.1.2 h3),q0z (.inl h3),h3,l1u]
 by_cases h4:b=z0
 ·rw[q0n (mt h1.count.1.1 h3),q0z (h2.count.1.2 h4),q0z (.inr (.inl h4)),h4,f2m]
 rw[q0n (mt h1.count.1.1 h3),q0n (mt h2.count.1.1 h4)];have na:=h1.n h3;have nb:=h2.n h4;by_cases h5:a.2.2.1.1<b.2.1.1
 ·obtain ⟨w1,w2,w3⟩:=f1w na nb h5;have d:=x1u na.l nb.f h5;rw[q0n (by omega),q0z ((l1q h3 h4).2 h5),t1q (n+2) na.l nb.f,q0z h5];simp only[obs];rw[r01_sum (n+1) _ (by simp) w1 (by rw[w2];exact w3),w2];simp only[obs];rw[p1f na nb];have:=na.small;have:=nb.small;have:=na.n1;have:=nb.n1;have:=na.r;have:=na.g;have:=na.rg;have:=nb.r;have:=nb.g;have:=nb.rg;have:=na.s0;have:=na.s1;have:=nb.s0;have:=nb.s1;have:=na.f.t0;have:=na.l.t1;have:=nb.f.t0;have:=nb.l.t1;obtain ⟨d1,d2,d3,d4,d5⟩:=d;simp only[l1d]
  rw[w64 (x:=a.1+b.1) (by omega) (by omega),w64 (x:=a.2.2.2.2.1+_) (by omega) (by omega),w64 (x:=a.2.2.2.2.2.1+_) (by omega) (by omega),w64 (x:=a.2.2.2.2.2.2+_) (by omega) (by omega)];rw[w64 (by omega) (by omega),w64 (by omega) (by omega),w64 (by omega) (by omega)]
 ·rw[q0z (by omega),q0n (fun k=>h5 ((l1q h3 h4).1 k))];rfl
theorem u1n {a b:Cel}(h:(mrgE a b).2=0):b0x a/\b0x b/\Ahead a b/\(mrgE a b).1=mrg a b/\b0x (mrgE a b).1:=by
 unfold mrgE at h ⊢;by_cases h1:b0x a/\b0x b
 ·rw[q0z h1] at h ⊢;by_cases h2:Ahead a b
  ·rw[q0z h2];exact ⟨h1.1,h1.2,h2,rfl,mrg_ok h1.1 h1.2 h2⟩
  ·rw[q0n h2] at h;simp at h
 ·rw[q0n h1] at h;simp at h
theorem mrgE_w (a b:Cel):CelW (mrgE a b).1:=by
 by_cases h:(mrgE a b).2=0
 ·exact .of (u1n h).2.2.2.2
 ·unfold mrgE at h ⊢;by_cases h1:b0x a/\b0x b
  ·rw[q0z h1] at h ⊢;by_cases h2:Ahead a b
   ·rw[q0z h2] at h;simp at h
   ·rw[q0n h2];exact t0c
  ·rw[q0n h1];exact t0c
theorem b2t (n:Nat)(s2:Cel)(l:List Cel)(hL:l.length<=1000000000000)(hw:∀x∈l,CelW x):∀(rest pre:List Cel) (f:Nat) (c:Cel) (i len:Int),l=pre++rest->i=pre.length->len=l.length->rest.length<f->CelW c ->
  k0p (n+6) f (s2,c,l,len,i,())=some (if (allE c rest).2=0 then .inl (s2,(allE c rest).1,()) else .inr (z0,(allE c rest).2)):=by
 intro rest;induction rest with
 | nil =>
  intro pre f c i len hl hi hn hf hc;obtain ⟨f,rfl⟩:=FSu hf;rw[s0m];simp only[tfd,q0n (idxe hl hi hn),allE,q0z trivial]
 | cons x rest ih =>
  intro pre f c i len hl hi hn hf hc;obtain ⟨f,rfl⟩:=FSu hf;rw[s0m];have hx:CelW x:=hw x (by rw[hl];simp);simp only[tfd,tfn,q0z (idx hl hi hn),b0p hl hi,obs,g1i n hc hx,idxw hl hi hL];by_cases h:(mrgE c x).2=0
  ·rw[q0z h,ih (pre++[x]) f _ (i+1) len (idxl hl) (idxs hi) hn (by simp at hf;omega) (mrgE_w c x)];simp only[allE,q0z h]
  ·rw[q0n h];simp only[allE,q0n h];rfl
theorem i2w (l:List Cel):∀c,(allE c l).2≠0->(allE c l).1=z0:=by
 induction l with
 | nil=>intro c h;exact absurd rfl h
 | cons x l ih =>
  intro c h;simp only[allE] at h ⊢;split at h
  ·rename_i k;rw[q0z k];exact ih _ h
  ·rename_i k;rw[q0n k]
theorem cell_all (n:Nat)(l:List Cel)(hL:l.length<=1000000000000)(hw:∀x∈l,CelW x):l1m (n+7) l=some (allE z0 l):=by
 have:=b2t n z0 l hL hw l [] a0b z0 0 l.length rfl rfl rfl (by unfold a0b;omega) t0c;rw[v1j];have e:k0p (n+6) a0b (((0:Int),(((0:Int),((0:Int),((0:Int),false))),(((0:Int),((0:Int),((0:Int),false))),(((0:Int),(0:Int)),((0:Int),((0:Int),(0:Int))))))),((0:Int),(((0:Int),((0:Int),((0:Int),false))),(((0:Int),((0:Int),((0:Int),false))),(((0:Int),(0:Int)),((0:Int),((0:Int),(0:Int))))))),l,(l.length:Int),(0:Int),())=_:=this;rw[e];by_cases h:(allE z0 l).2=0
 ·rw[q0z h];simp only[obs,b0h];exact congrArg some (Prod.ext rfl h.symm)
 ·rw[q0n h];simp only[obs,g0m];exact congrArg some (Prod.ext (i2w l z0 h).symm rfl)
theorem e2o (n:Nat)(s2:Cel)(l:List Cel)(hL:l.length<=1000000000000)(hw:∀x∈l,CelW x):∀(rest pre:List Cel) (f:Nat) (c:Cel) (i len:Int),l=pre++rest->i=pre.length->len=l.length->rest.length<f->CelW c ->
  m0c (n+5) f (s2,c,l,len,i,())=some (if (allE c rest).2=0 then .inl (s2,(allE c rest).1,()) else .inr (z0,(allE c rest).2)):=by
 intro rest;induction rest with
 | nil =>
  intro pre f c i len hl hi hn hf hc;obtain ⟨f,rfl⟩:=FSu hf;rw[v0a];simp only[tfd,q0n (idxe hl hi hn),allE,q0z trivial]
 | cons x rest ih =>
  intro pre f c i len hl hi hn hf hc;obtain ⟨f,rfl⟩:=FSu hf;rw[v0a];have hx:CelW x:=hw x (by rw[hl];simp);simp only[tfd,tfn,q0z (idx hl hi hn),b0p hl hi,obs,o1g n hc hx,idxw hl hi hL];by_cases h:(mrgE c x).2=0
  ·rw[q0z h,ih (pre++[x]) f _ (i+1) len (idxl hl) (idxs hi) hn (by simp at hf;omega) (mrgE_w c x)];simp only[allE,q0z h]
  ·rw[q0n h];simp only[allE,q0n h];rfl
theorem r08_all (n:Nat)(l:List Cel)(hL:l.length<=1000000000000)(hw:∀x∈l,CelW x):t1p (n+6) l=some (allE z0 l):=by
 have:=e2o n z0 l hL hw l [] a0b z0 0 l.length rfl rfl rfl (by unfold a0b;omega) t0c;rw[a2a];have e:m0c (n+5) a0b (((0:Int),(((0:Int),((0:Int),((0:Int),false))),(((0:Int),((0:Int),((0:Int),false))),(((0:Int),(0:Int)),((0:Int),((0:Int),(0:Int))))))),((0:Int),(((0:Int),((0:Int),((0:Int),false))),(((0:Int),((0:Int),((0:Int),false))),(((0:Int),(0:Int)),((0:Int),((0:Int),(0:Int))))))),l,(l.length:Int),(0:Int),())=_:=this;rw[e];by_cases h:(allE z0 l).2=0
 ·rw[q0z h];simp only[obs,b0h];exact congrArg some (Prod.ext rfl h.symm)
 ·rw[q0n h];simp only[obs,g0m];exact congrArg some (Prod.ext (i2w l z0 h).symm rfl)
theorem q1k (n:Nat)(e:Ev):l1j (n+1) e=some (c0c e):=by rw[v1h];rfl
theorem x1n {e:Ev}(h:EvW e):CelW (c0c e):=⟨by simp[I64,c0c],h,h,⟨by simp[c0c],by simp[c0c]⟩,by simp[I64,c0c],by simp[I64,c0c],by simp[I64,c0c]⟩
theorem cell_add (n:Nat){c:Cel}{e:Ev}(hc:CelW c)(he:EvW e):l1n (n+7) c e=some (if EvOk e then mrgE c (c0c e) else (z0,2)):=by
 rw[v1k,f0u _ he,q1k];simp only[obs,tfn,tfd,z02,g1i n hc (x1n he)];by_cases h:EvOk e
 ·rw[q0z h,q0z h]
 ·rw[q0n h,q0n h,q0n h];rfl
theorem p1w {l:List Ev}{x:Ev}:Foll (l++[x])↔Foll l/\EvOk x/\∀e∈l,e.1<x.1:=by
 rw[d0b];constructor
 ·rintro ⟨h1,h2,h3⟩;exact ⟨h1,h2.ok x (by simp),fun e he=>h3 e he x (by simp)⟩
 ·rintro ⟨h1,h2,h3⟩;refine ⟨h1,⟨by simpa using h2,by simp⟩,fun e he y hy => ?_⟩;simp at hy;subst hy;exact h3 e he
theorem last_all {l:List Ev}(h:Foll l){x y:Ev}(hy:l.getLast? = some y)(hlt:y.1<x.1):∀e∈l,e.1<x.1:=by
 intro e he;rcases List.eq_nil_or_concat l with rfl | ⟨q,z,rfl⟩
 ·cases he
 rw[List.concat_eq_append] at *
 simp at hy;subst hy;rcases q2n.1 he with h1 | h1
 ·have:=(d0b.1 h).2.2 e h1 z (by simp);omega
 ·simp at h1;subst h1;exact hlt
abbrev Lab:=List UInt8×List UInt8
def sgn (c:Int):Prop:=(97<=c/\c<=122)\/(65<=c/\c<=90)\/(48<=c/\c<=57)\/c=95
instance (c:Int):Decidable (sgn c):=by unfold sgn;infer_instance
def y0r (c:Int):Prop:=48<=c/\c<=57
instance (c:Int):Decidable (y0r c):=by unfold y0r;infer_instance
def h0f:List UInt8->Prop
 | []=>False
 | b::r=>(b::r).length<=64/\¬y0r (b.toNat:Int)/\∀x∈b::r,sgn (x.toNat:Int)
instance:(s:List UInt8)->Decidable (h0f s)
 | [] => .isFalse id
 | b::r=>by unfold h0f;infer_instance
theorem low_all:∀c:Fin 256,(97<=orI .u8 (c.val:Int) 32/\orI .u8 (c.val:Int) 32<=122)↔((97<=(c.val:Int)/\(c.val:Int)<=122)\/(65<=(c.val:Int)/\(c.val:Int)<=90)):=by decide +kernel
theorem low (c:Int)(h:0<=c/\c<=255):(97<=orI .u8 c 32/\orI .u8 c 32<=122)↔((97<=c/\c<=122)\/(65<=c/\c<=90)):=by
 obtain ⟨k,rfl⟩:=Int.eq_ofNat_of_zero_le h.1;exact low_all ⟨k,by omega⟩
theorem p0r (n:Nat)(c:Int):o0c (n+1) c=some (decide (y0r c)):=by
 rw[d1w];unfold y0r;by_cases h1:(48:Int)<=c<;>by_cases h2:c<=57<;>simp[h1,h2]
theorem d1t (n:Nat)(c:Int)(h:0<=c/\c<=255):x0d (n+2) c=some (decide (sgn c)):=by
 rw[k1b,p0r];simp only[obs,tfd];have hl:=low c h;by_cases h1:y0r c
 ·rw[q0z h1,q2a (show sgn c from .inr (.inr (.inl h1)))]
 rw[q0n h1];by_cases h2:c=95
 ·rw[q0z h2,q2a (show sgn c from .inr (.inr (.inr h2)))]
 rw[q0n h2];by_cases h3:97<=orI .u8 c 32
 ·rw[q0z h3];refine congrArg some (q2s.2 ?_);constructor
  ·intro k;rcases hl.1 ⟨h3,k⟩ with q | q
   ·exact .inl q
   ·exact .inr (.inl q)
  ·intro k;rcases k with k | k | k | k
   ·exact (hl.2 (.inl k)).2
   ·exact (hl.2 (.inr k)).2
   ·exact absurd k h1
   ·exact absurd k h2
 ·rw[q0n h3,q1z];intro k;rcases k with k | k | k | k
  ·exact h3 (hl.2 (.inl k)).1
  ·exact h3 (hl.2 (.inr k)).1
  ·exact h1 k
  ·exact h2 k
theorem a2z (n:Nat){del:Int×Unit->Option Bool}{p:Int->Bool}(l:List Int)(hL:l.length<=1000000000000)(hd:∀x∈l,del (x,())=some (p x)):∀(rest pre:List Int) (f:Nat) (i len:Int),l=pre++rest->i=pre.length->len=l.length->rest.length<f ->
  (c0p n f (l,del,len,i,())=some (.inl ())/\∀x∈rest,p x=false) \/
  (∃k:Int,0<=k/\c0p n f (l,del,len,i,())=some (.inr k)/\∃x∈rest,p x=true):=by
 intro rest;induction rest with
 | nil =>
  intro pre f i len hl hi hn hf;obtain ⟨f,rfl⟩:=FSu hf;rw[g0i];exact .inl ⟨by simp only[tfd,q0n (idxe hl hi hn)],by simp⟩
 | cons x rest ih =>
  intro pre f i len hl hi hn hf;obtain ⟨f,rfl⟩:=FSu hf;rw[g0i];simp only[tfd,q0z (idx hl hi hn),b0p hl hi,obs,hd x (by rw[hl];simp),idxw hl hi hL];cases hp:p x with
  | true=>exact .inr ⟨i,by omega,by simp,x,by simp,hp⟩
  | false =>
   rw[tff];rcases ih (pre++[x]) f (i+1) len (idxl hl) (idxs hi) hn (by simp at hf;omega) with ⟨h1,h2⟩ | ⟨k,h1,h2,y,hy,h3⟩
   ·exact .inl ⟨h1,by intro z hz;rcases q2l.1 hz with rfl | hz;exact hp;exact h2 z hz⟩
   ·exact .inr ⟨k,h1,h2,y,by simp[hy],h3⟩
theorem l1f (n:Nat){del:Int×Unit->Option Bool}{p:Int->Bool}(l:List Int)(hL:l.length<=1000000000000)(hd:∀x∈l,del (x,())=some (p x)):f0i (n+2) l del=some (l.any p):=by
 rw[n0n,r0n];rcases a2z n l hL hd l [] a0b 0 l.length rfl rfl rfl (by unfold a0b;omega) with ⟨h1,h2⟩ | ⟨k,h1,h2,x,hx,h3⟩
 ·rw[h1];have:l.any p=false:=by rw[List.any_eq_false];intro x hx;simp[h2 x hx]
  rw[this];rfl
 ·rw[h2];have:l.any p=true:=List.any_eq_true.2 ⟨x,hx,h3⟩;simp[this,h1]
theorem d1v (n:Nat)(s:List UInt8):x0e (n+5) s=some (decide (h0f s)):=by
 rw[k1c]
 match s with
 | []=>rfl
 | b::r =>
  have e1:((b::r)==[])=false:=rfl;have e2:at? (b::r) (0:Int)=some b:=rfl;rw[e1,tff,e2,obs,p0r,obs];simp only[tfd];by_cases h1:(64:Int)<(b::r).length
  ·rw[q0z h1,q1z (fun k:h0f (b::r)=>by have:=k.1;omega)]
  rw[q0n h1];by_cases h2:y0r (b.toNat:Int)
  ·rw[q0z h2,q1z (fun k:h0f (b::r)=>k.2.1 h2)]
  rw[q0n h2,l1f (p:=fun c => !decide (sgn c)) (n+2) _ (by simp at h1 ⊢;omega) (fun x hx=>by
   obtain ⟨c,_,rfl⟩:=q3g.1 hx;have:=c.toNat_lt;show p0q (n+3+1) _=_
   rw[b1q,d1t (n+1) _ (by omega)];rfl)]
  simp only[obs];refine congrArg some ?_;by_cases h3:∀x∈b::r,sgn (x.toNat:Int)
  ·rw[q2a (show h0f (b::r) from ⟨by omega,h2,h3⟩)];rw[List.any_eq_false.2]
   ·rfl
   ·intro x hx;obtain ⟨c,hc,rfl⟩:=q3g.1 hx;simp[h3 c hc]
  ·rw[q1z (fun k:h0f (b::r)=>h3 k.2.2)];have:∃x∈b::r,¬sgn (x.toNat:Int):=Classical.byContradiction fun k=>h3 fun x hx=>Classical.byContradiction fun q=>k ⟨x,hx,q⟩
   obtain ⟨x,hx,hq⟩:=this;rw[List.any_eq_true.2 ⟨(x.toNat:Int),q3g.2 ⟨x,hx,rfl⟩,by simp[hq]⟩];rfl
theorem a2c (n:Nat)(s:List UInt8)(hL:s.length<=1000000000000):∀(rest pre:List UInt8) (f:Nat) (i:Int),s=pre++rest->i=pre.length->rest.length<f ->
  b0m n f (s,i,())=some (if ∀x∈rest,sgn (x.toNat:Int) then .inl () else .inr false):=by
 intro rest;induction rest with
 | nil =>
  intro pre f i hl hi hf;obtain ⟨f,rfl⟩:=FSu hf;rw[s0i];simp[tfd,q0n (idxe hl hi rfl)]
 | cons x rest ih =>
  intro pre f i hl hi hf;obtain ⟨f,rfl⟩:=FSu hf;rw[s0i];simp only[tfd,tfn,q0z (idx hl hi rfl),b0p hl hi,obs,idxw hl hi hL];rw[ih (pre++[x]) f (i+1) (idxl hl) (idxs hi) (by simp at hf;omega)];have hsplit:(∀y∈x::rest,sgn (y.toNat:Int))↔sgn (x.toNat:Int)/\∀y∈rest,sgn (y.toNat:Int):=by simp
  generalize hR:(some (if ∀y∈rest,sgn (y.toNat:Int) then (Sum.inl ():Unit ⊕ Bool) else .inr false))=R;have good:sgn (x.toNat:Int)->R=some (if ∀y∈x::rest,sgn (y.toNat:Int) then .inl () else .inr false):=by
   intro hx;rw[<-hR];by_cases h:∀y∈rest,sgn (y.toNat:Int)
   ·rw[q0z h,q0z (hsplit.2 ⟨hx,h⟩)]
   ·rw[q0n h,q0n (fun k=>h (hsplit.1 k).2)]
  have bad:¬sgn (x.toNat:Int)->some (.inr false)=some (if ∀y∈x::rest,sgn (y.toNat:Int) then (Sum.inl ():Unit ⊕ Bool) else .inr false):=by
   intro hx;rw[q0n (fun k=>hx (hsplit.1 k).1)]
  have hc:=x.toNat_lt;generalize (x.toNat:Int)=c at *
  clear hR ih;unfold sgn at good bad;by_cases a1:(97:Int)<=c<;>by_cases a2:c<=122<;>by_cases a3:(65:Int)<=c<;>by_cases a4:c<=90<;>by_cases a5:(48:Int)<=c<;>by_cases a6:c<=57<;>by_cases a7:c=95 <;>
   first
    | omega
    | (simp only[a1,a2,a3,a4,a5,a6,a7,if_true,if_false];first | exact good (by omega) | exact bad (by omega))
    | (simp[a1,a2,a3,a4,a5,a6,a7];done)
theorem o1k (n:Nat)(s:List UInt8):j1d (n+1) s=some (decide (h0f s)):=by
 rw[t1r]
 match s with
 | []=>rfl
 | b::r =>
  have e2:at? (b::r) (0:Int)=some b:=rfl;rw[e2,obs,obs];simp only[tfd];rw[q0n (show ¬(((b::r).length:Int)<1) by simp;omega)];by_cases h1:(64:Int)<(b::r).length
  ·rw[q0z h1,q1z (fun k:h0f (b::r)=>by have:=k.1;omega)]
  rw[q0n h1,a2c n (b::r) (by omega) (b::r) [] a0b 0 rfl rfl (by unfold a0b;omega)];simp only[obs];have fin:¬y0r (b.toNat:Int)->(b0u (fun _:Unit=>some true) (fun z4=>some z4) (if ∀x∈b::r,sgn (x.toNat:Int) then .inl () else .inr false))=some (decide (h0f (b::r))):=by
   intro h2;by_cases h3:∀x∈b::r,sgn (x.toNat:Int)
   ·rw[q0z h3,q2a (show h0f (b::r) from ⟨by omega,h2,h3⟩)];rfl
   ·rw[q0n h3,q1z (fun k:h0f (b::r)=>h3 k.2.2)];rfl
  by_cases h4:(48:Int)<=(b.toNat:Int)
  ·rw[q0z h4];by_cases h5:(b.toNat:Int)<=57
   ·rw[q0z h5,q1z (fun k:h0f (b::r)=>k.2.1 ⟨h4,h5⟩)]
   ·rw[q0n h5];exact fin (fun k=>h5 k.2)
  ·rw[q0n h4];exact fin (fun k=>h4 k.1)
def chkL:Option (List UInt8)->List Lab->Prop
 | _,[]=>True
 | p,x::r=>h0f x.1/\x.2.length<=128/\(∀q,p=some q->Op.bytesLess q x.1=true)/\chkL (some x.1) r
def sumL (l:List Lab):Int:=(l.map fun x=>((x.1.length:Int)+x.2.length)).sum
theorem c2z (l:List Lab):0<=sumL l:=by
 induction l with
 | nil=>simp[sumL]
 | cons x l ih=>simp only[sumL,q3h,List.sum_cons] at *;omega
theorem m1m (x:Lab)(l:List Lab):sumL (x::l)=x.1.length+x.2.length+sumL l:=by simp[sumL]
theorem h0f.len {s:List UInt8}(h:h0f s):s.length<=64:=by
 match s with
 | []=>simp
 | b::r=>exact h.1
structure LabOk (l:List Lab):Prop where
 n0:1<=l.length
 n1:l.length<=16
 c:chkL none l
 t:sumL l<=256
noncomputable instance (l:List Lab):Decidable (LabOk l):=Classical.propDecidable _
theorem e2w {l pre rest:List Lab}{x:Lab}{i:Int}(hl:l=pre++x::rest)(hi:i=pre.length)(hL:l.length<=1000000)(h:0<i):∃q,pre.getLast? = some q/\at? l (wrap .i64 (i-1))=some q:=by
 rcases List.eq_nil_or_concat pre with rfl | ⟨q,y,rfl⟩
 ·simp at hi;omega
 rw[List.concat_eq_append] at *
 have hlen:=congrArg List.length hl;simp at hlen hi;refine ⟨y,by simp,?_⟩;rw[w64 (by omega) (by omega)];exact b0p (pre:=q) (rest:=x::rest) (by rw[hl];simp) (by omega)
theorem k1d (n:Nat)(l:List Lab)(hL:l.length<=16):∀(rest pre:List Lab) (f:Nat) (left i len:Int),l=pre++rest->i=pre.length->len=l.length->rest.length<f->0<=left->left<=256 ->
  (chkL (pre.getLast?.map (·.1)) rest/\sumL rest<=left->e0g (n+5) f (l,left,l,len,i,())=some (.inl ())) /\
  (¬(chkL (pre.getLast?.map (·.1)) rest/\sumL rest<=left)->e0g (n+5) f (l,left,l,len,i,())=some (.inr 8)):=by
 intro rest;induction rest with
 | nil =>
  intro pre f left i len hl hi hn hf h0 h1;obtain ⟨f,rfl⟩:=FSu hf;rw[m0m];refine ⟨fun _=>by simp only[tfd,q0n (idxe hl hi hn)],fun k=>absurd ⟨trivial,by simpa [sumL] using h0⟩ k⟩
 | cons x rest ih =>
  intro pre f left i len hl hi hn hf h0 h1;obtain ⟨f,rfl⟩:=FSu hf;rw[m0m];have hsn:=c2z rest;simp only[tfd,tfn,q0z (idx hl hi hn),b0p hl hi,obs,idxw hl hi (by omega),d1v n x.1];rw[m1m];by_cases c1:h0f x.1
  case neg=>rw[q0n c1];exact ⟨fun k=>absurd k.1.1 c1,fun _=>rfl⟩
  rw[q0z c1];have hn1:=c1.len;by_cases c2:(128:Int)<x.2.length
  ·rw[q0z c2];exact ⟨fun k=>by have:=k.1.2.1;omega,fun _=>rfl⟩
  rw[q0n c2,w64 (x:=(x.1.length:Int)+x.2.length) (by omega) (by omega),w64 (x:=left-((x.1.length:Int)+x.2.length)) (by omega) (by omega)];by_cases c3:left-((x.1.length:Int)+x.2.length)<0
  ·rw[q0z c3];exact ⟨fun k=>by have:=k.2;omega,fun _=>rfl⟩
  rw[q0n c3];have ih':=ih (pre++[x]) f (left-((x.1.length:Int)+x.2.length)) (i+1) len (idxl hl) (idxs hi) hn (by simp at hf;omega) (by omega) (by omega);have el:(pre++[x]).getLast?.map (·.1)=some x.1:=by simp
  rw[el] at ih';have step:(∀q,pre.getLast?.map (·.1)=some q->Op.bytesLess q x.1=true) ->
    ((chkL (pre.getLast?.map (·.1)) (x::rest)/\(x.1.length:Int)+x.2.length+sumL rest<=left)↔(chkL (some x.1) rest/\sumL rest<=left-((x.1.length:Int)+x.2.length))):=by
   intro hq;constructor
   ·rintro ⟨k1,k2⟩;exact ⟨k1.2.2.2,by omega⟩
   ·rintro ⟨k1,k2⟩;exact ⟨⟨c1,by omega,hq,k1⟩,by omega⟩
  by_cases c4:0<i
  ·obtain ⟨q,hq,hat⟩:=e2w hl hi (by omega) c4;rw[q0z c4,hat,obs];by_cases c5:Op.bytesLess q.1 x.1=true
   ·rw[c5,tft,step (fun z hz=>by rw[hq] at hz;simp at hz;rw[<-hz];exact c5)];exact ih'
   ·have c5':Op.bytesLess q.1 x.1=false:=by simpa using c5
    rw[c5',tff];exact ⟨fun k=>absurd (k.1.2.2.1 q.1 (by rw[hq];rfl)) c5,fun _=>rfl⟩
  ·have hp:pre=[]:=List.length_eq_zero_iff.1 (by omega);rw[q0n c4,step (fun z hz=>by rw[hp] at hz;cases hz)];exact ih'
theorem s0w (n:Nat)(l:List Lab):k0l (n+6) l=some (if LabOk l then 0 else 8):=by
 rw[d1x];simp only[tfd];by_cases h1:(l.length:Int)=0
 ·rw[q0z h1,q0n (fun k:LabOk l=>by have:=k.n0;omega)]
 by_cases h2:(16:Int)<l.length
 ·rw[q0n h1,q0z h2,q0n (fun k:LabOk l=>by have:=k.n1;omega)]
 rw[q0n h1,q0n h2];have hl:=k1d n l (by omega) l [] a0b 256 0 l.length rfl rfl rfl (by unfold a0b;omega) (by decide) (by decide);by_cases h3:chkL none l/\sumL l<=256
 ·rw[hl.1 h3,q0z (⟨by omega,by omega,h3.1,h3.2⟩:LabOk l)];rfl
 ·rw[hl.2 h3,q0n (fun k:LabOk l=>h3 ⟨k.c,k.t⟩)];rfl
theorem t1t (n:Nat)(l:List Lab)(hL:l.length<=16):∀(rest pre:List Lab) (f:Nat) (all i len:Int),l=pre++rest->i=pre.length->len=l.length->rest.length<f->0<=all->all<=192*pre.length ->
  (chkL (pre.getLast?.map (·.1)) rest->g0e (n+1) f (l,all,l,len,i,())=some (.inl (all+sumL rest,()))) /\
  (¬chkL (pre.getLast?.map (·.1)) rest->g0e (n+1) f (l,all,l,len,i,())=some (.inr 8)):=by
 intro rest;induction rest with
 | nil =>
  intro pre f left i len hl hi hn hf h0 h1;obtain ⟨f,rfl⟩:=FSu hf;rw[p0h];refine ⟨fun _=>by simp only[tfd,q0n (idxe hl hi hn),sumL,List.map_nil,List.sum_nil,Int.add_zero],fun k=>absurd trivial k⟩
 | cons x rest ih =>
  intro pre f left i len hl hi hn hf h0 h1;obtain ⟨f,rfl⟩:=FSu hf;rw[p0h];have hsn:=c2z rest;have hpl:pre.length+1<=l.length:=by have:=congrArg List.length hl;simp at this;omega
  simp only[tfd,tfn,q0z (idx hl hi hn),b0p hl hi,obs,idxw hl hi (by omega),o1k n x.1];rw[m1m];by_cases c1:h0f x.1
  case neg=>rw[q0n c1];exact ⟨fun k=>absurd k.1 c1,fun _=>rfl⟩
  rw[q0z c1];have hn1:=c1.len;by_cases c2:(128:Int)<x.2.length
  ·rw[q0z c2];exact ⟨fun k=>by have:=k.2.1;omega,fun _=>rfl⟩
  rw[q0n c2,w64 (x:=(x.1.length:Int)+x.2.length) (by omega) (by omega),w64 (x:=left+((x.1.length:Int)+x.2.length)) (by omega) (by omega)];have ih':=ih (pre++[x]) f (left+((x.1.length:Int)+x.2.length)) (i+1) len (idxl hl) (idxs hi) hn (by simp at hf;omega) (by omega) (by simp;omega);have el:(pre++[x]).getLast?.map (·.1)=some x.1:=by simp
  rw[el] at ih';have ea:left+((x.1.length:Int)+x.2.length+sumL rest)=left+((x.1.length:Int)+x.2.length)+sumL rest:=by omega
  rw[ea];have step:(∀q,pre.getLast?.map (·.1)=some q->Op.bytesLess q x.1=true)->(chkL (pre.getLast?.map (·.1)) (x::rest)↔chkL (some x.1) rest):=by
   intro hq;constructor
   ·intro k;exact k.2.2.2
   ·intro k;exact ⟨c1,by omega,hq,k⟩
  by_cases c4:0<i
  ·obtain ⟨q,hq,hat⟩:=e2w hl hi (by omega) c4;rw[q0z c4,hat,obs];by_cases c5:Op.bytesLess q.1 x.1=true
   ·rw[c5,tft,step (fun z hz=>by rw[hq] at hz;simp at hz;rw[<-hz];exact c5)];exact ih'
   ·have c5':Op.bytesLess q.1 x.1=false:=by simpa using c5
    rw[c5',tff];exact ⟨fun k=>absurd (k.2.2.1 q.1 (by rw[hq];rfl)) c5,fun _=>rfl⟩
  ·have hp:pre=[]:=List.length_eq_zero_iff.1 (by omega);rw[q0n c4,step (fun z hz=>by rw[hp] at hz;cases hz)];exact ih'
theorem b1f (n:Nat)(l:List Lab):p0i (n+2) l=some (if LabOk l then 0 else 8):=by
 rw[o1l];simp only[tfd];by_cases h1:(l.length:Int)<1
 ·rw[q0z h1,q0n (fun k:LabOk l=>by have:=k.n0;omega)]
 by_cases h2:(16:Int)<l.length
 ·rw[q0n h1,q0z h2,q0n (fun k:LabOk l=>by have:=k.n1;omega)]
 rw[q0n h1,q0n h2];have hl:=t1t n l (by omega) l [] a0b 0 0 l.length rfl rfl rfl (by unfold a0b;omega) (by decide) (by simp);by_cases h3:chkL none l
 ·rw[hl.1 h3];simp only[obs,b0h,Int.zero_add];by_cases h4:(256:Int)<sumL l
  ·rw[q0z h4,q0n (fun k:LabOk l=>by have:=k.t;omega)]
  ·rw[q0n h4,q0z (⟨by omega,by omega,h3,by omega⟩:LabOk l)]
 ·rw[hl.2 h3,q0n (fun k:LabOk l=>h3 k.c)];rfl
theorem labEq (a b:Lab):((a.1==b.1)&&(a.2==b.2))=decide (a=b):=by
 rw[Bool.eq_iff_iff];simp[Prod.ext_iff]
abbrev Rw:=Int×(Int×List Ev)
structure RawOk (r:Rw)(room:Int):Prop where
 m0:1<=room
 m1:room<=4096
 len:(r.2.2.length:Int)<=room
 l0:0<=r.1
 l1:r.1<=70368744177664
 f:Foll r.2.2
 z:r.1=0->r.2.1=0
 p:r.1≠0->(r.2.2.length:Int)=room/\0<=r.2.1/\∀x,r.2.2.head? = some x->r.2.1<x.1
noncomputable instance (r room):Decidable (RawOk r room):=Classical.propDecidable _
def RawW (r:Rw):Prop:=∀e∈r.2.2,EvW e
theorem last_at {l pre rest:List Ev}{x:Ev}{i:Int}(hl:l=pre++x::rest)(hi:i=pre.length)(hL:l.length<=1000000)(h:0<i):∃q,pre.getLast? = some q/\at? l (wrap .i64 (i-1))=some q:=by
 rcases List.eq_nil_or_concat pre with rfl | ⟨q,y,rfl⟩
 ·simp at hi;omega
 rw[List.concat_eq_append] at *
 have hlen:=congrArg List.length hl;simp at hlen hi;refine ⟨y,by simp,?_⟩;rw[w64 (by omega) (by omega)];exact b0p (pre:=q) (rest:=x::rest) (by rw[hl];simp) (by omega)
theorem p1x {pre rest:List Ev}{x:Ev}(hp:Foll pre):(EvOk x/\(∀q,pre.getLast? = some q->q.1<x.1))↔Foll (pre++[x]):=by
 constructor
 ·rintro ⟨h1,h2⟩;refine p1w.2 ⟨hp,h1,?_⟩;rcases List.eq_nil_or_concat pre with rfl | ⟨q,y,rfl⟩
  ·simp
  ·rw[List.concat_eq_append] at *
   exact last_all hp (y:=y) (by simp) (h2 y (by simp))
 ·intro h;obtain ⟨h1,h2,h3⟩:=p1w.1 h;exact ⟨h2,fun q hq=>h3 q (List.mem_of_getLast? hq)⟩
theorem x1h {l pre rest:List Ev}{x:Ev}(hl:l=pre++x::rest)(h:Foll l):Foll (pre++[x]):=by
 rw[idxl hl] at h;exact (d0b.1 h).1
theorem n1a (n:Nat)(l:List Ev)(hL:l.length<=1000000)(hw:∀e∈l,EvW e):∀(rest pre:List Ev) (f:Nat) (i len:Int),l=pre++rest->i=pre.length->len=l.length->rest.length<f->Foll pre ->
  (Foll l->f0d (n+3) f (l,l,len,i,())=some (.inl ()))/\(¬Foll l->f0d (n+3) f (l,l,len,i,())=some (.inr false)):=by
 intro rest;induction rest with
 | nil =>
  intro pre f i len hl hi hn hf hp;obtain ⟨f,rfl⟩:=FSu hf;rw[o0p];have e:l=pre:=by rw[hl,q2x]
  exact ⟨fun _=>by simp only[tfd,q0n (idxe hl hi hn)],fun k=>absurd (e ▸ hp) k⟩
 | cons x rest ih =>
  intro pre f i len hl hi hn hf hp;obtain ⟨f,rfl⟩:=FSu hf;rw[o0p];have hx:EvW x:=hw x (by rw[hl];simp);have ih':=ih (pre++[x]) f (i+1) len (idxl hl) (idxs hi) hn (by simp at hf;omega);simp only[tfd,tfn,q0z (idx hl hi hn),b0p hl hi,obs,f0u _ hx,z02,idxw hl hi (by omega)];have nx:=p1x (rest:=rest) (x:=x) hp;by_cases c1:EvOk x
  case neg=>rw[q0n c1];exact ⟨fun k=>absurd (k.ok x (by rw[hl];simp)) c1,fun _=>rfl⟩
  rw[q0z c1];by_cases c2:0<i
  ·obtain ⟨q,hq,hat⟩:=last_at hl hi hL c2;have hqo:EvOk q:=hp.ok q (List.mem_of_getLast? hq);rw[q0z c2,hat,obs,q0a n (.of hqo) hx];simp only[obs,tfd];by_cases c3:q.1<x.1
   ·rw[q0z ⟨hqo,c1,c3⟩];exact ih' (nx.1 ⟨c1,fun z hz=>by rw[hq] at hz;injection hz with hz;rw[<-hz];exact c3⟩)
   ·rw[q0n (fun k=>c3 k.2.2)];exact ⟨fun k=>absurd ((nx.2 (x1h hl k)).2 q hq) c3,fun _=>rfl⟩
  ·have hpe:pre=[]:=List.length_eq_zero_iff.1 (by omega);rw[q0n c2];exact ih' (nx.1 ⟨c1,fun z hz=>by rw[hpe] at hz;cases hz⟩)
noncomputable instance (l:List Ev):Decidable (Foll l):=Classical.propDecidable _
theorem c1x (n:Nat)(l:List Ev)(hL:l.length<=1000000)(hw:∀e∈l,EvW e):w0r (n+4) l=some (decide (Foll l)):=by
 rw[i1n];have h:=n1a n l hL hw l [] a0b 0 l.length rfl rfl rfl (by unfold a0b;omega) Foll.nil;by_cases c:Foll l
 ·rw[h.1 c,q2a c];rfl
 ·rw[h.2 c,q1z c];rfl
theorem g2n (l:List Ev):at? l (0:Int)=l.head? := by cases l<;>rfl
theorem n1e (n:Nat)(r:Rw)(room:Int)(hw:RawW r):u0k (n+5) r room=some (if RawOk r room then 0 else 2):=by
 rw[n1g];simp only[tfd];by_cases h1:room<1
 ·rw[q0z h1,q0n (fun k:RawOk r room=>by have:=k.m0;omega)]
 by_cases h2:4096<room
 ·rw[q0n h1,q0z h2,q0n (fun k:RawOk r room=>by have:=k.m1;omega)]
 by_cases h3:room<r.2.2.length
 ·rw[q0n h1,q0n h2,q0z h3,q0n (fun k:RawOk r room=>by have:=k.len;omega)]
 by_cases h4:r.1<0
 ·rw[q0n h1,q0n h2,q0n h3,q0z h4,q0n (fun k:RawOk r room=>by have:=k.l0;omega)]
 by_cases h5:70368744177664<r.1
 ·rw[q0n h1,q0n h2,q0n h3,q0n h4,q0z h5,q0n (fun k:RawOk r room=>by have:=k.l1;omega)]
 rw[q0n h1,q0n h2,q0n h3,q0n h4,q0n h5,c1x n r.2.2 (by omega) hw,i1o];simp only[obs,tfn,tfd];by_cases h6:Foll r.2.2
 case neg=>rw[q0n h6,q0n (fun k:RawOk r room=>h6 k.f)]
 rw[q0z h6];by_cases h7:r.1=0
 ·rw[q0z h7,obs];simp only[tfd];by_cases h8:r.2.1=0
  ·rw[q0z h8,q0z (⟨by omega,by omega,by omega,by omega,by omega,h6,fun _=>h8,fun k=>absurd h7 k⟩:RawOk r room)]
  ·rw[q0n h8,q0n (fun k:RawOk r room=>h8 (k.z h7))]
 rw[q0n h7];by_cases h8:(r.2.2.length:Int)=room
 case neg=>rw[q0n h8,q0n (fun k:RawOk r room=>h8 (k.p h7).1)];rfl
 rw[q0z h8];by_cases h9:(0:Int)<=r.2.1
 case neg=>rw[q0n h9,q0n (fun k:RawOk r room=>h9 (k.p h7).2.1)];rfl
 rw[q0z h9,g2n];obtain ⟨x,hx⟩:∃x,r.2.2.head? = some x:=by
  cases hh:r.2.2 with
  | nil=>rw[hh] at h8;simp at h8;omega
  | cons x l=>exact ⟨x,rfl⟩
 rw[hx,obs,obs];simp only[tfd];by_cases h10:r.2.1<x.1
 ·rw[q0z h10,q0z (⟨by omega,by omega,by omega,by omega,by omega,h6,fun k=>absurd k h7,fun _=>⟨h8,h9,fun y hy=>by rw[hx] at hy;injection hy with hy;rw[<-hy];exact h10⟩⟩:RawOk r room)]
 ·rw[q0n h10,q0n (fun k:RawOk r room=>h10 ((k.p h7).2.2 x hx))]
theorem t1i (n:Nat)(room:Int)(r:Rw)(hL:r.2.2.length<=1000000)(hw:RawW r):∀(rest pre:List Ev) (f:Nat) (i len:Int),r.2.2=pre++rest->i=pre.length->len=r.2.2.length->rest.length<f->Foll pre ->
  (Foll r.2.2->g0d (n+1) f (room,r,r.2.2,len,i,())=some (.inl (room,r,())))/\(¬Foll r.2.2->g0d (n+1) f (room,r,r.2.2,len,i,())=some (.inr 2)):=by
 intro rest;induction rest with
 | nil =>
  intro pre f i len hl hi hn hf hp;obtain ⟨f,rfl⟩:=FSu hf;rw[p0d];have e:r.2.2=pre:=by rw[hl,q2x]
  exact ⟨fun _=>by simp only[tfd,q0n (idxe hl hi hn)],fun k=>absurd (e ▸ hp) k⟩
 | cons x rest ih =>
  intro pre f i len hl hi hn hf hp;obtain ⟨f,rfl⟩:=FSu hf;rw[p0d];have hx:EvW x:=hw x (by rw[hl];simp);have ih':=ih (pre++[x]) f (i+1) len (idxl hl) (idxs hi) hn (by simp at hf;omega);simp only[tfd,tfn,q0z (idx hl hi hn),b0p hl hi,obs,g0s _ hx,z02,idxw hl hi (by omega)];have nx:=p1x (rest:=rest) (x:=x) hp;by_cases c1:EvOk x
  case neg=>rw[q0n c1];exact ⟨fun k=>absurd (k.ok x (by rw[hl];simp)) c1,fun _=>rfl⟩
  rw[q0z c1];by_cases c2:0<i
  ·obtain ⟨q,hq,hat⟩:=last_at hl hi hL c2;rw[q0z c2,hat,obs];by_cases c3:x.1<=q.1
   ·rw[q0z c3];exact ⟨fun k=>by have:=(nx.2 (x1h hl k)).2 q hq;omega,fun _=>rfl⟩
   ·rw[q0n c3];exact ih' (nx.1 ⟨c1,fun z hz=>by rw[hq] at hz;injection hz with hz;rw[<-hz];omega⟩)
  ·have hpe:pre=[]:=List.length_eq_zero_iff.1 (by omega);rw[q0n c2];exact ih' (nx.1 ⟨c1,fun z hz=>by rw[hpe] at hz;cases hz⟩)
theorem n1y (n:Nat)(r:Rw)(room:Int)(hw:RawW r):u0u (n+2) r room=some (if RawOk r room then 0 else 2):=by
 rw[n1z];simp only[tfd];by_cases h1:room<1
 ·rw[q0z h1,q0n (fun k:RawOk r room=>by have:=k.m0;omega)]
 by_cases h2:4096<room
 ·rw[q0n h1,q0z h2,q0n (fun k:RawOk r room=>by have:=k.m1;omega)]
 by_cases h3:room<r.2.2.length
 ·rw[q0n h1,q0n h2,q0z h3,q0n (fun k:RawOk r room=>by have:=k.len;omega)]
 by_cases h4:r.1<0
 ·rw[q0n h1,q0n h2,q0n h3,q0z h4,q0n (fun k:RawOk r room=>by have:=k.l0;omega)]
 by_cases h5:70368744177664<r.1
 ·rw[q0n h1,q0n h2,q0n h3,q0n h4,q0z h5,q0n (fun k:RawOk r room=>by have:=k.l1;omega)]
 rw[q0n h1,q0n h2,q0n h3,q0n h4,q0n h5];have hl:=t1i n room r (by omega) hw r.2.2 [] a0b 0 _ rfl rfl rfl (by unfold a0b;omega) Foll.nil;by_cases h6:Foll r.2.2
 case neg=>rw[hl.2 h6,q0n (fun k:RawOk r room=>h6 k.f)];rfl
 rw[hl.1 h6];simp only[obs,b0h,tfn,tfd];by_cases h7:r.1=0
 ·rw[q0z h7];by_cases h8:r.2.1=0
  ·rw[q0z h8,q0z (⟨by omega,by omega,by omega,by omega,by omega,h6,fun _=>h8,fun k=>absurd h7 k⟩:RawOk r room)]
  ·rw[q0n h8,q0n (fun k:RawOk r room=>h8 (k.z h7))]
 rw[q0n h7];by_cases h9:r.2.1<0
 ·rw[q0z h9,q0n (fun k:RawOk r room=>by have:=(k.p h7).2.1;omega)]
 rw[q0n h9];have hd:∀k:RawOk r room,∃x,r.2.2.head? = some x/\EvOk x:=fun k=>by
  have h8:=(k.p h7).1;have:=k.m0;cases hh:r.2.2 with
  | nil=>rw[hh] at h8;simp at h8;omega
  | cons x l=>exact ⟨x,rfl,h6.ok x (by rw[hh];simp)⟩
 by_cases h10:(35184372088832:Int)<=r.2.1
 ·rw[q0z h10,q0n];intro k;obtain ⟨x,hx,hxo⟩:=hd k;have:=(k.p h7).2.2 x hx;have:=hxo.t1;omega
 rw[q0n h10];by_cases h8:(r.2.2.length:Int)=room
 case neg=>rw[q0n h8,q0n (fun k:RawOk r room=>h8 (k.p h7).1)]
 rw[q0z h8,g2n];obtain ⟨x,hx⟩:∃x,r.2.2.head? = some x:=by
  cases hh:r.2.2 with
  | nil=>rw[hh] at h8;simp at h8;omega
  | cons x l=>exact ⟨x,rfl⟩
 rw[hx,obs];by_cases h11:x.1<=r.2.1
 ·rw[q0z h11,q0n (fun k:RawOk r room=>by have:=(k.p h7).2.2 x hx;omega)]
 ·rw[q0n h11,q0z (⟨by omega,by omega,by omega,by omega,by omega,h6,fun k=>absurd k h7,fun _=>⟨h8,by omega,fun y hy=>by rw[hx] at hy;injection hy with hy;rw[<-hy];omega⟩⟩:RawOk r room)]
theorem w1b (n:Nat)(r:Rw)(hL:r.2.2.length<=1000000):z0k (n+1) r=some (match r.2.2.getLast? with | some e=>(e,0) | none=>(e0,3)):=by
 rw[s1k];simp only[tfd];rcases List.eq_nil_or_concat r.2.2 with h | ⟨q,y,h⟩
 ·rw[h,q0z (by simp)];rfl
 ·rw[List.concat_eq_append] at h;have hlen:=congrArg List.length h;simp at hlen;rw[q0n (by omega),w64 (by omega) (by omega),b0p (pre:=q) (rest:=[]) h (by omega),h];simp
theorem r12_last (n:Nat)(r:Rw)(hL:r.2.2.length<=1000000):i1z (n+1) r=some (match r.2.2.getLast? with | some e=>(e,0) | none=>(e0,3)):=by
 rw[t1k];simp only[tfd];rcases List.eq_nil_or_concat r.2.2 with h | ⟨q,y,h⟩
 ·rw[h,q0z (by simp)];rfl
 ·rw[List.concat_eq_append] at h;have hlen:=congrArg List.length h;simp at hlen;rw[q0n (by omega),w64 (by omega) (by omega),b0p (pre:=q) (rest:=[]) h (by omega),h];simp
def After (l:List Ev)(e:Ev):Prop:=∀q,l.getLast? = some q->q.1<e.1
noncomputable instance (l e):Decidable (After l e):=Classical.propDecidable _
def r0w:Rw:=(0,(0,[]))
def g0n (r:Rw)(room:Int)(e:Ev):Rw :=
 if (r.2.2.length:Int)<room then (r.1,(r.2.1,r.2.2++[e])) else (r.1+1,((r.2.2.headD e0).1,r.2.2.drop 1++[e]))
noncomputable def g0b (r:Rw)(room:Int)(e:Ev):Rw×Int :=
 if RawOk r room/\EvOk e then (if After r.2.2 e then (if (r.2.2.length:Int)=room/\r.1=70368744177664 then (r0w,1) else (g0n r room e,0)) else (r0w,9)) else (r0w,2)
theorem z1g (n:Nat)(room:Int)(l:List Ev)(hL:l.length<=1000000)(hr:(l.length:Int)<=room):∀(rest pre:List Ev) (f:Nat) (i len:Int),l=pre++rest->i=pre.length->len=l.length->rest.length<f ->
  n0t (n+1) f ((room,(pre,(0,0))),l,len,i,())=some (.inl ((room,(l,(0,0))),())):=by
 intro rest;induction rest with
 | nil =>
  intro pre f i len hl hi hn hf;obtain ⟨f,rfl⟩:=FSu hf;rw[s0b];have e:l=pre:=by rw[hl,q2x]
  simp only[tfd,q0n (idxe hl hi hn),e]
 | cons x rest ih =>
  intro pre f i len hl hi hn hf;obtain ⟨f,rfl⟩:=FSu hf;have hp:pre.length+1<=l.length:=by have:=congrArg List.length hl;simp at this;omega
  rw[s0b];simp only[tfd,q0z (idx hl hi hn),b0p hl hi,obs,idxw hl hi (show l.length<=1000000000000 by omega),m1z,q0z (show (pre.length:Int)<room by omega),q0z (show (pre.length+1)*32<=140737488355328 by omega)];exact ih (pre++[x]) f (i+1) len (idxl hl) (idxs hi) hn (by simp at hf;omega)
theorem n1d (n:Nat)(room:Int)(l:List Ev)(h1:1<=room)(h2:room<=4096)(hr:(l.length:Int)<=room):n0u (n+2) l room=some (some (room,(l,(0,0))),0):=by
 rw[s1h,w0q];simp only[tfd,q0n (show ¬(room<1) by omega),q0n (show ¬(65536<room) by omega),obs,r0b,tfn,if_true];rw[z1g n room l (by omega) hr l [] a0b 0 _ rfl rfl rfl (by unfold a0b;omega)];rfl
theorem i1l (n:Nat)(room lost:Int)(l:List Ev)(k:Nat)(hk:k<=l.length)(hL:l.length<=1000000):k0s (n+1) (room,(l,((k:Int),lost)))=some (l.drop k++l.take k,(room,(l,((k:Int),lost)))):=by
 rw[d2y];have t1:(l.drop k).take (l.length-k)=l.drop k:=List.take_of_length_le (by simp);have t2:(List.drop 0 l).take (k-0)=l.take k:=by simp
 simp only[s0q,tft,q2i,t1,t2];simp only[tfd];rw[q0z (by omega),q0z (by omega),q0z (by omega),q0z hk,q0z (by simp;omega),q0z (by omega),q0z (by omega),q0z (by simp;omega)];simp
theorem m1y (n:Nat)(room:Int)(l:List Ev)(e:Ev)(h1:1<=room)(h2:room<=4096)(hr:(l.length:Int)<=room) :
  ∃q:Ev×(Bool×(Int×(List Ev×(Int×Int)))),y0a (n+2) (room,(l,(0,0))) e=some q /\
   (((l.length:Int)<room->q.2.1=false/\∃q',k0s (n+2) q.2.2=some (l++[e],q'))/\(¬(l.length:Int)<room->q.2.1=true/\q.1=l.headD e0/\∃q',k0s (n+2) q.2.2=some (l.drop 1++[e],q'))):=by
 rw[m1z];simp only[tfd];by_cases h:(l.length:Int)<room
 ·rw[q0z h,q0z (by omega)];refine ⟨_,rfl,fun _=>⟨rfl,?_⟩,fun k=>absurd h k⟩;have:=i1l (n+1) room 0 (l++[e]) 0 (by omega) (by simp;omega);exact ⟨_,by simpa using this⟩
 ·rw[q0n h]
  match l with
  | []=>simp at h;omega
  | x::l =>
   have e1:at? (x::l) (0:Int)=some x:=rfl;have e2:(x::l)[Int.toNat 0]? = some x:=rfl;have e3:(x::l).set (Int.toNat 0) e=e::l:=rfl;simp only[q2k] at hr h;rw[e1,e2,e3];simp only[obs];rw[s1g];simp only[tfd];rw[q0n (show ¬(((e::l).length:Int)=0) by simp;omega),w64 (x:=(0:Int)+1) (by omega) (by omega),obs];refine ⟨_,rfl,fun k=>absurd k (by simpa using h),fun _=>⟨rfl,rfl,?_⟩⟩;by_cases hl:l=[]
   ·subst hl;have em:Int.tmod (0+1) (((e::([]:List Ev)).length:Nat):Int)=((0:Nat):Int):=by
     rw[e0k (by decide)];show ((0:Int)+1) % ((1:Nat):Int)=_;decide
    rw[em];have:=i1l (n+1) room (wrap .u64 (0+1)) [e] 0 (by simp) (by simp);exact ⟨_,by simpa using this⟩
   ·have hp:=List.length_pos_iff.2 hl;have em:Int.tmod (0+1) (((e::l).length:Nat):Int)=((1:Nat):Int):=by
     rw[e0k (by omega),q2k];exact Int.emod_eq_of_lt (by omega) (by omega)
    rw[em];have:=i1l (n+1) room (wrap .u64 (0+1)) (e::l) 1 (by simp) (by simp;omega);exact ⟨_,by simpa using this⟩
theorem raw_tail (n:Nat){r:Rw}{room:Int}(e:Ev)(h:RawOk r room) :
  (a0a (n0u (n+2) r.2.2 room) fun r4 =>
   b1n (r4.1) (tif (!(decide (r4.2=(0:Int)))) (some (((0:Int),((0:Int),[])),r4.2)) none) fun r5 =>
    tif (!(decide (r4.2=(0:Int)))) (some (((0:Int),((0:Int),[])),r4.2))
     (a0a (y0a (n+2) r5 e) fun r6 =>
      tif (r6.2.1) (a0a (k0s (n+2) r6.2.2) fun r7=>some (((wrap .i64 (r.1+(1:Int))),(r6.1.1,r7.1)),(0:Int)))
       (a0a (k0s (n+2) r6.2.2) fun r8=>some ((r.1,(r.2.1,r8.1)),(0:Int)))))=some (g0n r room e,0):=by
 rw[n1d n room r.2.2 h.m0 h.m1 h.len];simp only[obs,r0b,decide_true,q2t,tff];obtain ⟨q,h1,h2,h3⟩:=m1y n room r.2.2 e h.m0 h.m1 h.len;rw[h1];have l0:=h.l0;have l1:=h.l1;simp only[obs];unfold g0n;by_cases hc:(r.2.2.length:Int)<room
 ·obtain ⟨k1,q',k2⟩:=h2 hc;rw[k1,tff,k2,q0z hc];rfl
 ·obtain ⟨k1,k2,q',k3⟩:=h3 hc;rw[k1,tft,k3,q0n hc,w64 (by omega) (by omega),k2];rfl
theorem g1r {l:List Ev}(h:l.getLast? = none)(e:Ev):After l e:=fun q hq=>by rw[h] at hq;cases hq
theorem raw_put (n:Nat){r:Rw}(room:Int){e:Ev}(hw:RawW r)(he:EvW e):s1j (n+6) r room e=some (g0b r room e):=by
 rw[z1h,n1e n r room hw,f0u _ he];simp only[obs,tfn,tfd,z02];unfold g0b;by_cases h1:RawOk r room
 case neg=>rw[q0n h1,q0n (fun k=>h1 k.1)];rfl
 by_cases h2:EvOk e
 case neg=>rw[q0z h1,q0n h2,q0n (fun k=>h2 k.2)];rfl
 have hl:=h1.len;have hm:=h1.m1;rw[q0z h1,q0z h2,q0z (And.intro h1 h2),w1b _ r (by omega)];have tl:=raw_tail (n+3) e h1;simp only[tfn,tfd] at tl;simp only[obs];rw[tl];have fin:(if (r.2.2.length:Int)=room then (if r.1=70368744177664 then some (((0:Int),((0:Int),([]:List Ev))),(1:Int)) else some (g0n r room e,0)) else some (g0n r room e,0))=some (if (r.2.2.length:Int)=room/\r.1=70368744177664 then (r0w,1) else (g0n r room e,0)):=by
  by_cases a:(r.2.2.length:Int)=room
  ·rw[q0z a];by_cases b:r.1=70368744177664
   ·rw[q0z b,q0z (And.intro a b)];rfl
   ·rw[q0n b,q0n (fun k=>b k.2)]
  ·rw[q0n a,q0n (fun k=>a k.1)]
 rw[fin];cases hg:r.2.2.getLast? with
 | none =>
  simp only;rw[q0n (by decide),q0z (g1r hg e)]
 | some q =>
  have hq:EvOk q:=h1.f.ok q (List.mem_of_getLast? hg);simp only[if_true];rw[q0a (n+2) (.of hq) he,obs];by_cases c:q.1<e.1
  ·have ha:After r.2.2 e:=fun z hz=>by rw[hg] at hz;injection hz with hz;rw[<-hz];exact c
   rw[q2a ⟨hq,h2,c⟩,q0z ha];rfl
  ·have ha:¬After r.2.2 e:=fun k=>c (k q hg)
   rw[q1z (fun k=>c k.2.2),q0n ha];rfl
theorem r12_put (n:Nat){r:Rw}(room:Int){e:Ev}(hw:RawW r)(he:EvW e):b1b (n+3) r room e=some (g0b r room e):=by
 rw[z1y,n1y n r room hw,g0s _ he];simp only[obs,tfn,tfd,z02,q2q];unfold g0b;by_cases h1:RawOk r room
 case neg=>rw[q0n h1,q0n (fun k=>h1 k.1)];rfl
 by_cases h2:EvOk e
 case neg=>rw[q0z h1,q0n h2,q0n (fun k=>h2 k.2)];rfl
 have hl:=h1.len;have hm:=h1.m1;have hm0:=h1.m0;have l0:=h1.l0;have l1:=h1.l1;rw[q0z h1,q0z h2,q0z (And.intro h1 h2),q0z (show (0+r.2.2.length)*32<=140737488355328 by omega),q0z (show (r.2.2.length+1)*32<=140737488355328 by omega)];have core:(if (r.2.2.length:Int)<room then some ((r.1,(r.2.1,r.2.2++[e])),(0:Int)) else
   a0a (at? (r.2.2++[e]) 0) fun r3=>a0a ((r.2.2++[e])[0]?) fun r4=>if 1<=(r.2.2++[e]).length then some ((wrap .i64 (r.1+1),(r4.1,List.take ((r.2.2++[e]).length-1) (List.drop 1 (r.2.2++[e])))),(0:Int)) else none)=some (g0n r room e,0):=by
  unfold g0n;by_cases c:(r.2.2.length:Int)<room
  ·rw[q0z c,q0z c]
  ·rw[q0n c,q0n c]
   match hh:r.2.2 with
   | []=>rw[hh] at c;simp at c;omega
   | x::l =>
    have a1:at? (x::l++[e]) (0:Int)=some x:=rfl;have a2:(x::l++[e])[0]? = some x:=rfl;rw[a1,a2];simp only[obs];rw[q0z (by simp),w64 (by omega) (by omega),List.take_of_length_le (by simp)];rfl
 rw[core];have fin:(if (r.2.2.length:Int)=room then (if r.1=70368744177664 then some (((0:Int),((0:Int),([]:List Ev))),(1:Int)) else some (g0n r room e,0)) else some (g0n r room e,0))=some (if (r.2.2.length:Int)=room/\r.1=70368744177664 then (r0w,1) else (g0n r room e,0)):=by
  by_cases a:(r.2.2.length:Int)=room
  ·rw[q0z a];by_cases b:r.1=70368744177664
   ·rw[q0z b,q0z (And.intro a b)];rfl
   ·rw[q0n b,q0n (fun k=>b k.2)]
  ·rw[q0n a,q0n (fun k=>a k.1)]
 rw[fin];rcases List.eq_nil_or_concat r.2.2 with hh | ⟨q,y,hh⟩
 ·rw[hh,q0n (by simp),q0z (g1r (by rfl) e)]
 ·rw[List.concat_eq_append] at hh;have hlen:=congrArg List.length hh;simp at hlen;rw[q0z (by omega),w64 (by omega) (by omega),b0p (pre:=q) (rest:=[]) hh (by omega),obs];have hg:r.2.2.getLast? = some y:=by rw[hh];simp
  by_cases c:e.1<=y.1
  ·rw[q0z c,q0n (fun k:After r.2.2 e=>by have:=k y hg;omega)];rfl
  ·have ha:After r.2.2 e:=fun z hz=>by rw[hg] at hz;injection hz with hz;rw[<-hz];omega
   rw[q0n c,q0z ha]
end Go.Proofs.YtfibfcjepngbmaaGreatDoor
namespace Go.Plim
variable {α:Type}
def Srt (key:α->Int)(d:List α)(a b:Nat):Prop:=∀i j x y,a<=i->i<j->j<b->d[i]? = some x->d[j]? = some y->key x<=key y
structure Mv (d d':List α)(a b:Nat):Prop where
 perm:d'.Perm d
 out:∀i,(i<a\/b<=i)->d'[i]? = d[i]?
 ins:∀i x,a<=i->i<b->d'[i]? = some x->∃j,a<=j/\j<b/\d[j]? = some x
theorem Mv.len {d d':List α}{a b:Nat}(h:Mv d d' a b):d'.length=d.length:=h.perm.length_eq
theorem Mv.refl (d:List α)(a b:Nat):Mv d d a b:=⟨.refl _,fun _ _=>rfl,fun i x h1 h2 h=>⟨i,h1,h2,h⟩⟩
theorem Mv.trans {d d' d'':List α}{a b:Nat}(h:Mv d d' a b)(g:Mv d' d'' a b):Mv d d'' a b :=
 ⟨g.perm.trans h.perm,fun i hi=>(g.out i hi).trans (h.out i hi),fun i x h1 h2 hx=>by
  obtain ⟨j,j1,j2,hj⟩:=g.ins i x h1 h2 hx
  exact h.ins j x j1 j2 hj⟩
theorem Mv.mono {d d':List α}{a b a' b':Nat}(h:Mv d d' a b)(ha:a'<=a)(hb:b<=b'):Mv d d' a' b' :=
 ⟨h.perm,fun i hi=>h.out i (by omega),fun i x h1 h2 hx=>by
  by_cases k:a<=i/\i<b
  ·obtain ⟨j,j1,j2,hj⟩:=h.ins i x k.1 k.2 hx;exact ⟨j,by omega,by omega,hj⟩
  ·rw[h.out i (by omega)] at hx
   exact ⟨i,h1,h2,hx⟩⟩
theorem Srt.mono {key:α->Int}{d:List α}{a b a' b':Nat}(h:Srt key d a b)(ha:a<=a')(hb:b'<=b):Srt key d a' b' :=
 fun i j x y h1 h2 h3=>h i j x y (by omega) h2 (by omega)
theorem Srt.keep {key:α->Int}{d d':List α}{a b p q:Nat}(h:Srt key d p q)(m:Mv d d' a b)(hd:q<=a\/b<=p):Srt key d' p q :=
 fun i j x y h1 h2 h3 hx hy=>h i j x y h1 h2 h3 (by rw[<-m.out i (by omega)];exact hx) (by rw[<-m.out j (by omega)];exact hy)
theorem Srt.one (key:α->Int)(d:List α){a b:Nat}(h:b<=a+1):Srt key d a b:=fun i j _ _ h1 h2 h3=>by omega
theorem n0k {d:List α}{i j:Nat}{x y:α}(hi:d[i]? = some x)(hj:d[j]? = some y)(k:Nat) :
  ((d.set i y).set j x)[k]? = if k=j then some x else if k=i then some y else d[k]? := by
 have li:=(q2p.1 hi).1;have lj:=(q2p.1 hj).1;simp only[List.getElem?_set,q3k];by_cases e:j=k
 ·subst e;simp[lj]
 ·by_cases e':i=k
  ·subst e';simp[e,li,Ne.symm e]
  ·simp[e,e',Ne.symm e,Ne.symm e']
theorem r1l {d:List α}{i j a b:Nat}{x y:α}(hi:d[i]? = some x)(hj:d[j]? = some y)(i1:a<=i)(i2:i<b)(j1:a<=j)(j2:j<b):Mv d ((d.set i y).set j x) a b:=by
 have li:=(q2p.1 hi);have lj:=(q2p.1 hj);obtain ⟨li,rfl⟩:=li;obtain ⟨lj,rfl⟩:=lj;refine ⟨List.set_set_perm li lj,fun k hk => ?_,fun k z k1 k2 hz => ?_⟩
 ·rw[n0k hi hj,q0n (by omega),q0n (by omega)]
 ·rw[n0k hi hj] at hz;by_cases e:k=j
  ·rw[q0z e] at hz;exact ⟨i,i1,i2,by rw[<-hz,hi]⟩
  ·rw[q0n e] at hz;by_cases e':k=i
   ·rw[q0z e'] at hz;exact ⟨j,j1,j2,by rw[<-hz,hj]⟩
   ·rw[q0n e'] at hz;exact ⟨k,k1,k2,hz⟩
structure Turned (d d':List α)(a m b:Nat):Prop where
 mv:Mv d d' a b
 lo:∀i,a<=i->i<a+(b-m)->d'[i]? = d[i+(m-a)]?
 hi:∀i,a+(b-m)<=i->i<b->d'[i]? = d[i-(b-m)]?
theorem m1d {P U V S d d':List α}{a m b:Nat}(hd:d=P++(U++(V++S)))(hd':d'=P++(V++(U++S)))(ha:P.length=a)(hm:a+U.length=m)(hb:m+V.length=b):Turned d d' a m b:=by
 subst hd hd' ha hm hb;have perm:(P++(V++(U++S))).Perm (P++(U++(V++S))):=by
  refine List.Perm.append_left P ?_;rw[<-q2g,<-q2g];exact List.Perm.append_right S List.perm_append_comm
 have out:∀i,(i<P.length\/P.length+U.length+V.length<=i)->(P++(V++(U++S)))[i]? = (P++(U++(V++S)))[i]? := by
  intro i hi;rcases hi with hi | hi
  ·rw[q3c hi,q3c hi]
  ·rw[q2h (by omega),q2h (by omega),q2h (by omega),q2h (by omega),q2h (by omega),q2h (by omega)];congr 1;omega
 have lo:∀i,P.length<=i->i<P.length+(P.length+U.length+V.length-(P.length+U.length))->(P++(V++(U++S)))[i]? = (P++(U++(V++S)))[i+(P.length+U.length-P.length)]? := by
  intro i h1 h2;rw[q2h (by omega),q3c (by omega),q2h (by omega),q2h (by omega),q3c (by omega)];congr 1;omega
 have hi:∀i,P.length+(P.length+U.length+V.length-(P.length+U.length))<=i->i<P.length+U.length+V.length->(P++(V++(U++S)))[i]? = (P++(U++(V++S)))[i-(P.length+U.length+V.length-(P.length+U.length))]? := by
  intro i h1 h2;rw[q2h (by omega),q2h (by omega),q3c (by omega),q2h (by omega),q3c (by omega)];congr 1;omega
 refine ⟨⟨perm,out,fun i x h1 h2 hx => ?_⟩,lo,hi⟩;by_cases k:i<P.length+(P.length+U.length+V.length-(P.length+U.length))
 ·rw[lo i h1 k] at hx;exact ⟨_,by omega,by omega,hx⟩
 ·rw[hi i (by omega) h2] at hx;exact ⟨_,by omega,by omega,hx⟩
theorem turned_refl (d:List α){a m b:Nat}(h:(a<=m/\m=b)\/(a=m/\m<=b)):Turned d d a m b:=by
 rcases h with ⟨h1,rfl⟩ | ⟨rfl,h1⟩
 ·exact ⟨.refl _ _ _,fun i h2 h3=>by omega,fun i h2 h3=>by simp⟩
 ·exact ⟨.refl _ _ _,fun i h2 h3=>by simp,fun i h2 h3=>by omega⟩
theorem cut4 (d:List α){a m b:Nat}(h1:a<=m)(h2:m<=b)(h3:b<=d.length) :
  ∃P U V S,d=P++(U++(V++S))/\P.length=a/\a+U.length=m/\m+V.length=b:=by
 refine ⟨d.take a,(d.drop a).take (m-a),(d.drop m).take (b-m),d.drop b,?_,?_,?_,?_⟩
 ·have e1:(d.drop m).take (b-m)++d.drop b=d.drop m:=by
   conv=>rhs;rw[<-q3d (b-m) (d.drop m),List.drop_drop]
   rw[show m+(b-m)=b by omega]
  have e2:(d.drop a).take (m-a)++d.drop m=d.drop a:=by
   conv=>rhs;rw[<-q3d (m-a) (d.drop a),List.drop_drop]
   rw[show a+(m-a)=m by omega]
  rw[e1,e2,q3d]
 all_goals simp
 all_goals omega
theorem halves {key:α->Int}{d d':List α}{a m b mid s e:Nat}(h1:Srt key d a m)(h2:Srt key d m b)(t:Turned d d' s m e)
  (k1:a<=s) (k2:s<=m) (k3:m<=e) (k4:e<=b) (k5:e+s=mid+m) (hb:b<=d.length)
  (c1:∀x y,a<s->e<b->d[s-1]? = some x->d[e]? = some y->key x<=key y)
  (c2:∀x y,s<m->m<e->d[e-1]? = some x->d[s]? = some y->key x<=key y) :
  (Srt key d' a s/\Srt key d' s mid/\Srt key d' mid e/\Srt key d' e b) /\
  ∀i j x y,a<=i->i<mid->mid<=j->j<b->d'[i]? = some x->d'[j]? = some y->key x<=key y:=by
 have lo:=t.lo;have hi:=t.hi;have out:=t.mv.out;have e1:s+(e-m)=mid:=by omega
 rw[e1] at lo hi;have le1:∀ {i j x y},a<=i->i<=j->j<m->d[i]? = some x->d[j]? = some y->key x<=key y:=by
  intro i j x y q1 q2 q3 hx hy;rcases Nat.lt_or_eq_of_le q2 with q | q
  ·exact h1 i j x y q1 q q3 hx hy
  ·subst q;rw[hx] at hy;injection hy with hy;subst hy;exact Int.le_refl _
 have le2:∀ {i j x y},m<=i->i<=j->j<b->d[i]? = some x->d[j]? = some y->key x<=key y:=by
  intro i j x y q1 q2 q3 hx hy;rcases Nat.lt_or_eq_of_le q2 with q | q
  ·exact h2 i j x y q1 q q3 hx hy
  ·subst q;rw[hx] at hy;injection hy with hy;subst hy;exact Int.le_refl _
 have getm:∀i,i<d.length->∃x,d[i]? = some x:=fun i h=>⟨d[i],q2b h⟩
 refine ⟨⟨?_,?_,?_,?_⟩,?_⟩
 ·intro i j x y q1 q2 q3 hx hy;rw[out i (by omega)] at hx;rw[out j (by omega)] at hy;exact h1 i j x y q1 q2 (by omega) hx hy
 ·intro i j x y q1 q2 q3 hx hy;rw[lo i (by omega) (by omega)] at hx;rw[lo j (by omega) (by omega)] at hy;exact h2 _ _ x y (by omega) (by omega) (by omega) hx hy
 ·intro i j x y q1 q2 q3 hx hy;rw[hi i (by omega) (by omega)] at hx;rw[hi j (by omega) (by omega)] at hy;exact h1 _ _ x y (by omega) (by omega) (by omega) hx hy
 ·intro i j x y q1 q2 q3 hx hy;rw[out i (by omega)] at hx;rw[out j (by omega)] at hy;exact h2 i j x y (by omega) q2 q3 hx hy
 ·intro i j x y q1 q2 q3 q4 hx hy;by_cases r1:i<s
  ·rw[out i (by omega)] at hx;by_cases r2:j<e
   ·rw[hi j (by omega) (by omega)] at hy;exact le1 (by omega) (by omega) (by omega) hx hy
   ·rw[out j (by omega)] at hy;obtain ⟨u,hu⟩:=getm (s-1) (by omega);obtain ⟨v,hv⟩:=getm e (by omega);have:=c1 u v (by omega) (by omega) hu hv;have:=le1 (i:=i) (j:=s-1) (by omega) (by omega) (by omega) hx hu;have:=le2 (i:=e) (j:=j) (by omega) (by omega) (by omega) hv hy;omega
  ·rw[lo i (by omega) (by omega)] at hx;by_cases r2:j<e
   ·rw[hi j (by omega) (by omega)] at hy;obtain ⟨u,hu⟩:=getm (e-1) (by omega);obtain ⟨v,hv⟩:=getm s (by omega);have:=c2 u v (by omega) (by omega) hu hv;have:=le2 (i:=i+(m-s)) (j:=e-1) (by omega) (by omega) (by omega) hx hu;have:=le1 (i:=s) (j:=j-(e-m)) (by omega) (by omega) (by omega) hv hy;omega
   ·rw[out j (by omega)] at hy;exact le2 (by omega) (by omega) (by omega) hx hy
theorem Srt.join {key:α->Int}{d:List α}{a m b:Nat}(h1:Srt key d a m)(h2:Srt key d m b)(h:∀i j x y,a<=i->i<m->m<=j->j<b->d[i]? = some x->d[j]? = some y->key x<=key y):Srt key d a b:=by
 intro i j x y q1 q2 q3 hx hy;by_cases r1:j<m
 ·exact h1 i j x y q1 q2 r1 hx hy
 ·by_cases r2:m<=i
  ·exact h2 i j x y r2 q2 q3 hx hy
  ·exact h i j x y q1 (by omega) (by omega) q3 hx hy
theorem x1p {key:α->Int}{d d':List α}{a m b:Nat}(h:∀i j x y,a<=i->i<m->m<=j->j<b->d[i]? = some x->d[j]? = some y->key x<=key y)
  (t:Mv d d' a m\/Mv d d' m b):∀i j x y,a<=i->i<m->m<=j->j<b->d'[i]? = some x->d'[j]? = some y->key x<=key y:=by
 intro i j x y q1 q2 q3 q4 hx hy;rcases t with t | t
 ·obtain ⟨k,k1,k2,hk⟩:=t.ins i x q1 q2 hx;rw[t.out j (by omega)] at hy;exact h k j x y k1 k2 q3 q4 hk hy
 ·obtain ⟨k,k1,k2,hk⟩:=t.ins j y q3 q4 hy;rw[t.out i (by omega)] at hx;exact h i k x y q1 q2 k1 k2 hx hk
end Go.Plim
namespace Go.Proofs.YtfibfcjepngbmaaGreatDoor
open Go.Flat Go.Plim
theorem s0n {α:Type}(xs:List α)(i:Nat):at? xs (i:Int)=xs[i]? := by simp[at?]
theorem at_some {α:Type}{xs:List α}{i:Nat}(h:i<xs.length):at? xs (i:Int)=some xs[i]:=by simp[at?,h]
theorem wn {x:Int}{k:Nat}(h:x=k)(hk:k<=4000000000000):wrap .i64 x=(k:Int):=by rw[w64 (by omega) (by omega),h]
theorem z0u (a b:Nat)(h:a+b<=4000000000000):wrap .i64 (shrI .u64 (wrap .u64 (wrap .i64 ((a:Int)+(b:Int)))) 1)=(((a+b) / 2:Nat):Int):=by
 rw[w64 (x:=(a:Int)+b) (by omega) (by omega),wu64 (by omega) (by omega)];have e:shrI .u64 ((a:Int)+(b:Int)) 1=(((a+b) / 2:Nat):Int):=by
  show Int.fdiv ((a:Int)+b) (2^(min 1 64))=_;rw[show ((2:Int)^(min 1 64))=2 from by decide,Int.fdiv_eq_ediv_of_nonneg _ (by decide)];omega
 rw[e,w64 (by omega) (by omega)]
theorem tif_tif {α:Type}(p q:Prop)[Decidable p][Decidable q](x y:α):tif (decide p) (tif (decide q) x y) y=if p/\q then x else y:=by
 by_cases hp:p<;>by_cases hq:q<;>simp[hp,hq]
def Cmp (cmp:(a0c×(a0c×Unit))->Option Int)(key:a0c->Int):Prop:=∀x y,∃c,cmp (x,(y,()))=some c/\(c<0↔key x<key y)
section
variable {cmp:(a0c×(a0c×Unit))->Option Int}{key:a0c->Int}(hc:Cmp cmp key)
include hc
theorem ins_l4 (n:Nat)(a b:Int)(an i:Nat)(ha:a=an):∀(k f:Nat) (d:List a0c),k<=i-an->an+k<=i->k<f->i<d.length->d.length<=1000000000000 ->
  (∀p q x y,an<=p->p<q->q<=i->p≠an+k->q≠an+k->d[p]? = some x->d[q]? = some y->key x<=key y) ->
  (∀q x y,an+k<q->q<=i->d[an+k]? = some x->d[q]? = some y->key x<=key y) ->
  ∃d',q0o n f (d,a,b,cmp,(i:Int),((an+k:Nat):Int),())=some (.inl (d',a,b,cmp,(i:Int),()))/\Mv d d' an (i+1)/\Srt key d' an (i+1):=by
 subst ha;intro k;induction k with
 | zero =>
  intro f d hk hi hf hl hL h1 h2;obtain ⟨f,rfl⟩:∃g,f=g+1:=⟨f-1,by omega⟩;rw[u0f];simp only[tfd,q0n (show ¬((an:Int)<((an+0:Nat):Int)) by omega)];refine ⟨d,rfl,.refl _ _ _,fun p q x y q1 q2 q3 hx hy => ?_⟩;by_cases e:p=an+0
  ·subst e;exact h2 q x y q2 (by omega) hx hy
  ·exact h1 p q x y q1 q2 (by omega) e (by omega) hx hy
 | succ k ih =>
  intro f d hk hi hf hl hL h1 h2;obtain ⟨f,rfl⟩:∃g,f=g+1:=⟨f-1,by omega⟩;rw[u0f];have e1:wrap .i64 (((an+(k+1):Nat):Int)-1)=((an+k:Nat):Int):=wn (by omega) (by omega);have lj:an+(k+1)<d.length:=by omega
  have lk:an+k<d.length:=by omega
  obtain ⟨c,hcm,hlt⟩:=hc d[an+(k+1)] d[an+k];have gj:d[an+(k+1)]? = some d[an+(k+1)]:=q2b lj;have gk:d[an+k]? = some d[an+k]:=q2b lk;simp only[tfd,q0z (show ((an:Int)<((an+(k+1):Nat):Int)) by omega),e1,s0n,q2i,gj,gk,obs,hcm];by_cases hlt':c<0
  ·have kl:=hlt.1 hlt';have g1:(d.set (an+(k+1)) d[an+k])[an+k]? = some d[an+k]:=by rw[q3f (by omega)];exact gk
   simp only[q0z hlt',g1,obs];have sg:=n0k (d:=d) gj gk;have mv:=r1l (d:=d) (a:=an) (b:=i+1) gj gk (by omega) (by omega) (by omega) (by omega);obtain ⟨d',r1,r2,r3⟩:=ih f ((d.set (an+(k+1)) d[an+k]).set (an+k) d[an+(k+1)]) (by omega) (by omega) (by omega) (by simpa using hl) (by simpa using hL)
    (fun p q x y q1 q2 q3 p1 p2 hx hy=>by
     rw[sg] at hx hy;rw[q0n p1] at hx;rw[q0n p2] at hy;by_cases ep:p=an+(k+1)
     ·rw[q0z ep] at hx;rw[q0n (by omega)] at hy;have:d[an+k]? = some x:=by rw[gk];exact hx
      exact h1 (an+k) q x y (by omega) (by omega) q3 (by omega) (by omega) this hy
     ·rw[q0n ep] at hx;by_cases eq:q=an+(k+1)
      ·rw[q0z eq] at hy;have:d[an+k]? = some y:=by rw[gk];exact hy
       exact h1 p (an+k) x y q1 (by omega) (by omega) ep (by omega) hx this
      ·rw[q0n eq] at hy
       exact h1 p q x y q1 q2 q3 ep eq hx hy)
    (fun q x y q1 q2 hx hy=>by
     rw[sg] at hx hy;rw[q0z rfl] at hx;injection hx with hx;subst hx;rw[q0n (by omega)] at hy;by_cases eq:q=an+(k+1)
     ·rw[q0z eq] at hy;injection hy with hy;subst hy;omega
     ·rw[q0n eq] at hy
      exact h2 q _ y (by omega) q2 gj hy)
   exact ⟨d',r1,mv.trans r2,r3⟩
  ·simp only[q0n hlt'];refine ⟨d,rfl,.refl _ _ _,fun p q x y q1 q2 q3 hx hy => ?_⟩;have kl:key d[an+k]<=key d[an+(k+1)]:=by
    have:=mt hlt.2 hlt';omega
   by_cases ep:p=an+(k+1)
   ·subst ep;exact h2 q x y q2 (by omega) hx hy
   ·by_cases eq:q=an+(k+1)
    ·subst eq;rw[gj] at hy;injection hy with hy;subst hy;by_cases e3:p=an+k
     ·subst e3;rw[gk] at hx;injection hx with hx;subst hx;exact kl
     ·have:=h1 p (an+k) x _ q1 (by omega) (by omega) ep (by omega) hx gk;omega
    ·exact h1 p q x y q1 q2 (by omega) ep eq hx hy
theorem ins_l1 (n:Nat)(a b:Int)(an bn:Nat)(ha:a=an)(hb:b=bn):∀(k f:Nat) (i:Nat) (d:List a0c),bn-i<=k->k<f->an<i->(i<=bn\/bn<=an+1)->bn<=d.length->d.length<=1000000000000->Srt key d an i ->
  ∃d',q0p n f (d,a,b,cmp,(i:Int),())=some (.inl (d',()))/\Mv d d' an bn/\Srt key d' an bn:=by
 intro k;induction k with
 | zero =>
  intro f i d hk hf hi hib hl hL hs;obtain ⟨f,rfl⟩:∃g,f=g+1:=⟨f-1,by omega⟩;rw[u0g];subst ha hb;simp only[tfd,q0n (show ¬((i:Int)<(bn:Int)) by omega)];exact ⟨d,rfl,.refl _ _ _,hs.mono (by omega) (by omega)⟩
 | succ k ih =>
  intro f i d hk hf hi hib hl hL hs;obtain ⟨f,rfl⟩:∃g,f=g+1:=⟨f-1,by omega⟩;rw[u0g];by_cases hlt:i<bn
  ·obtain ⟨d',r1,r2,r3⟩:=ins_l4 hc n a b an i ha (i-an) a0b d (by omega) (by omega) (by unfold a0b;omega) (by omega) hL
    (fun p q x y q1 q2 q3 p1 p2 hx hy=>hs p q x y q1 q2 (by omega) hx hy) (fun q x y q1 q2=>by omega)
   rw[show an+(i-an)=i by omega] at r1;subst ha hb;simp only[tfd,q0z (show ((i:Int)<(bn:Int)) by omega),r1,obs,b0h];rw[wn (k:=i+1) (by omega) (by omega)];have ml:=r2.len;obtain ⟨d'',s1,s2,s3⟩:=ih f (i+1) d' (by omega) (by omega) (by omega) (by omega) (by omega) (by omega) r3;exact ⟨d'',s1,(r2.mono (by omega) (by omega)).trans s2,s3⟩
  ·subst ha hb;simp only[tfd,q0n (show ¬((i:Int)<(bn:Int)) by omega)];exact ⟨d,rfl,.refl _ _ _,hs.mono (by omega) (by omega)⟩
theorem ins_ok (n:Nat)(a b:Int)(an bn:Nat)(ha:a=an)(hb:b=bn)(d:List a0c)(hab:an<=bn)(hl:bn<=d.length)(hL:d.length<=1000000000000) :
  ∃d',i1f (n+1) d a b cmp=some d'/\Mv d d' an bn/\Srt key d' an bn:=by
 rw[y1x];have e:wrap .i64 (a+1)=((an+1:Nat):Int):=wn (by omega) (by omega);rw[e];obtain ⟨d',r1,r2,r3⟩:=ins_l1 hc n a b an bn ha hb bn a0b (an+1) d (by omega) (by unfold a0b;omega) (by omega) (by omega) hl hL (Srt.one _ _ (by omega));rw[r1];exact ⟨d',by simp,r2,r3⟩
omit hc in
theorem m1l (n:Nat)(a b m:Int)(P:List a0c):∀(k f i:Nat) (X X' M Y Y' S:List a0c),X'.length=k->Y'.length=k->X.length=i->Y.length=i->k<f ->
  a=P.length->b=P.length+X.length+X'.length+M.length->m=i+k->b+m<=2000000000000 ->
  q0l n f (P++(Y++(X'++(M++(X++(Y'++S))))),a,b,m,(i:Int),())=some (.inl (P++(Y++(Y'++(M++(X++(X'++S))))),())):=by
 intro k;induction k with
 | zero =>
  intro f i X X' M Y Y' S h1 h2 h3 h4 hf ha hb hm hs;obtain ⟨f,rfl⟩:∃g,f=g+1:=⟨f-1,by omega⟩;obtain rfl:=List.length_eq_zero_iff.1 h1;obtain rfl:=List.length_eq_zero_iff.1 h2;rw[u0b];simp only[tfd,q0n (show ¬((i:Int)<m) by omega)]
 | succ k ih =>
  intro f i X X' M Y Y' S h1 h2 h3 h4 hf ha hb hm hs;obtain ⟨f,rfl⟩:∃g,f=g+1:=⟨f-1,by omega⟩
  match X',Y' with
  | x::X',y::Y' =>
   simp only[q2k] at h1 h2 hb;rw[u0b];have ea:wrap .i64 (a+(i:Int))=((P.length+i:Nat):Int):=wn (by omega) (by omega);have eb:wrap .i64 (b+(i:Int))=((P.length+i+(k+1)+M.length+i:Nat):Int):=wn (by omega) (by omega);have g1:(P++(Y++(x::X'++(M++(X++(y::Y'++S))))))[P.length+i]? = some x:=by
    rw[q2h (by omega),q2h (by omega)];rw[show P.length+i-P.length-Y.length=0 by omega];rfl
   have g2:(P++(Y++(x::X'++(M++(X++(y::Y'++S))))))[P.length+i+(k+1)+M.length+i]? = some y:=by
    rw[q2h (by omega),q2h (by omega),q2h (by simp;omega),q2h (by simp;omega),q2h (by simp;omega)];simp only[q2k];rw[show P.length+i+(k+1)+M.length+i-P.length-Y.length-(X'.length+1)-M.length-X.length=0 by omega];rfl
   have s1:(P++(Y++(x::X'++(M++(X++(y::Y'++S)))))).set (P.length+i) y=P++(Y++(y::X'++(M++(X++(y::Y'++S))))):=by
    rw[q3p _ _ (by omega),q3p _ _ (by omega),show P.length+i-P.length-Y.length=0 by omega];rfl
   have s2:(P++(Y++(y::X'++(M++(X++(y::Y'++S)))))).set (P.length+i+(k+1)+M.length+i) x=P++(Y++(y::X'++(M++(X++(x::Y'++S))))):=by
    rw[q3p _ _ (by omega),q3p _ _ (by omega),q3p _ _ (by simp;omega),q3p _ _ (by simp;omega),q3p _ _ (by simp;omega)];simp only[q2k];rw[show P.length+i+(k+1)+M.length+i-P.length-Y.length-(X'.length+1)-M.length-X.length=0 by omega];rfl
   have g3:(P++(Y++(y::X'++(M++(X++(y::Y'++S))))))[P.length+i+(k+1)+M.length+i]? = some y:=by
    rw[q2h (by omega),q2h (by omega),q2h (by simp;omega),q2h (by simp;omega),q2h (by simp;omega)];simp only[q2k];rw[show P.length+i+(k+1)+M.length+i-P.length-Y.length-(X'.length+1)-M.length-X.length=0 by omega];rfl
   simp only[tfd,q0z (show ((i:Int)<m) by omega),ea,eb,s0n,q2i,g1,g2,s1,g3,s2,obs];have e6:wrap .i64 ((i:Int)+1)=((i+1:Nat):Int):=wn (by omega) (by omega);rw[e6];have:=ih f (i+1) (X++[x]) X' M (Y++[y]) Y' S (by omega) (by omega) (by simp;omega) (by simp;omega) (by omega) ha (by simp;omega) (by omega) hs;simp only[q2g,List.singleton_append,q3t] at this ⊢;exact this
omit hc in
theorem o0u (n:Nat)(a b m:Int)(P X M Y S:List a0c)(h:X.length=Y.length)(ha:a=P.length)(hb:b=P.length+X.length+M.length)(hm:m=X.length)(hs:b+m<=2000000000000)(d:List a0c)(hd:d=P++(X++(M++(Y++S)))) :
  a1o (n+1) d a b m cmp=some (P++(Y++(M++(X++S)))):=by
 subst hd;rw[y1u];have:=m1l n a b m P X.length a0b 0 [] X M [] Y S rfl h.symm rfl rfl (by unfold a0b;omega) ha (by simp;omega) (by omega) hs;simp only[q2q] at this;rw[show (0:Int)=((0:Nat):Int) from rfl,this];simp
omit hc in
theorem d2w (n:Nat)(m:Int):∀(k f:Nat) (P U V S d:List a0c) (i j:Int),U.length+V.length<=k->k<f->U≠[]->V≠[]->i=U.length->j=V.length->m=P.length+U.length->m+j<=1000000000000->d=P++(U++(V++S)) ->
  ∃P' U' V' S' d',l0u (n+1) f (d,m,cmp,i,j,())=some (.inl (d',m,cmp,(U'.length:Int),()))/\U'.length=V'.length/\m=P'.length+U'.length/\d'=P'++(U'++(V'++S'))/\P'++(V'++(U'++S'))=P++(V++(U++S)):=by
 intro k;induction k with
 | zero =>
  intro f P U V S d i j hk hf hu hv;exact absurd (List.length_eq_zero_iff.1 (show U.length=0 by omega)) hu
 | succ k ih =>
  intro f P U V S d i j hk hf hu hv hi hj hm hmj hd;obtain ⟨f,rfl⟩:∃g,f=g+1:=⟨f-1,by omega⟩;have lu:=List.length_pos_iff.2 hu;have lv:=List.length_pos_iff.2 hv;rw[i1e];by_cases e:i=j
  ·simp only[tfn,tfd,q0z e];exact ⟨P,U,V,S,d,by rw[hi],by omega,hm,hd,rfl⟩
  ·by_cases lt:j<i
   ·-- the front of U with V
    have hU:U=U.take V.length++U.drop V.length:=(q3d _ _).symm;have l1:(U.take V.length).length=V.length:=by simp;omega
    have l2:(U.drop V.length).length=U.length-V.length:=by simp
    have hs:=o0u (cmp:=cmp) n (P.length:Int) m j P (U.take V.length) (U.drop V.length) V S l1 rfl (by omega) (by omega) (by omega) d (by rw[hd,<-q2g (U.take V.length),<-hU]);have e1:wrap .i64 (m-i)=(P.length:Int):=wn (by omega) (by omega);have e2:wrap .i64 (i-j)=((U.drop V.length).length:Int):=wn (by omega) (by omega);simp only[tfn,tfd,q0n e,q0z lt,e1,e2,hs,obs]
    obtain ⟨P',U',V',S',d',r1,r2,r3,r4,r5⟩:=ih f (P++V) (U.drop V.length) (U.take V.length) S (P++(V++(U.drop V.length++(U.take V.length++S)))) ((U.drop V.length).length:Int) j (by omega) (by omega)
     (by intro h;rw[h] at l2;simp at l2;omega) (by intro h;rw[h] at l1;simp at l1;omega) rfl (by omega) (by simp;omega) hmj (by simp only[q2g])
    exact ⟨P',U',V',S',d',r1,r2,r3,r4,by rw[r5];rw[q2g,<-q2g (U.take V.length),<-hU]⟩
   ·have hV:V=V.take (V.length-U.length)++V.drop (V.length-U.length):=(q3d _ _).symm;have l1:(V.take (V.length-U.length)).length=V.length-U.length:=by simp
    have l2:(V.drop (V.length-U.length)).length=U.length:=by simp;omega
    have hs:=o0u (cmp:=cmp) n (P.length:Int) (m+j-i) i P U (V.take (V.length-U.length)) (V.drop (V.length-U.length)) S l2.symm rfl (by omega) (by omega) (by omega) d (by rw[hd,<-q2g (V.take _) (V.drop _) S,<-hV]);have e1:wrap .i64 (m-i)=(P.length:Int):=wn (by omega) (by omega);have e2:wrap .i64 (j-i)=((V.take (V.length-U.length)).length:Int):=wn (by omega) (by omega);have e3:wrap .i64 (wrap .i64 (m+j)-i)=m+j-i:=by rw[w64 (x:=m+j) (by omega) (by omega),w64 (by omega) (by omega)]
    simp only[tfn,tfd,q0n e,q0n lt,e1,e2,e3,hs,obs];obtain ⟨P',U',V',S',d',r1,r2,r3,r4,r5⟩:=ih f P (V.drop (V.length-U.length)) (V.take (V.length-U.length)) (U++S) _ i ((V.take (V.length-U.length)).length:Int) (by omega) (by omega)
     (by intro h;rw[h] at l2;simp at l2;omega) (by intro h;rw[h] at l1;simp at l1;omega) (by omega) rfl (by omega) (by omega) rfl
    exact ⟨P',U',V',S',d',r1,r2,r3,r4,by rw[r5];rw[<-q2g (V.take _) (V.drop _),<-hV]⟩
omit hc in
theorem d2v (n:Nat)(a m b:Int)(an mn bn:Nat)(ha:a=an)(hm:m=mn)(hb:b=bn)(d:List a0c)(h1:an<mn)(h2:mn<bn)(hl:bn<=d.length)(hL:d.length<=1000000000000) :
  ∃d',a1p (n+2) d a m b cmp=some d'/\Turned d d' an mn bn:=by
 obtain ⟨P,U,V,S,hd,la,lm,lb⟩:=cut4 d (a:=an) (m:=mn) (b:=bn) (by omega) (by omega) hl;rw[y1w];have e1:wrap .i64 (m-a)=(U.length:Int):=wn (by omega) (by omega);have e2:wrap .i64 (b-m)=(V.length:Int):=wn (by omega) (by omega);have hfl:U.length+V.length<a0b:=by
  have:d.length=P.length+(U.length+(V.length+S.length)):=by rw[hd];simp
  unfold a0b;omega
 have hu:U≠[]:=by intro h;rw[h] at lm;simp at lm;omega
 have hv:V≠[]:=by intro h;rw[h] at lb;simp at lb;omega
 obtain ⟨P',U',V',S',d',r1,r2,r3,r4,r5⟩:=d2w (cmp:=cmp) n m (U.length+V.length) a0b P U V S d (U.length:Int) (V.length:Int) (by omega) hfl hu hv rfl rfl (by omega) (by omega) hd;have ld:d'.length=d.length:=by
  have:=congrArg List.length r5;rw[r4,hd];simp at this ⊢;omega
 have hs:=o0u (cmp:=cmp) n (P'.length:Int) m (U'.length:Int) P' U' [] V' S' r2 rfl (by simp;omega) rfl (by rw[r4] at ld;simp at ld;omega) d' (by rw[r4];simp);simp only[e1,e2,r1,obs,b0h,wn (x:=m-(U'.length:Int)) (k:=P'.length) (by omega) (by rw[r4] at ld;simp at ld;omega),hs];simp only[q2q];exact ⟨_,rfl,m1d (P:=P) (U:=U) (V:=V) (S:=S) hd r5 la lm lb⟩
theorem sym_l3 (n:Nat)(a:Int)(an:Nat)(ha:a=an)(d:List a0c)(x:a0c)(hx:d[an]? = some x)(hL:d.length<=1000000000000)(lo hi:Nat)(hs:Srt key d lo hi)(hh:hi<=d.length):∀(k f i j:Nat),j-i<=k->k<f->i<=j->lo<=i->j<=hi ->
  (∀p y,lo<=p->p<i->d[p]? = some y->key y<key x)->(∀p y,j<=p->p<hi->d[p]? = some y->key x<=key y) ->
  ∃r:Nat,l0s n f (d,a,cmp,(i:Int),(j:Int),())=some (.inl (d,a,(r:Int),()))/\lo<=r/\r<=hi /\
   (∀p y,lo<=p->p<r->d[p]? = some y->key y<key x)/\(∀p y,r<=p->p<hi->d[p]? = some y->key x<=key y):=by
 subst ha;intro k;induction k with
 | zero =>
  intro f i j hk hf hij hi hj h1 h2;obtain ⟨f,rfl⟩:∃g,f=g+1:=⟨f-1,by omega⟩;rw[u0a];simp only[tfd,q0n (show ¬((i:Int)<(j:Int)) by omega)];have e:i=j:=by omega
  subst e;exact ⟨i,rfl,by omega,by omega,h1,h2⟩
 | succ k ih =>
  intro f i j hk hf hij hi hj h1 h2;obtain ⟨f,rfl⟩:∃g,f=g+1:=⟨f-1,by omega⟩;rw[u0a];by_cases lt:i<j
  ·have e1:=z0u i j (by omega);have lh:(i+j) / 2<d.length:=by omega
   obtain ⟨c,hcm,hlt⟩:=hc d[(i+j) / 2] x;have gh:d[(i+j) / 2]? = some d[(i+j) / 2]:=q2b lh;simp only[tfd,q0z (show ((i:Int)<(j:Int)) by omega),e1,s0n,q2i,gh,hx,obs,hcm];by_cases hlt':c<0
   ·have kl:=hlt.1 hlt';simp only[q0z hlt'];rw[wn (x:=(((i+j) / 2:Nat):Int)+1) (k:=(i+j) / 2+1) (by omega) (by omega)];refine ih f ((i+j) / 2+1) j (by omega) (by omega) (by omega) (by omega) hj (fun p y p1 p2 hy => ?_) h2;by_cases ep:p=(i+j) / 2
    ·subst ep;rw[gh] at hy;injection hy with hy;subst hy;exact kl
    ·have:=hs p ((i+j) / 2) y _ p1 (by omega) (by omega) hy gh;omega
   ·have kl:key x<=key d[(i+j) / 2]:=by have:=mt hlt.2 hlt';omega
    simp only[q0n hlt'];refine ih f i ((i+j) / 2) (by omega) (by omega) (by omega) hi (by omega) h1 (fun p y p1 p2 hy => ?_);by_cases ep:p=(i+j) / 2
    ·subst ep;rw[gh] at hy;injection hy with hy;subst hy;exact kl
    ·have:=hs ((i+j) / 2) p _ y (by omega) (by omega) (by omega) gh hy;omega
  ·simp only[tfd,q0n (show ¬((i:Int)<(j:Int)) by omega)];have e:i=j:=by omega
   subst e;exact ⟨i,rfl,by omega,by omega,h1,h2⟩
theorem sym_l15 (n:Nat)(m:Int)(mn:Nat)(hm:m=mn)(d:List a0c)(x:a0c)(hx:d[mn]? = some x)(hL:d.length<=1000000000000)(lo hi:Nat)(hs:Srt key d lo hi)(hh:hi<=d.length):∀(k f i j:Nat),j-i<=k->k<f->i<=j->lo<=i->j<=hi ->
  (∀p y,lo<=p->p<i->d[p]? = some y->key y<=key x)->(∀p y,j<=p->p<hi->d[p]? = some y->key x<key y) ->
  ∃r:Nat,j0x n f (d,m,cmp,(i:Int),(j:Int),())=some (.inl (d,m,(r:Int),()))/\lo<=r/\r<=hi /\
   (∀p y,lo<=p->p<r->d[p]? = some y->key y<=key x)/\(∀p y,r<=p->p<hi->d[p]? = some y->key x<key y):=by
 subst hm;intro k;induction k with
 | zero =>
  intro f i j hk hf hij hi hj h1 h2;obtain ⟨f,rfl⟩:∃g,f=g+1:=⟨f-1,by omega⟩;rw[r0v];simp only[tfd,q0n (show ¬((i:Int)<(j:Int)) by omega)];have e:i=j:=by omega
  subst e;exact ⟨i,rfl,by omega,by omega,h1,h2⟩
 | succ k ih =>
  intro f i j hk hf hij hi hj h1 h2;obtain ⟨f,rfl⟩:∃g,f=g+1:=⟨f-1,by omega⟩;rw[r0v];by_cases lt:i<j
  ·have e1:=z0u i j (by omega);have lh:(i+j) / 2<d.length:=by omega
   obtain ⟨c,hcm,hlt⟩:=hc x d[(i+j) / 2];have gh:d[(i+j) / 2]? = some d[(i+j) / 2]:=q2b lh;simp only[tfn,tfd,q0z (show ((i:Int)<(j:Int)) by omega),e1,s0n,q2i,gh,hx,obs,hcm];by_cases hlt':c<0
   ·have kl:=hlt.1 hlt';simp only[q0z hlt'];refine ih f i ((i+j) / 2) (by omega) (by omega) (by omega) hi (by omega) h1 (fun p y p1 p2 hy => ?_);by_cases ep:p=(i+j) / 2
    ·subst ep;rw[gh] at hy;injection hy with hy;subst hy;exact kl
    ·have:=hs ((i+j) / 2) p _ y (by omega) (by omega) (by omega) gh hy;omega
   ·have kl:key d[(i+j) / 2]<=key x:=by have:=mt hlt.2 hlt';omega
    simp only[q0n hlt'];rw[wn (x:=(((i+j) / 2:Nat):Int)+1) (k:=(i+j) / 2+1) (by omega) (by omega)];refine ih f ((i+j) / 2+1) j (by omega) (by omega) (by omega) (by omega) hj (fun p y p1 p2 hy => ?_) h2;by_cases ep:p=(i+j) / 2
    ·subst ep;rw[gh] at hy;injection hy with hy;subst hy;exact kl
    ·have:=hs p ((i+j) / 2) y _ p1 (by omega) (by omega) hy gh;omega
  ·simp only[tfd,q0n (show ¬((i:Int)<(j:Int)) by omega)];have e:i=j:=by omega
   subst e;exact ⟨i,rfl,by omega,by omega,h1,h2⟩
end
def Exc (key:a0c->Int)(d:List a0c)(a b k:Nat):Prop:=∀p q x y,a<=p->p<q->q<b->p≠k->q≠k->d[p]? = some x->d[q]? = some y->key x<=key y
def Place (key:a0c->Int)(d:List a0c)(a b k i:Nat)(x:a0c):Prop :=
 (∀p z,a<=p->p<i->p≠k->d[p]? = some z->key z<=key x)/\(∀p z,i<=p->p<b->p≠k->d[p]? = some z->key x<=key z)
theorem x1k {key:a0c->Int}{d:List a0c}{a b k j:Nat}{x y:a0c}(hj:j=k+1\/k=j+1)(ja:a<=j)(jb:j<b)(hx:d[k]? = some x)(hy:d[j]? = some y)(h:Exc key d a b k):Exc key ((d.set k y).set j x) a b j:=by
 intro p q u v q1 q2 q3 p1 p2 hu hv;rw[n0k hx hy,q0n p1] at hu;rw[n0k hx hy,q0n p2] at hv;by_cases ep:p=k
 ·rw[q0z ep] at hu;rw[q0n (by omega)] at hv;injection hu with hu;subst hu;exact h j q y v (by omega) (by omega) q3 (by omega) (by omega) hy hv
 ·rw[q0n ep] at hu;by_cases eq:q=k
  ·rw[q0z eq] at hv;injection hv with hv;subst hv;exact h p j u y q1 (by omega) (by omega) (by omega) (by omega) hu hy
  ·rw[q0n eq] at hv;exact h p q u v q1 q2 q3 ep eq hu hv
theorem h2c {key:a0c->Int}{d:List a0c}{a b k i:Nat}{x:a0c}(h:Exc key d a b k)(hp:Place key d a b k i x)(hx:d[k]? = some x)(hk:k=i\/k+1=i):Srt key d a b:=by
 intro p q u v q1 q2 q3 hu hv;by_cases ep:p=k
 ·subst ep;rw[hx] at hu;injection hu with hu;subst hu;exact hp.2 q v (by omega) q3 (by omega) hv
 ·by_cases eq:q=k
  ·subst eq;rw[hx] at hv;injection hv with hv;subst hv;exact hp.1 p u q1 (by omega) ep hu
  ·exact h p q u v q1 q2 q3 ep eq hu hv
theorem sym_l9 {key:a0c->Int}(n:Nat)(a b i:Nat)(x:a0c):∀(c f k:Nat) (d:List a0c),k+c+1=i->c<f->a<=k->i<=b->b<=d.length->d.length<=1000000000000->d[k]? = some x->Exc key d a b k->Place key d a b k i x ->
  ∃d',q0k n f (d,(i:Int),(k:Int),())=some (.inl (d',()))/\Mv d d' a b/\Srt key d' a b:=by
 intro c;induction c with
 | zero =>
  intro f k d hk hf ha hi hb hL hx h1 h2;obtain ⟨f,rfl⟩:∃g,f=g+1:=⟨f-1,by omega⟩;rw[t0z];rw[wn (x:=(i:Int)-1) (k:=k) (by omega) (by omega)];simp only[tfd,q0n (show ¬((k:Int)<(k:Int)) by omega)];exact ⟨d,rfl,.refl _ _ _,h2c h1 h2 hx (by omega)⟩
 | succ c ih =>
  intro f k d hk hf ha hi hb hL hx h1 h2;obtain ⟨f,rfl⟩:∃g,f=g+1:=⟨f-1,by omega⟩;rw[t0z];have lk:k+1<d.length:=by omega
  have gy:d[k+1]? = some d[k+1]:=q2b lk;have g1:(d.set k d[k+1])[k+1]? = some d[k+1]:=by rw[q3f (by omega)];exact gy
  rw[wn (x:=(i:Int)-1) (k:=i-1) (by omega) (by omega),wn (x:=(k:Int)+1) (k:=k+1) (by omega) (by omega)];simp only[tfd,q0z (show ((k:Int)<((i-1:Nat):Int)) by omega),s0n,q2i,gy,hx,g1,obs];have sg:=n0k hx gy;have mv:=r1l (a:=a) (b:=b) hx gy (by omega) (by omega) (by omega) (by omega);obtain ⟨d',r1,r2,r3⟩:=ih f (k+1) ((d.set k d[k+1]).set (k+1) x) (by omega) (by omega) (by omega) hi (by simpa using hb) (by simpa using hL)
   (by rw[sg,q0z rfl]) (x1k (.inl rfl) (by omega) (by omega) hx gy h1)
   ⟨fun p z p1 p2 p3 hz=>by
    rw[sg,q0n p3] at hz;by_cases e:p=k
    ·rw[q0z e] at hz;injection hz with hz;subst hz;exact h2.1 (k+1) _ (by omega) (by omega) (by omega) gy
    ·rw[q0n e] at hz;exact h2.1 p z p1 p2 e hz,
    fun p z p1 p2 p3 hz=>by
     rw[sg,q0n p3,q0n (by omega)] at hz
     exact h2.2 p z p1 p2 (by omega) hz⟩
  exact ⟨d',r1,mv.trans r2,r3⟩
theorem sym_l21 {key:a0c->Int}(n:Nat)(a b i:Nat)(x:a0c):∀(c f k:Nat) (d:List a0c),i+c=k->c<f->a<=i->k<b->b<=d.length->d.length<=1000000000000->d[k]? = some x->Exc key d a b k->Place key d a b k i x ->
  ∃d',n0m n f (d,(i:Int),(k:Int),())=some (.inl (d',()))/\Mv d d' a b/\Srt key d' a b:=by
 intro c;induction c with
 | zero =>
  intro f k d hk hf ha hi hb hL hx h1 h2;obtain ⟨f,rfl⟩:∃g,f=g+1:=⟨f-1,by omega⟩;rw[r0u];simp only[tfd,q0n (show ¬((i:Int)<(k:Int)) by omega)];exact ⟨d,rfl,.refl _ _ _,h2c h1 h2 hx (by omega)⟩
 | succ c ih =>
  intro f k d hk hf ha hi hb hL hx h1 h2;obtain ⟨f,rfl⟩:∃g,f=g+1:=⟨f-1,by omega⟩;obtain ⟨k,rfl⟩:∃g,k=g+1:=⟨k-1,by omega⟩;rw[r0u];have lk:k<d.length:=by omega
  have gy:d[k]? = some d[k]:=q2b lk;have g1:(d.set (k+1) d[k])[k]? = some d[k]:=by rw[q3f (by omega)];exact gy
  rw[wn (x:=((k+1:Nat):Int)-1) (k:=k) (by omega) (by omega)];simp only[tfd,q0z (show ((i:Int)<((k+1:Nat):Int)) by omega),s0n,q2i,gy,hx,g1,obs];have sg:=n0k hx gy;have mv:=r1l (a:=a) (b:=b) hx gy (by omega) (by omega) (by omega) (by omega);obtain ⟨d',r1,r2,r3⟩:=ih f k ((d.set (k+1) d[k]).set k x) (by omega) (by omega) (by omega) (by omega) (by simpa using hb) (by simpa using hL)
   (by rw[sg,q0z rfl]) (x1k (.inr rfl) (by omega) (by omega) hx gy h1)
   ⟨fun p z p1 p2 p3 hz=>by
    rw[sg,q0n p3,q0n (by omega)] at hz;exact h2.1 p z p1 p2 (by omega) hz,
    fun p z p1 p2 p3 hz=>by
     rw[sg,q0n p3] at hz;by_cases e:p=k+1
     ·rw[q0z e] at hz;injection hz with hz;subst hz;exact h2.2 k _ (by omega) (by omega) (by omega) gy
     ·rw[q0n e] at hz;exact h2.2 p z p1 p2 e hz⟩
  exact ⟨d',r1,mv.trans r2,r3⟩
section
variable {cmp:(a0c×(a0c×Unit))->Option Int}{key:a0c->Int}(hc:Cmp cmp key)
include hc
theorem c2x (n:Nat)(a b mid n_:Int)(m p:Int)(mn bn pn:Nat)(an:Nat)(hp:p=pn)(d:List a0c)(hL:d.length<=1000000000000)(h1:Srt key d an mn)(h2:Srt key d mn bn)(hb:bn<=d.length)(lo hi:Nat)
  (hlo:an<=lo) (hhi:hi<=mn) (hq:∀c,lo<=c->c<hi->c<=pn/\mn<=pn-c/\pn-c<bn):∀(k f i j:Nat),j-i<=k->k<f->i<=j->lo<=i->j<=hi ->
  (∀c x y,lo<=c->c<i->d[c]? = some x->d[pn-c]? = some y->key x<=key y)->(∀c x y,j<=c->c<hi->d[c]? = some x->d[pn-c]? = some y->key y<key x) ->
  ∃r:Nat,h0g n f (d,a,m,b,cmp,mid,n_,(i:Int),(j:Int),p,())=some (.inl (d,a,m,b,cmp,mid,n_,(r:Int),()))/\lo<=r/\r<=hi /\
   (∀c x y,lo<=c->c<r->d[c]? = some x->d[pn-c]? = some y->key x<=key y)/\(∀c x y,r<=c->c<hi->d[c]? = some x->d[pn-c]? = some y->key y<key x):=by
 subst hp;have le1:∀ {i j x y},an<=i->i<=j->j<mn->d[i]? = some x->d[j]? = some y->key x<=key y:=by
  intro i j x y q1 q2 q3 hx hy;rcases Nat.lt_or_eq_of_le q2 with q | q
  ·exact h1 i j x y q1 q q3 hx hy
  ·subst q;rw[hx] at hy;injection hy with hy;subst hy;exact Int.le_refl _
 have le2:∀ {i j x y},mn<=i->i<=j->j<bn->d[i]? = some x->d[j]? = some y->key x<=key y:=by
  intro i j x y q1 q2 q3 hx hy;rcases Nat.lt_or_eq_of_le q2 with q | q
  ·exact h2 i j x y q1 q q3 hx hy
  ·subst q;rw[hx] at hy;injection hy with hy;subst hy;exact Int.le_refl _
 intro k;induction k with
 | zero =>
  intro f i j hk hf hij hi' hj g1 g2;obtain ⟨f,rfl⟩:∃g,f=g+1:=⟨f-1,by omega⟩;rw[r0t];simp only[tfd,q0n (show ¬((i:Int)<(j:Int)) by omega)];have e:i=j:=by omega
  subst e;exact ⟨i,rfl,hi',hj,g1,g2⟩
 | succ k ih =>
  intro f i j hk hf hij hi' hj g1 g2;obtain ⟨f,rfl⟩:∃g,f=g+1:=⟨f-1,by omega⟩;rw[r0t];by_cases lt:i<j
  ·generalize hcc:(i+j) / 2=c;have hq':=hq c (by omega) (by omega);have e1:=z0u i j (by omega);rw[hcc] at e1;have e2:wrap .i64 ((pn:Int)-(c:Int))=((pn-c:Nat):Int):=wn (by omega) (by omega);obtain ⟨v,hcm,hlt⟩:=hc d[pn-c] d[c];have gc:d[c]? = some d[c]:=q2b (by omega);have gp:d[pn-c]? = some d[pn-c]:=q2b (by omega);simp only[tfn,tfd,q0z (show ((i:Int)<(j:Int)) by omega),e1,e2,s0n,q2i,gc,gp,obs,hcm];by_cases hlt':v<0
   ·have kl:=hlt.1 hlt';simp only[q0z hlt'];refine ih f i c (by omega) (by omega) (by omega) hi' (by omega) g1 (fun q x y p1 p2 hx hy => ?_);have hq2:=hq q (by omega) (by omega);have:=le1 (i:=c) (j:=q) (by omega) p1 (by omega) gc hx;have:=le2 (i:=pn-q) (j:=pn-c) (by omega) (by omega) (by omega) hy gp;omega
   ·have kl:key d[c]<=key d[pn-c]:=by have:=mt hlt.2 hlt';omega
    simp only[q0n hlt'];rw[wn (x:=(c:Int)+1) (k:=c+1) (by omega) (by omega)];refine ih f (c+1) j (by omega) (by omega) (by omega) (by omega) hj (fun q x y p1 p2 hx hy => ?_) g2;have hq2:=hq q (by omega) (by omega);have:=le1 (i:=q) (j:=c) (by omega) (by omega) (by omega) hx gc;have:=le2 (i:=pn-c) (j:=pn-q) (by omega) (by omega) (by omega) gp hy;omega
  ·simp only[tfd,q0n (show ¬((i:Int)<(j:Int)) by omega)];have e:i=j:=by omega
   subst e;exact ⟨i,rfl,hi',hj,g1,g2⟩
theorem a1l:∀(dd n:Nat) (a m b:Int) (an mn bn:Nat) (d:List a0c),a=an->m=mn->b=bn->an<mn->mn<bn->bn<=d.length->d.length<=1000000000000->bn-an<=2^dd->Srt key d an mn->Srt key d mn bn ->
  ∃d',b0l (n+dd+2) d a m b cmp=some d'/\Mv d d' an bn/\Srt key d' an bn:=by
 intro dd;induction dd with
 | zero=>intro n a m b an mn bn d ha hm hb h1 h2 hl hL hd;simp at hd;omega
 | succ dd ih =>
  intro n a m b an mn bn d ha hm hb h1 h2 hl hL hd s1 s2;subst ha hm hb;rw[show n+(dd+1)+2=(n+dd+2)+1 by omega,y1t];rw[wn (x:=(mn:Int)-an) (k:=mn-an) (by omega) (by omega),wn (x:=(bn:Int)-mn) (k:=bn-mn) (by omega) (by omega)];simp only[tif_tif];simp only[tfd];have gm:d[mn]? = some d[mn]:=q2b (by omega);have ga:d[an]? = some d[an]:=q2b (by omega);by_cases c1:((mn-an:Nat):Int)=1
  ·rw[q0z c1];have e:mn=an+1:=by omega
   obtain ⟨r,r1,r2,r3,r4,r5⟩:=sym_l3 hc (n+dd+2) (an:Int) an rfl d d[an] ga hL mn bn s2 hl (bn-mn) a0b mn bn (by omega) (by unfold a0b;omega) (by omega) (by omega) (by omega) (fun p y p1 p2=>by omega) (fun p y p1 p2=>by omega);rw[r1];simp only[obs,b0h];obtain ⟨d',t1,t2,t3⟩:=sym_l9 (key:=key) (n+dd+2) an bn r d[an] (r-an-1) a0b an d (by omega) (by unfold a0b;omega) (by omega) r3 hl hL ga
    (fun p q x y p1 p2 p3 p4 p5 hx hy=>s2 p q x y (by omega) p2 p3 hx hy)
    ⟨fun p z p1 p2 p3 hz=>Int.le_of_lt (r4 p z (by omega) p2 hz),fun p z p1 p2 p3 hz=>r5 p z p1 p2 hz⟩
   rw[t1];exact ⟨d',by simp,t2,t3⟩
  rw[q0n c1];by_cases c2:((bn-mn:Nat):Int)=1
  ·rw[q0z c2];obtain ⟨r,r1,r2,r3,r4,r5⟩:=sym_l15 hc (n+dd+2) (mn:Int) mn rfl d d[mn] gm hL an mn s1 (by omega) (mn-an) a0b an mn (by omega) (by unfold a0b;omega) (by omega) (by omega) (by omega) (fun p y p1 p2=>by omega) (fun p y p1 p2=>by omega);rw[r1];simp only[obs,b0h];obtain ⟨d',t1,t2,t3⟩:=sym_l21 (key:=key) (n+dd+2) an bn r d[mn] (mn-r) a0b mn d (by omega) (by unfold a0b;omega) (by omega) (by omega) hl hL gm
    (fun p q x y p1 p2 p3 p4 p5 hx hy=>s1 p q x y (by omega) p2 (by omega) hx hy)
    ⟨fun p z p1 p2 p3 hz=>r4 p z p1 p2 hz,fun p z p1 p2 p3 hz=>Int.le_of_lt (r5 p z p1 (by omega) hz)⟩
   rw[t1];exact ⟨d',by simp,t2,t3⟩
  rw[q0n c2,z0u an bn (by omega)];generalize hmid:(an+bn) / 2=mid;have hpow:2^(dd+1)=2^dd*2:=Nat.pow_succ 2 dd;generalize 2^dd=P at *
  rw[wn (x:=(mid:Int)+mn) (k:=mid+mn) (by omega) (by omega)];have fin:∀s:Nat,an<=s->s<=mn->mn<=mid+mn-s->mid+mn-s<=bn->s<=mid ->
    (∀x y,an<s->mid+mn-s<bn->d[s-1]? = some x->d[mid+mn-s]? = some y->key x<=key y) ->
    (∀x y,s<mn->mn<mid+mn-s->d[mid+mn-s-1]? = some x->d[s]? = some y->key x<=key y) ->
    ∃d',(if (s:Int)<(mn:Int)/\(mn:Int)<((mid+mn-s:Nat):Int) then
      a0a (a1p (n+dd+2) d (s:Int) (mn:Int) ((mid+mn-s:Nat):Int) cmp) fun r14 =>
       if (an:Int)<(s:Int)/\(s:Int)<(mid:Int) then
        a0a (b0l (n+dd+2) r14 (an:Int) (s:Int) (mid:Int) cmp) fun r15 =>
         if (mid:Int)<((mid+mn-s:Nat):Int)/\((mid+mn-s:Nat):Int)<(bn:Int) then a0a (b0l (n+dd+2) r15 (mid:Int) ((mid+mn-s:Nat):Int) (bn:Int) cmp) fun r16=>some r16
         else some r15
       else if (mid:Int)<((mid+mn-s:Nat):Int)/\((mid+mn-s:Nat):Int)<(bn:Int) then a0a (b0l (n+dd+2) r14 (mid:Int) ((mid+mn-s:Nat):Int) (bn:Int) cmp) fun r17=>some r17
        else some r14
     else if (an:Int)<(s:Int)/\(s:Int)<(mid:Int) then
       a0a (b0l (n+dd+2) d (an:Int) (s:Int) (mid:Int) cmp) fun r15 =>
        if (mid:Int)<((mid+mn-s:Nat):Int)/\((mid+mn-s:Nat):Int)<(bn:Int) then a0a (b0l (n+dd+2) r15 (mid:Int) ((mid+mn-s:Nat):Int) (bn:Int) cmp) fun r16=>some r16
        else some r15
       else if (mid:Int)<((mid+mn-s:Nat):Int)/\((mid+mn-s:Nat):Int)<(bn:Int) then a0a (b0l (n+dd+2) d (mid:Int) ((mid+mn-s:Nat):Int) (bn:Int) cmp) fun r17=>some r17
        else some d)=some d'/\Mv d d' an bn/\Srt key d' an bn:=by
   intro s k1 k2 k3 k4 k5 q1 q2;generalize he:mid+mn-s=e at *
   have tail : ∀ d1, Turned d d1 s mn e -> ∃ d', (if (an : Int) < (s : Int) /\ (s : Int) < (mid : Int) then
             a0a (b0l (n+dd+2) d1 (an:Int) (s:Int) (mid:Int) cmp) fun r15 =>
              if (mid:Int)<((e:Nat):Int)/\((e:Nat):Int)<(bn:Int) then a0a (b0l (n+dd+2) r15 (mid:Int) ((e:Nat):Int) (bn:Int) cmp) fun r16=>some r16
              else some r15
     else if (mid:Int)<((e:Nat):Int)/\((e:Nat):Int)<(bn:Int) then a0a (b0l (n+dd+2) d1 (mid:Int) ((e:Nat):Int) (bn:Int) cmp) fun r17=>some r17
      else some d1)=some d'/\Mv d d' an bn/\Srt key d' an bn:=by
    intro d1 t;obtain ⟨⟨w1,w2,w3,w4⟩,cr⟩:=halves (a:=an) (b:=bn) (mid:=mid) s1 s2 t k1 k2 k3 k4 (by omega) hl q1 q2;have l1:=t.mv.len;have m1:Mv d d1 an bn:=t.mv.mono k1 k4;have half1:∃d2,(((an:Int)<(s:Int)/\(s:Int)<(mid:Int))->b0l (n+dd+2) d1 (an:Int) (s:Int) (mid:Int) cmp=some d2)/\(¬((an:Int)<(s:Int)/\(s:Int)<(mid:Int))->d2=d1)/\Mv d1 d2 an mid/\Srt key d2 an mid:=by
     by_cases c:(an:Int)<(s:Int)/\(s:Int)<(mid:Int)
     ·obtain ⟨d2,t1,t2,t3⟩:=ih n (an:Int) (s:Int) (mid:Int) an s mid d1 rfl rfl rfl (by omega) (by omega) (by omega) (by omega) (by omega) w1 w2;exact ⟨d2,fun _=>t1,fun h=>absurd c h,t2,t3⟩
     ·refine ⟨d1,fun h=>absurd h c,fun _=>rfl,.refl _ _ _,?_⟩;by_cases c':an<s
      ·have:s=mid:=by omega
       subst this;exact w1
      ·have:s=an:=by omega
       subst this;exact w2
    obtain ⟨d2,u1,u2,u3,u4⟩:=half1;have l2:=u3.len;have w3':=w3.keep u3 (.inr (q2e _));have w4':=w4.keep u3 (.inr (by omega));have cr2:=x1p cr (.inl u3);have half2:∃d3,(((mid:Int)<(e:Int)/\(e:Int)<(bn:Int))->b0l (n+dd+2) d2 (mid:Int) (e:Int) (bn:Int) cmp=some d3)/\(¬((mid:Int)<(e:Int)/\(e:Int)<(bn:Int))->d3=d2)/\Mv d2 d3 mid bn/\Srt key d3 mid bn:=by
     by_cases c:(mid:Int)<(e:Int)/\(e:Int)<(bn:Int)
     ·obtain ⟨d3,t1,t2,t3⟩:=ih n (mid:Int) (e:Int) (bn:Int) mid e bn d2 rfl rfl rfl (by omega) (by omega) (by omega) (by omega) (by omega) w3' w4';exact ⟨d3,fun _=>t1,fun h=>absurd c h,t2,t3⟩
     ·refine ⟨d2,fun h=>absurd h c,fun _=>rfl,.refl _ _ _,?_⟩;by_cases c':mid<e
      ·have:e=bn:=by omega
       rw[this] at w3';exact w3'
      ·have:e=mid:=by omega
       rw[this] at w4';exact w4'
    obtain ⟨d3,v1,v2,v3,v4⟩:=half2;have fin3:Mv d d3 an bn/\Srt key d3 an bn :=
     ⟨(m1.trans (u3.mono (q2e _) (by omega))).trans (v3.mono (by omega) (q2e _)),Srt.join (u4.keep v3 (.inl (q2e _))) v4 (x1p cr2 (.inr v3))⟩
    refine ⟨d3,?_,fin3⟩;by_cases c:(an:Int)<(s:Int)/\(s:Int)<(mid:Int)
    ·rw[q0z c,u1 c,obs];by_cases c':(mid:Int)<(e:Int)/\(e:Int)<(bn:Int)
     ·rw[q0z c',v1 c',obs]
     ·rw[q0n c',v2 c']
    ·rw[q0n c];obtain rfl:=u2 c;by_cases c':(mid:Int)<(e:Int)/\(e:Int)<(bn:Int)
     ·rw[q0z c',v1 c',obs]
     ·rw[q0n c',v2 c']
   by_cases c:(s:Int)<(mn:Int)/\(mn:Int)<(e:Int)
   ·obtain ⟨d1,t1,t2⟩:=d2v (cmp:=cmp) (n+dd) (s:Int) (mn:Int) (e:Int) s mn e rfl rfl rfl d (by omega) (by omega) (by omega) hL;rw[q0z c,t1,obs];exact tail d1 t2
   ·rw[q0n c];exact tail d (turned_refl d (by omega))
  by_cases c3:(mid:Int)<(mn:Int)
  ·rw[q0z c3,wn (x:=((mid+mn:Nat):Int)-bn) (k:=mid+mn-bn) (by omega) (by omega),wn (x:=((mid+mn:Nat):Int)-1) (k:=mid+mn-1) (by omega) (by omega)];obtain ⟨r,r1,r2,r3,r4,r5⟩:=c2x hc (n+dd+2) (an:Int) (bn:Int) (mid:Int) ((mid+mn:Nat):Int) (mn:Int) ((mid+mn-1:Nat):Int) mn bn (mid+mn-1) an rfl d hL s1 s2 hl (mid+mn-bn) mid (by omega) (by omega)
    (fun c h1 h2=>by omega) (mid-(mid+mn-bn)) a0b (mid+mn-bn) mid (by omega) (by unfold a0b;omega) (by omega) (by omega) (by omega) (fun c x y h1 h2=>by omega) (fun c x y h1 h2=>by omega)
   rw[r1];simp only[obs,b0h,wn (x:=((mid+mn:Nat):Int)-(r:Int)) (k:=mid+mn-r) (by omega) (by omega)];refine fin r (by omega) (by omega) (by omega) (by omega) (by omega) (fun x y h1 h2 hx hy => ?_) (fun x y h1 h2 hx hy => ?_)
   ·refine r4 (r-1) x y (by omega) (by omega) hx ?_;rw[show mid+mn-1-(r-1)=mid+mn-r by omega];exact hy
   ·refine Int.le_of_lt (r5 r y x (by omega) (by omega) hy ?_);rw[show mid+mn-1-r=mid+mn-r-1 by omega];exact hx
  ·rw[q0n c3,wn (x:=((mid+mn:Nat):Int)-1) (k:=mid+mn-1) (by omega) (by omega)];obtain ⟨r,r1,r2,r3,r4,r5⟩:=c2x hc (n+dd+2) (an:Int) (bn:Int) (mid:Int) ((mid+mn:Nat):Int) (mn:Int) ((mid+mn-1:Nat):Int) mn bn (mid+mn-1) an rfl d hL s1 s2 hl an mn (by omega) (by omega)
    (fun c h1 h2=>by omega) (mn-an) a0b an mn (by omega) (by unfold a0b;omega) (by omega) (by omega) (by omega) (fun c x y h1 h2=>by omega) (fun c x y h1 h2=>by omega)
   rw[r1];simp only[obs,b0h,wn (x:=((mid+mn:Nat):Int)-(r:Int)) (k:=mid+mn-r) (by omega) (by omega)];refine fin r (by omega) (by omega) (by omega) (by omega) (by omega) (fun x y h1 h2 hx hy => ?_) (fun x y h1 h2 hx hy => ?_)
   ·refine r4 (r-1) x y (by omega) (by omega) hx ?_;rw[show mid+mn-1-(r-1)=mid+mn-r by omega];exact hy
   ·refine Int.le_of_lt (r5 r y x (by omega) (by omega) hy ?_);rw[show mid+mn-1-r=mid+mn-r-1 by omega];exact hx
end
end Go.Proofs.YtfibfcjepngbmaaGreatDoor
