/-
 Plain proofs about the functions of this seat, part 1 of 4.
-/
import Derived.Test.YtagnkfbpgkckiaaGreatDoorFlatM4
import Derived.IntWalk
import Derived.Test.YtagnkfbpgkckiaaGreatDoorTr
set_option linter.unusedVariables false
set_option linter.unusedSimpArgs false
open Go.IntKind (wrap)
namespace Go.Plim
open Go.Flat
def uvB (n:Nat):List UInt8:=if n<128 then [UInt8.ofNat n] else UInt8.ofNat (n % 128+128)::uvB (n / 128)
termination_by n
decreasing_by omega
theorem a1l {n:Nat}(h:n<128):uvB n=[UInt8.ofNat n]:=by unfold uvB;rw[q0z h]
theorem q1v {n:Nat}(h:¬n<128):uvB n=UInt8.ofNat (n % 128+128)::uvB (n / 128):=by rw[uvB];rw[q0n h]
def txB (s:List UInt8):List UInt8:=uvB s.length++s
def labB (l:List (List UInt8×List UInt8)):List UInt8:=uvB l.length++l.flatMap fun x=>txB x.1++txB x.2
theorem q2j:∀c:Fin 256,orI .u8 (c.val:Int) 128=(c.val:Int) % 128+128:=by decide +kernel
theorem or128 (v:Int):orI .u8 (wrap .u8 v) 128=v % 128+128:=by
 rw[y0y];have h1:=Int.emod_nonneg v (show (256:Int)≠0 by decide);have h2:=Int.emod_lt_of_pos v (show (0:Int)<256 by decide);have:=q2j ⟨(v % 256).toNat,by omega⟩;simp only at this;rw[show (((v % 256).toNat:Nat):Int)=v % 256 by omega] at this;rw[this];omega
theorem shr7 {v:Int}(h:0<=v):shrI .u64 v 7=v / 128:=by
 show v.fdiv (2^(7:Int).toNat)=_;rw[Int.fdiv_eq_ediv_of_nonneg _ (by decide)];rfl
def uvI (v:Int):List Int:=c0z (uvB v.toNat)
theorem w1g {v:Int}(h0:0<=v)(h:v<128):uvI v=[v]:=by
 unfold uvI;rw[a1l (by omega)];simp[c0z];omega
theorem q1t {v:Int}(h0:0<=v)(h:¬v<128):uvI v=(v % 128+128)::uvI (v / 128):=by
 unfold uvI;rw[q1v (by omega)];have e:(v / 128).toNat=v.toNat / 128:=by omega
 rw[e];simp[c0z];omega
abbrev Wd:=Int×Int
abbrev Ev:=Int×(Int×(Int×Bool))
abbrev Cel:=Int×(Ev×(Ev×(Wd×(Int×(Int×Int)))))
instance decWd:DecidableEq Wd:=inferInstanceAs (DecidableEq (Int×Int))
instance decEv:DecidableEq Ev:=inferInstanceAs (DecidableEq (Int×(Int×(Int×Bool))))
instance decCel:DecidableEq Cel := @instDecidableEqProd _ _ _ (@instDecidableEqProd _ _ decEv (@instDecidableEqProd _ _ decEv (@instDecidableEqProd _ _ decWd inferInstance)))
def wv (a:Wd):Int:=a.1*18446744073709551616+a.2
structure WdOk (a:Wd):Prop where
 hi:0<=a.1/\a.1<=18446744073709551615
 lo:0<=a.2/\a.2<=18446744073709551615
def mkW (v:Int):Wd:=(v / 18446744073709551616,v % 18446744073709551616)
theorem mkW_wv {a:Wd}(h:WdOk a):mkW (wv a)=a:=by
 obtain ⟨h1,h2⟩:=h;obtain ⟨x,y⟩:=a;simp only[mkW,wv] at *
 exact Prod.ext (by simp only;omega) (by simp only;omega)
theorem v1y (v:Int):wv (mkW v)=v:=by
 simp only[mkW,wv];omega
theorem y1s {v:Int}(h:0<=v)(h':v<340282366920938463463374607431768211456):WdOk (mkW v):=by
 constructor<;>simp only[mkW]<;>omega
theorem p0n {a:Wd}(h:WdOk a):0<=wv a/\wv a<340282366920938463463374607431768211456:=by
 obtain ⟨h1,h2⟩:=h;simp only[wv];omega
theorem n2s:wv (0,0)=0:=rfl
theorem wv_lo (x:Int):wv (0,x)=x:=by simp[wv]
def addW (a b:Wd):Wd×Int:=if wv a+wv b<340282366920938463463374607431768211456 then (mkW (wv a+wv b),0) else ((0,0),1)
def e0:Ev:=(0,(0,(0,false)))
structure EvOk (e:Ev):Prop where
 t0:0<=e.1
 t1:e.1<35184372088832
 v0:0<=e.2.1
 v1:e.2.1<=18446744073709551615
 c0:0<=e.2.2.1
 c1:e.2.2.1<=e.1
 st:e.2.2.2=true->e.2.1=0/\e.2.2.1=0
theorem evOk_iff (e:Ev):EvOk e↔(0<=e.1/\e.1<35184372088832/\0<=e.2.1/\e.2.1<=18446744073709551615/\0<=e.2.2.1/\e.2.2.1<=e.1/\(e.2.2.2=true->e.2.1=0/\e.2.2.1=0)) :=
 ⟨fun ⟨a,b,c,d,f,g,h⟩=>⟨a,b,c,d,f,g,h⟩,fun ⟨a,b,c,d,f,g,h⟩=>⟨a,b,c,d,f,g,h⟩⟩
instance (e:Ev):Decidable (EvOk e):=decidable_of_iff _ (evOk_iff e).symm
def btw (p c:Ev):Int×(Int×(Int×Int)) :=
 if c.2.2.2=true then (0,0,0,0)
 else if p.1<c.2.2.1 then (c.2.1,1,0,c.1-c.2.2.1)
 else if p.2.2.2=true then (0,0,1,0)
 else if c.2.1<p.2.1 then (c.2.1,1,0,c.1-p.1)
 else (c.2.1-p.2.1,0,0,c.1-p.1)
structure DlOk (d:Int×(Int×(Int×Int)))(s:Int):Prop where
 i:0<=d.1/\d.1<=18446744073709551615
 r:0<=d.2.1
 g:0<=d.2.2.1
 rg:d.2.1+d.2.2.1<=1
 s:0<=d.2.2.2/\d.2.2.2<=s
theorem u2t {p c:Ev}(hp:EvOk p)(hc:EvOk c)(h:p.1<c.1):DlOk (btw p c) (c.1-p.1):=by
 obtain ⟨a1,a2,a3,a4,a5,a6,a7⟩:=hp;obtain ⟨b1,b2,b3,b4,b5,b6,b7⟩:=hc;unfold btw;by_cases k1:c.2.2.2=true
 ·rw[q0z k1];constructor<;>simp only<;>omega
 rw[q0n k1];by_cases k2:p.1<c.2.2.1
 ·rw[q0z k2];constructor<;>simp only<;>omega
 rw[q0n k2];by_cases k3:p.2.2.2=true
 ·rw[q0z k3];constructor<;>simp only<;>omega
 rw[q0n k3];by_cases k4:c.2.1<p.2.1
 ·rw[q0z k4];constructor<;>simp only<;>omega
 rw[q0n k4];constructor<;>simp only<;>omega
def z0:Cel:=(0,(e0,(e0,((0,0),(0,(0,0))))))
structure CellN (c:Cel):Prop where
 n1:1<=c.1
 f:EvOk c.2.1
 l:EvOk c.2.2.1
 one:c.1=1->c.2.1=c.2.2.1
 more:1<c.1->c.2.1.1<c.2.2.1.1
 n2:c.1-1<=c.2.2.1.1-c.2.1.1
 w:WdOk c.2.2.2.1
 inc:wv c.2.2.2.1<=18446744073709551615*(c.1-1)
 r:0<=c.2.2.2.2.1
 g:0<=c.2.2.2.2.2.1
 rg:c.2.2.2.2.1+c.2.2.2.2.2.1<=c.1-1
 s0:0<=c.2.2.2.2.2.2
 s1:c.2.2.2.2.2.2<=c.2.2.1.1-c.2.1.1
theorem wdOk_iff (a:Wd):WdOk a↔(0<=a.1/\a.1<=18446744073709551615)/\(0<=a.2/\a.2<=18446744073709551615) :=
 ⟨fun ⟨a,b⟩=>⟨a,b⟩,fun ⟨a,b⟩=>⟨a,b⟩⟩
instance (a:Wd):Decidable (WdOk a):=decidable_of_iff _ (wdOk_iff a).symm
theorem u2o (c:Cel):CellN c↔(1<=c.1/\EvOk c.2.1/\EvOk c.2.2.1/\(c.1=1->c.2.1=c.2.2.1)/\(1<c.1->c.2.1.1<c.2.2.1.1)/\c.1-1<=c.2.2.1.1-c.2.1.1/\WdOk c.2.2.2.1 /\
  wv c.2.2.2.1<=18446744073709551615*(c.1-1)/\0<=c.2.2.2.2.1/\0<=c.2.2.2.2.2.1/\c.2.2.2.2.1+c.2.2.2.2.2.1<=c.1-1/\0<=c.2.2.2.2.2.2/\c.2.2.2.2.2.2<=c.2.2.1.1-c.2.1.1) :=
 ⟨fun ⟨a,b,c,d,e,f,g,h,i,j,k,l,m⟩=>⟨a,b,c,d,e,f,g,h,i,j,k,l,m⟩,fun ⟨a,b,c,d,e,f,g,h,i,j,k,l,m⟩=>⟨a,b,c,d,e,f,g,h,i,j,k,l,m⟩⟩
instance (c:Cel):Decidable (CellN c):=decidable_of_iff _ (u2o c).symm
def c0d (c:Cel):Prop:=c=z0\/CellN c
instance (c:Cel):Decidable (c0d c):=by unfold c0d;infer_instance
theorem CellN.ne {c:Cel}(h:CellN c):c≠z0:=by
 intro e;have:=h.n1;rw[e] at this;simp[z0] at this
theorem CellN.ok {c:Cel}(h:CellN c):c0d c := .inr h
theorem t0o:c0d z0 := .inl rfl
theorem c0d.n {c:Cel}(h:c0d c)(hz:c≠z0):CellN c:=h.resolve_left hz
theorem c0d.count {c:Cel}(h:c0d c):(c.1=0↔c=z0)/\0<=c.1:=by
 rcases h with rfl | h
 ·exact ⟨⟨fun _=>rfl,fun _=>rfl⟩,by simp[z0]⟩
 ·have:=h.n1;exact ⟨⟨fun e=>by omega,fun e=>absurd e h.ne⟩,by omega⟩
theorem CellN.ft {c:Cel}(h:CellN c):c.2.1.1<=c.2.2.1.1:=by have:=h.n1;have:=h.n2;omega
theorem CellN.small {c:Cel}(h:CellN c):c.1<=35184372088832:=by
 have:=h.n2;have:=h.f.t0;have:=h.l.t1;omega
def mrg (a b:Cel):Cel :=
 if a=z0 then b else if b=z0 then a else
  (a.1+b.1,(a.2.1,(b.2.2.1,(mkW (wv a.2.2.2.1+(btw a.2.2.1 b.2.1).1+wv b.2.2.2.1),
   (a.2.2.2.2.1+(btw a.2.2.1 b.2.1).2.1+b.2.2.2.2.1,(a.2.2.2.2.2.1+(btw a.2.2.1 b.2.1).2.2.1+b.2.2.2.2.2.1,a.2.2.2.2.2.2+(btw a.2.2.1 b.2.1).2.2.2+b.2.2.2.2.2.2))))))
def Ahead (a b:Cel):Prop:=a=z0\/b=z0\/a.2.2.1.1<b.2.1.1
instance (a b:Cel):Decidable (Ahead a b):=by unfold Ahead;infer_instance
theorem mrg_z0 (a:Cel):mrg a z0=a:=by
 unfold mrg;split
 ·rename_i h;exact h.symm
 ·simp
theorem o1e (a:Cel):mrg z0 a=a:=by unfold mrg;simp
theorem d2u {a b:Cel}(ha:CellN a)(hb:CellN b):mrg a b=(a.1+b.1,(a.2.1,(b.2.2.1,(mkW (wv a.2.2.2.1+(btw a.2.2.1 b.2.1).1+wv b.2.2.2.1),
  (a.2.2.2.2.1+(btw a.2.2.1 b.2.1).2.1+b.2.2.2.2.1,(a.2.2.2.2.2.1+(btw a.2.2.1 b.2.1).2.2.1+b.2.2.2.2.2.1,a.2.2.2.2.2.2+(btw a.2.2.1 b.2.1).2.2.2+b.2.2.2.2.2.2)))))):=by
 unfold mrg;rw[q0n ha.ne,q0n hb.ne]
theorem mrg_N {a b:Cel}(ha:CellN a)(hb:CellN b)(h:a.2.2.1.1<b.2.1.1):CellN (mrg a b):=by
 have d:=u2t ha.l hb.f h;have a1:=ha.n1;have b1:=hb.n1;have a2:=ha.ft;have b2:=hb.ft;have a3:=ha.inc;have b3:=hb.inc;have a4:=p0n ha.w;have b4:=p0n hb.w;have a5:=ha.small;have b5:=hb.small;rw[d2u ha hb];generalize btw a.2.2.1 b.2.1=x at *
 obtain ⟨d1,d2,d3,d4,d5⟩:=d;have e:18446744073709551615*(a.1+b.1-1)=18446744073709551615*(a.1-1)+18446744073709551615+18446744073709551615*(b.1-1):=by omega
 constructor<;>simp only
 ·omega
 ·exact ha.f
 ·exact hb.l
 ·intro h;omega
 ·intro _;omega
 ·have:=ha.n2;have:=hb.n2;omega
 ·exact y1s (by omega) (by omega)
 ·rw[v1y];omega
 ·have:=ha.r;have:=hb.r;omega
 ·have:=ha.g;have:=hb.g;omega
 ·have:=ha.rg;have:=hb.rg;omega
 ·have:=ha.s0;have:=hb.s0;omega
 ·have:=ha.s1;have:=hb.s1;omega
theorem y1r {a b:Cel}(ha:c0d a)(hb:c0d b)(h:Ahead a b):c0d (mrg a b):=by
 by_cases k:a=z0
 ·rw[k,o1e];exact hb
 by_cases k':b=z0
 ·rw[k',mrg_z0];exact ha
 exact .inr (mrg_N (ha.n k) (hb.n k') ((h.resolve_left k).resolve_left k'))
def e0p (e:Ev):Cel:=(1,(e,(e,((0,0),(0,(0,0))))))
theorem u0c {e:Ev}(h:EvOk e):CellN (e0p e):=by
 constructor<;>simp only[e0p]
 ·omega
 ·exact h
 ·exact h
 ·intro _;trivial
 ·intro h;omega
 ·omega
 ·exact ⟨by simp,by simp⟩
 ·simp[wv]
 all_goals omega
def cellOf (l:List Ev):Cel:=l.foldl (fun c e=>mrg c (e0p e)) z0
structure Foll (l:List Ev):Prop where
 ok:∀e∈l,EvOk e
 inc:l.Pairwise fun a b=>a.1<b.1
theorem Foll.nil:Foll []:=⟨by simp,.nil⟩
theorem s2o {e:Ev}{l:List Ev}:Foll (e::l)↔EvOk e/\(∀x∈l,e.1<x.1)/\Foll l:=by
 constructor
 ·rintro ⟨h1,h2⟩;rw[q4t] at h2;exact ⟨h1 e (by simp),h2.1,⟨fun x hx=>h1 x (by simp[hx]),h2.2⟩⟩
 ·rintro ⟨h1,h2,h3⟩;refine ⟨fun x hx => ?_,q4t.2 ⟨h2,h3.inc⟩⟩;rcases q3k.1 hx with rfl | hx
  ·exact h1
  ·exact h3.ok x hx
theorem e0a {l m:List Ev}:Foll (l++m)↔Foll l/\Foll m/\∀x∈l,∀y∈m,x.1<y.1:=by
 constructor
 ·rintro ⟨h1,h2⟩;rw[List.pairwise_append] at h2;exact ⟨⟨fun x hx=>h1 x (by simp[hx]),h2.1⟩,⟨fun x hx=>h1 x (by simp[hx]),h2.2.1⟩,h2.2.2⟩
 ·rintro ⟨h1,h2,h3⟩;refine ⟨fun x hx => ?_,List.pairwise_append.2 ⟨h1.inc,h2.inc,h3⟩⟩;rcases q3m.1 hx with hx | hx
  ·exact h1.ok x hx
  ·exact h2.ok x hx
theorem Foll.sub {l m:List Ev}(h:Foll l)(s:m.Sublist l):Foll m:=⟨fun e he=>h.ok e (s.subset he),h.inc.sublist s⟩
theorem f2n (l:List Ev)(e:Ev):cellOf (l++[e])=mrg (cellOf l) (e0p e):=by simp[cellOf,List.foldl_append]
theorem n2g (e:Ev):cellOf [e]=e0p e:=by simp[cellOf,o1e]
structure Has (l:List Ev)(c:Cel):Prop where
 n:CellN c
 cnt:c.1=l.length
 first:l.head? = some c.2.1
 last:l.getLast? = some c.2.2.1
theorem q1d:∀(l:List Ev) (e:Ev),Foll (l++[e])->Has (l++[e]) (cellOf (l++[e])):=by
 intro l;induction hl:l.length generalizing l with
 | zero =>
  intro e h;obtain rfl:=List.length_eq_zero_iff.1 hl;rw[q3p,n2g];exact ⟨u0c (h.ok e (by simp)),rfl,rfl,rfl⟩
 | succ k ih =>
  intro e h;rcases List.eq_nil_or_concat l with rfl | ⟨m,x,rfl⟩
  ·cases hl
  rw[List.concat_eq_append] at *
  have hm:=ih m (by simp at hl;exact hl) x (e0a.1 h).1;have hx:x.1<e.1:=(e0a.1 h).2.2 x (by simp) e (by simp);rw[f2n];have hlast:(cellOf (m++[x])).2.2.1=x:=by have:=hm.last;simp at this;exact this.symm
  have he:=u0c (h.ok e (by simp));have hlt:(cellOf (m++[x])).2.2.1.1<(e0p e).2.1.1:=by rw[hlast];exact hx
  refine ⟨mrg_N hm.n he hlt,?_,?_,?_⟩
  ·rw[d2u hm.n he];simp only[hm.cnt,e0p];simp;omega
  ·rw[d2u hm.n he];have:=hm.first;simp only[List.head?_append] at this ⊢;rw[this];rfl
  ·rw[d2u hm.n he];simp[e0p]
theorem u2n {l:List Ev}(h:Foll l):c0d (cellOf l):=by
 rcases List.eq_nil_or_concat l with rfl | ⟨m,x,rfl⟩
 ·exact t0o
 ·rw[List.concat_eq_append] at *;exact (q1d m x h).n.ok
theorem i2j {l:List Ev}(h:Foll l)(hn:l≠[]):Has l (cellOf l):=by
 rcases List.eq_nil_or_concat l with rfl | ⟨m,x,rfl⟩
 ·exact absurd rfl hn
 ·rw[List.concat_eq_append] at *;exact q1d m x h
def mrgE (a b:Cel):Cel×Int:=if c0d a/\c0d b then (if Ahead a b then (mrg a b,0) else (z0,9)) else (z0,2)
def allE:Cel->List Cel->Cel×Int
 | c,[]=>(c,0)
 | c,x::r=>if (mrgE c x).2=0 then allE (mrgE c x).1 r else (z0,(mrgE c x).2)
end Go.Plim
namespace Go.Proofs.YtagnkfbpgkckiaaGreatDoor
open Go.Flat Go.Plim
theorem p2i (x:Int)(k:Nat)(hk:k<=64):shrI .u64 x (k:Int)=x / 2^k:=by
 unfold shrI;rw[show min (k:Int).toNat IntKind.u64.bits=k from by show min (k:Int).toNat 64=k;omega];exact Int.fdiv_eq_ediv_of_nonneg _ (Int.le_of_lt (Int.pow_pos (by decide)))
theorem and_mask (x:Int)(k:Nat)(hk:k<=63)(h:0<=x)(h':x<=18446744073709551615):andI .u64 x ((2^k-1:Nat):Int)=x % ((2^k:Nat):Int):=by
 obtain ⟨a,rfl⟩:=Int.eq_ofNat_of_zero_le h;have hp:2^k<=2^63:=Nat.pow_le_pow_right (by decide) hk;have h63:(2:Nat)^63=9223372036854775808:=by decide
 unfold andI;have e:(BitVec.ofInt IntKind.u64.bits (a:Int) &&& BitVec.ofInt IntKind.u64.bits ((2^k-1:Nat):Int)).toNat=a % 2^k:=by
  show (BitVec.ofInt 64 (a:Int) &&& BitVec.ofInt 64 ((2^k-1:Nat):Int)).toNat=_;rw[BitVec.toNat_and,BitVec.ofInt_natCast,BitVec.ofInt_natCast,BitVec.toNat_ofNat,BitVec.toNat_ofNat,Nat.mod_eq_of_lt (a:=a) (by omega),Nat.mod_eq_of_lt (a:=2^k-1) (by omega),Nat.and_two_pow_sub_one_eq_mod]
 rw[e];have:a % 2^k<2^k:=Nat.mod_lt _ (Nat.pow_pos (by decide));rw[wu64 (by omega) (by omega)];simp
theorem or_zero (a b:Int)(ha:0<=a/\a<=18446744073709551615)(hb:0<=b/\b<=18446744073709551615):orI .u64 a b=0↔a=0/\b=0:=by
 obtain ⟨a,rfl⟩:=Int.eq_ofNat_of_zero_le ha.1;obtain ⟨b,rfl⟩:=Int.eq_ofNat_of_zero_le hb.1;unfold orI;have e2:(BitVec.ofInt IntKind.u64.bits (a:Int) ||| BitVec.ofInt IntKind.u64.bits (b:Int)).toNat=a ||| b:=by
  show (BitVec.ofInt 64 (a:Int) ||| BitVec.ofInt 64 (b:Int)).toNat=_;rw[BitVec.toNat_or,BitVec.ofInt_natCast,BitVec.ofInt_natCast,BitVec.toNat_ofNat,BitVec.toNat_ofNat,Nat.mod_eq_of_lt (by omega),Nat.mod_eq_of_lt (by omega)]
 rw[e2];have:a ||| b<2^64:=Nat.or_lt_two_pow (by omega) (by omega)
 rw[wu64 (by omega) (by omega)];have h3:a ||| b=0↔a=0/\b=0:=Nat.or_eq_zero_iff
 omega
theorem i1x (n:Nat)(x:Int):y0z (n+1) x=some (0,x):=i2x n x
theorem n0e (n:Nat)(a:Wd)(o:Int):u0v (n+1) a o=some (if o=0 then (a,0) else ((0,0),1)):=by
 rw[w1a];by_cases h:o=0<;>simp[h]
theorem f2v (n:Nat){a b:Wd}(ha:WdOk a)(hb:WdOk b):i1c (n+2) a b=some (addW a b):=by
 obtain ⟨h1,h2⟩:=ha;obtain ⟨h3,h4⟩:=hb;obtain ⟨ah,al⟩:=a;obtain ⟨bh,bl⟩:=b;simp only at h1 h2 h3 h4;rw[b2a];simp only[u0z,tfd,q0z h2.1,q0z h4.1,q0z h1.1,q0z h3.1,tft,q0z (show (0:Int)<=(al+bl+0) / 18446744073709551616 by omega),q0z (show (al+bl+0) / 18446744073709551616<=(1:Int) by omega),n0e,obs];unfold addW;have ea:wv (ah,al)=ah*18446744073709551616+al:=rfl;have eb:wv (bh,bl)=bh*18446744073709551616+bl:=rfl;generalize wv (ah,al)=va at *
 generalize wv (bh,bl)=vb at *
 by_cases hc:va+vb<340282366920938463463374607431768211456
 ·rw[q0z hc,q0z (by omega)];simp only[mkW];congr 2;exact Prod.ext (by simp only;omega) (by simp only;omega)
 ·rw[q0n hc,q0n (by omega)]
theorem w1b (n:Nat){a b:Wd}(ha:WdOk a)(hb:WdOk b):n0y (n+1) a b=some (decide (wv a<wv b)):=by
 obtain ⟨h1,h2⟩:=ha;obtain ⟨h3,h4⟩:=hb;obtain ⟨ah,al⟩:=a;obtain ⟨bh,bl⟩:=b;simp only at h1 h2 h3 h4;rw[w1c];have ea:wv (ah,al)=ah*18446744073709551616+al:=rfl;have eb:wv (bh,bl)=bh*18446744073709551616+bl:=rfl;generalize wv (ah,al)=va at *
 generalize wv (bh,bl)=vb at *
 simp only[tfd];by_cases c1:ah<bh
 ·rw[q0z c1,q2g (by omega)]
 ·rw[q0n c1];by_cases c2:ah=bh
  ·rw[q0z c2];congr 1;exact q3r.2 (by omega)
  ·rw[q0n c2,q1z (by omega)]
theorem mul64 (n:Nat)(x y:Int)(hx:0<=x/\x<=18446744073709551615)(hy:0<=y/\y<=18446744073709551615):g0u (n+1) x y=some (x*y / 18446744073709551616,x*y % 18446744073709551616):=by
 rw[c1f];have sh:∀z:Int,shrI .u64 z (32:Int)=z / 4294967296:=fun z=>p2i z 32 (by decide)
 have an:∀z:Int,0<=z->z<=18446744073709551615->andI .u64 z (4294967295:Int)=z % 4294967296:=fun z h h'=>and_mask z 32 (by decide) h h'
 rw[an x hx.1 hx.2,an y hy.1 hy.2];simp only[sh];have b1:0<=x / 4294967296/\x / 4294967296<=4294967295:=by omega
 have b2:0<=y / 4294967296/\y / 4294967296<=4294967295:=by omega
 have b3:0<=x % 4294967296/\x % 4294967296<=4294967295:=by omega
 have b4:0<=y % 4294967296/\y % 4294967296<=4294967295:=by omega
 have ex:x=x / 4294967296*4294967296+x % 4294967296:=by omega
 have ey:y=y / 4294967296*4294967296+y % 4294967296:=by omega
 generalize hx1:x / 4294967296=x1 at *
 generalize hx0:x % 4294967296=x0 at *
 generalize hy1:y / 4294967296=y1 at *
 generalize hy0:y % 4294967296=y0 at *
 have bound:∀ {u v:Int},0<=u/\u<=4294967295->0<=v/\v<=4294967295->0<=u*v/\u*v<=18446744065119617025:=fun {u v} hu hv =>
  ⟨Int.mul_nonneg hu.1 hv.1,Int.le_trans (Int.mul_le_mul hu.2 hv.2 hv.1 (by decide)) (by decide)⟩
 have p11:=bound b1 b2;have p10:=bound b1 b4;have p01:=bound b3 b2;have p00:=bound b3 b4;have exy:x*y=x1*y1*18446744073709551616+(x1*y0+x0*y1)*4294967296+x0*y0:=by
  rw[ex,ey];simp only[Int.add_mul,Int.mul_add];have q1:x1*4294967296*(y1*4294967296)=x1*y1*18446744073709551616:=by
   rw[Int.mul_assoc,Int.mul_left_comm 4294967296 y1,<-Int.mul_assoc];rfl
  have q2:x0*(y1*4294967296)=x0*y1*4294967296:=by rw[Int.mul_assoc]
  have q3:x1*4294967296*y0=x1*y0*4294967296:=by rw[Int.mul_assoc,Int.mul_comm 4294967296 y0,<-Int.mul_assoc]
  rw[q1,q2,q3];omega
 rw[exy];generalize x1*y1=a11 at *
 generalize x1*y0=a10 at *
 generalize x0*y1=a01 at *
 generalize x0*y0=a00 at *
 rw[wu64 (x:=a00) (by omega) (by omega),wu64 (x:=a11) (by omega) (by omega),wu64 (x:=a10) (by omega) (by omega),wu64 (x:=a01) (by omega) (by omega)];rw[wu64 (x:=a10+a00 / 4294967296) (by omega) (by omega),an _ (by omega) (by omega)];rw[wu64 (x:=a11+(a10+a00 / 4294967296) / 4294967296) (by omega) (by omega),wu64 (x:=(a10+a00 / 4294967296) % 4294967296+a01) (by omega) (by omega),wu64 (by omega) (by omega)];have wm:∀z:Int,wrap .u64 z=z % 18446744073709551616:=fun z=>IntKind.wrap_u64 z
 rw[wm];congr 2;omega
def w1n (a:Wd)(k:Int):Wd×Int:=if wv a*k<340282366920938463463374607431768211456 then (mkW (wv a*k),0) else ((0,0),1)
theorem o1f (n:Nat){a:Wd}(ha:WdOk a)(k:Int)(hk:0<=k/\k<=18446744073709551615):w0m (n+2) a k=some (w1n a k):=by
 obtain ⟨h1,h2⟩:=ha;obtain ⟨ah,al⟩:=a;simp only at h1 h2;rw[q1m,mul64 n al k h2 hk,mul64 n ah k h1 hk];simp only[obs];have bd:∀ {u:Int},0<=u/\u<=18446744073709551615->0<=u*k/\u*k<=340282366920938463426481119284349108225:=fun {u} hu =>
  ⟨Int.mul_nonneg hu.1 hk.1,Int.le_trans (Int.mul_le_mul hu.2 hk.2 hk.1 (by decide)) (by decide)⟩
 have b1:=bd h1;have b2:=bd h2;unfold w1n;have e:wv (ah,al)*k=ah*k*18446744073709551616+al*k:=by
  simp only[wv];rw[Int.add_mul,Int.mul_assoc,Int.mul_comm 18446744073709551616 k,<-Int.mul_assoc]
 rw[e];generalize ah*k=p at *
 generalize al*k=q at *
 simp only[u0z,tfd,tft,q0z (show (0:Int)<=p % 18446744073709551616 by omega),q0z (show (0:Int)<=q / 18446744073709551616 by omega),n0e,obs];have ho:=or_zero (p / 18446744073709551616) ((p % 18446744073709551616+q / 18446744073709551616+0) / 18446744073709551616) (by omega) (by omega);by_cases hc:p*18446744073709551616+q<340282366920938463463374607431768211456
 ·rw[q0z hc,q0z (ho.2 (by omega))];simp only[mkW];congr 2;exact Prod.ext (by simp only;omega) (by simp only;omega)
 ·rw[q0n hc,q0n (fun h=>by have:=ho.1 h;omega)]
theorem c0c {α:Type}{l pre rest:List α}{x:α}{i:Int}(h:l=pre++x::rest)(hi:i=pre.length):at? l i=some x:=by
 subst h hi;simp[at?]
theorem idx {α:Type}{l pre rest:List α}{x:α}{i len:Int}(h:l=pre++x::rest)(hi:i=pre.length)(hn:len=l.length):i<len:=by
 have:=congrArg List.length h;simp at this;omega
theorem idxe {α:Type}{l pre:List α}{i len:Int}(h:l=pre++[])(hi:i=pre.length)(hn:len=l.length):¬(i<len):=by
 have:=congrArg List.length h;simp at this;omega
theorem idxw {α:Type}{l pre rest:List α}{x:α}{i:Int}(h:l=pre++x::rest)(hi:i=pre.length)(hL:l.length<=1000000000000):wrap .i64 (i+1)=i+1:=by
 have:=congrArg List.length h;simp at this;rw[w64 (by omega) (by omega)]
theorem idxs {α:Type}{pre:List α}{x:α}{i:Int}(hi:i=pre.length):i+1=((pre++[x]).length:Int):=by simp;omega
theorem idxl {α:Type}{l pre rest:List α}{x:α}(h:l=pre++x::rest):l=(pre++[x])++rest:=by rw[h];simp
theorem evEq (a b:Ev):((decide (a.1=b.1))&&((decide (a.2.1=b.2.1))&&((decide (a.2.2.1=b.2.2.1))&&(a.2.2.2==b.2.2.2))))=decide (a=b):=by
 rw[Bool.eq_iff_iff];simp[Prod.ext_iff]
theorem celEq (a b:Cel):((decide (a.1=b.1))&&((decide (a.2.1.1=b.2.1.1))&&((decide (a.2.1.2.1=b.2.1.2.1))&&((decide (a.2.1.2.2.1=b.2.1.2.2.1))&&((a.2.1.2.2.2==b.2.1.2.2.2)&&((decide (a.2.2.1.1=b.2.2.1.1))&&((decide (a.2.2.1.2.1=b.2.2.1.2.1))&&((decide (a.2.2.1.2.2.1=b.2.2.1.2.2.1))&&((a.2.2.1.2.2.2==b.2.2.1.2.2.2)&&((decide (a.2.2.2.1.1=b.2.2.2.1.1))&&((decide (a.2.2.2.1.2=b.2.2.2.1.2))&&((decide (a.2.2.2.2.1=b.2.2.2.2.1))&&((decide (a.2.2.2.2.2.1=b.2.2.2.2.2.1))&&(decide (a.2.2.2.2.2.2=b.2.2.2.2.2.2)))))))))))))))=decide (a=b):=by
 rw[Bool.eq_iff_iff];simp[Prod.ext_iff];grind
theorem celEq0 (a:Cel):((decide (a.1=(0:Int)))&&((decide (a.2.1.1=(0:Int)))&&((decide (a.2.1.2.1=(0:Int)))&&((decide (a.2.1.2.2.1=(0:Int)))&&((a.2.1.2.2.2==false)&&((decide (a.2.2.1.1=(0:Int)))&&((decide (a.2.2.1.2.1=(0:Int)))&&((decide (a.2.2.1.2.2.1=(0:Int)))&&((a.2.2.1.2.2.2==false)&&((decide (a.2.2.2.1.1=(0:Int)))&&((decide (a.2.2.2.1.2=(0:Int)))&&((decide (a.2.2.2.2.1=(0:Int)))&&((decide (a.2.2.2.2.2.1=(0:Int)))&&(decide (a.2.2.2.2.2.2=(0:Int))))))))))))))))=decide (a=z0):=celEq a z0
def I64 (x:Int):Prop := -9223372036854775808<=x/\x<=9223372036854775807
structure EvW (e:Ev):Prop where
 t:I64 e.1
 v:0<=e.2.1/\e.2.1<=18446744073709551615
 c:I64 e.2.2.1
structure CelW (c:Cel):Prop where
 n:I64 c.1
 f:EvW c.2.1
 l:EvW c.2.2.1
 w:WdOk c.2.2.2.1
 r:I64 c.2.2.2.2.1
 g:I64 c.2.2.2.2.2.1
 s:I64 c.2.2.2.2.2.2
theorem EvW.of {e:Ev}(h:EvOk e):EvW e:=by
 obtain ⟨a,b,c,d,f,g,_⟩:=h;exact ⟨by unfold I64;omega,⟨c,d⟩,by unfold I64;omega⟩
theorem CelW.ofN {c:Cel}(h:CellN c):CelW c:=by
 have:=h.small;have:=h.n1;have:=h.f.t0;have:=h.f.t1;have:=h.l.t0;have:=h.l.t1;have:=h.r;have:=h.g;have:=h.rg;have:=h.s0;have:=h.s1;exact ⟨by unfold I64;omega,.of h.f,.of h.l,h.w,by unfold I64;omega,by unfold I64;omega,by unfold I64;omega⟩
theorem f1i:CelW z0:=⟨by simp[I64,z0],⟨by simp[I64,z0,e0],by simp[z0,e0],by simp[I64,z0,e0]⟩,⟨by simp[I64,z0,e0],by simp[z0,e0],by simp[I64,z0,e0]⟩,⟨by simp[z0],by simp[z0]⟩,by simp[I64,z0],by simp[I64,z0],by simp[I64,z0]⟩
theorem CelW.of {c:Cel}(h:c0d c):CelW c:=by
 rcases h with rfl | h
 ·exact f1i
 ·exact .ofN h
def sumW (l:List Wd):Int:=(l.map wv).sum
theorem sumW_nn {l:List Wd}(h:∀x∈l,WdOk x):0<=sumW l:=by
 induction l with
 | nil=>simp[sumW]
 | cons x l ih =>
  have:=ih fun y hy=>h y (by simp[hy])
  have:=p0n (h x (by simp));simp only[sumW,q4i,List.sum_cons] at *
  omega
theorem i2w (n:Nat)(s2:Wd)(l:List Wd)(hL:l.length<=1000000000000)(hok:∀x∈l,WdOk x):∀(rest pre:List Wd) (f:Nat) (a:Wd) (i len:Int),l=pre++rest->i=pre.length->len=l.length->rest.length<f->WdOk a->wv a+sumW rest<340282366920938463463374607431768211456 ->
  s0k (n+2) f (s2,a,l,len,i,())=some (.inl (s2,mkW (wv a+sumW rest),())):=by
 intro rest;induction rest with
 | nil =>
  intro pre f a i len hl hi hn hf ha hs;obtain ⟨f,rfl⟩:=FSu hf;rw[y0d];have:=idxe hl hi hn;simp only[tfd,q0n this,sumW,List.map_nil,List.sum_nil,Int.add_zero,mkW_wv ha]
 | cons x rest ih =>
  intro pre f a i len hl hi hn hf ha hs;obtain ⟨f,rfl⟩:=FSu hf;rw[y0d];have hlt:=idx hl hi hn;have hxo:WdOk x:=hok x (by rw[hl];simp);have hr:=sumW_nn (l:=rest) fun y hy=>hok y (by rw[hl];simp[hy])
  have hx:=p0n hxo;have hb:=p0n ha;have es:sumW (x::rest)=wv x+sumW rest:=by simp[sumW]
  rw[es] at hs;have ew:addW a x=(mkW (wv a+wv x),0):=q0z (by omega);simp only[tfd,tfn,q0z hlt,c0c hl hi,obs,f2v n ha hxo,ew,q0z trivial];rw[idxw hl hi hL];rw[ih (pre++[x]) f (mkW (wv a+wv x)) (i+1) len (idxl hl) (idxs hi) hn (by simp at hf;omega) (y1s (by omega) (by omega)) (by rw[v1y];omega),v1y,es];rw[show wv a+wv x+sumW rest=wv a+(wv x+sumW rest) by omega]
theorem wide_sum (n:Nat)(l:List Wd)(hL:l.length<=1000000000000)(hok:∀x∈l,WdOk x)(hs:sumW l<340282366920938463463374607431768211456):q1o (n+3) l=some (mkW (sumW l),0):=by
 rw[a2y,i2w n (0,0) l hL hok l [] a0b (0,0) 0 l.length rfl rfl rfl (by unfold a0b;omega) ⟨by simp,by simp⟩ (by simpa [n2s] using hs)];simp[n2s]
theorem i0z (n:Nat){e:Ev}(h:EvW e):e0v (n+1) e=some (if EvOk e then 0 else 2):=by
 obtain ⟨_,hv,_⟩:=h;rw[n1y];simp only[tfd];by_cases h1:e.1<0
 ·rw[q0z h1,q0n (fun k=>by have:=k.t0;omega)]
 by_cases h2:(35184372088832:Int)<=e.1
 ·rw[q0n h1,q0z h2,q0n (fun k=>by have:=k.t1;omega)]
 by_cases h3:e.2.2.1<0
 ·rw[q0n h1,q0n h2,q0z h3,q0n (fun k=>by have:=k.c0;omega)]
 by_cases h4:e.1<e.2.2.1
 ·rw[q0n h1,q0n h2,q0n h3,q0z h4,q0n (fun k=>by have:=k.c1;omega)]
 rw[q0n h1,q0n h2,q0n h3,q0n h4];cases h5:e.2.2.2 with
 | false =>
  rw[tff,q0z ⟨by omega,by omega,hv.1,hv.2,by omega,by omega,fun k=>by rw[h5] at k;cases k⟩]
 | true =>
  rw[tft];by_cases h6:e.2.1=0/\e.2.2.1=0
  ·rw[q0z ⟨by omega,by omega,hv.1,hv.2,by omega,by omega,fun _=>h6⟩];simp[h6]
  ·rw[q0n (fun k=>h6 (k.st h5))];by_cases h7:e.2.1=0
   ·have h8:¬(e.2.2.1=0):=fun k=>h6 ⟨h7,k⟩
    simp[h7,h8]
   ·simp[h7]
theorem zif (p:Prop)[Decidable p]:decide ((if p then (0:Int) else 2)=0)=decide p:=by by_cases h:p<;>simp[h]
theorem u1n (n:Nat)(l:List Ev)(hL:l.length<=1000000000000)(hw:∀e∈l,EvW e):∀(rest pre:List Ev) (f:Nat) (i len:Int),l=pre++rest->i=pre.length->len=l.length->rest.length<f ->
  l0q (n+1) f (l,len,i,())=some (if ∀e∈rest,EvOk e then .inl () else .inr false):=by
 intro rest;induction rest with
 | nil =>
  intro pre f i len hl hi hn hf;obtain ⟨f,rfl⟩:=FSu hf;rw[r0z];have:=idxe hl hi hn;simp[tfd,q0n this]
 | cons x rest ih =>
  intro pre f i len hl hi hn hf;obtain ⟨f,rfl⟩:=FSu hf;rw[r0z];have hlt:=idx hl hi hn;have hx:EvW x:=hw x (by rw[hl];simp);simp only[tfd,tfn,q0z hlt,c0c hl hi,obs,i0z n hx,idxw hl hi hL];by_cases ho:EvOk x
  ·rw[q0z ho,q0z rfl,ih (pre++[x]) f (i+1) len (idxl hl) (idxs hi) hn (by simp at hf;omega)];have e:(∀e∈x::rest,EvOk e)↔(∀e∈rest,EvOk e):=by simp[ho]
   by_cases hr:∀e∈rest,EvOk e
   ·rw[q0z hr,q0z (e.2 hr)]
   ·rw[q0n hr,q0n (fun k=>hr (e.1 k))]
  ·have h2:¬(∀e∈x::rest,EvOk e):=fun k=>ho (k x (by simp))
   rw[q0n ho,q0n (by decide),q0n h2]
theorem l1h (n:Nat)(l:List Ev)(hL:l.length<=1000000000000)(hw:∀e∈l,EvW e):p0d (n+2) l=some (decide (∀e∈l,EvOk e)):=by
 rw[n1x,u1n n l hL hw l [] a0b 0 l.length rfl rfl rfl (by unfold a0b;omega)];by_cases h:∀e∈l,EvOk e
 ·rw[q0z h,q2g h];simp
 ·rw[q0n h,q1z h];simp
theorem g1i (n:Nat){p c:Ev}(hp:EvW p)(hc:EvW c):p0d (n+2) [p,c]=some (decide (EvOk p/\EvOk c)):=by
 rw[l1h n [p,c] (by simp) (by simp[hp,hc])];simp
theorem w0d (n:Nat){p c:Ev}(hp:EvW p)(hc:EvW c):m0g (n+3) p c=some (decide (EvOk p/\EvOk c/\p.1<c.1)):=by
 rw[l1i,g1i n hp hc];by_cases h:EvOk p/\EvOk c
 ·simp[h.1,h.2]
 ·have h2:¬(EvOk p/\EvOk c/\p.1<c.1):=fun k=>h ⟨k.1,k.2.1⟩
  rw[q1z h,q1z h2];simp
def f2b (d:Int×(Int×(Int×Int))):Cel:=(0,(e0,(e0,((0,d.1),(d.2.1,(d.2.2.1,d.2.2.2))))))
theorem y0u (n:Nat)(c:Ev)(s:Int):x0k (n+2) c s=some (f2b (c.2.1,1,0,s)):=by
 rw[u1p,i1x];rfl
theorem u1o (n:Nat){p c:Ev}(hp:EvOk p)(hc:EvOk c):u0b (n+3) p c=some (if p.1<c.1 then (f2b (btw p c),0) else (z0,9)):=by
 rw[h1w,g1i n (.of hp) (.of hc),q2g ⟨hp,hc⟩];simp only[obs,q3s,tff,tfd];by_cases h:p.1<c.1
 ·have h':¬(c.1<=p.1):=by omega
  rw[q0n h',q0z h];obtain ⟨a1,a2,a3,a4,a5,a6,a7⟩:=hp;obtain ⟨b1,b2,b3,b4,b5,b6,b7⟩:=hc;unfold btw;cases k1:c.2.2.2 with
  | true=>rw[tft,q0z rfl];rfl
  | false =>
   rw[tff,q0n Bool.false_ne_true];by_cases k2:p.1<c.2.2.1
   ·rw[q0z k2,q0z k2,y0u,w64 (by omega) (by omega)];rfl
   rw[q0n k2,q0n k2];cases k3:p.2.2.2 with
   | true=>rw[tft,q0z rfl];rfl
   | false =>
    rw[tff,q0n Bool.false_ne_true];by_cases k4:c.2.1<p.2.1
    ·rw[q0z k4,q0z k4,y0u,w64 (by omega) (by omega)];rfl
    ·rw[q0n k4,q0n k4,i1x,w64 (by omega) (by omega),wu64 (by omega) (by omega)];rfl
 ·rw[q0z (by omega),q0n h];rfl
theorem u0f (n:Nat)(c:Cel):w0h (n+1) c=some (decide (c=z0)):=by rw[a2j,celEq0]
theorem f2k (n:Nat)(x m:Int):l1u (n+1) x m=some (decide (0<=x/\x<=m)):=by
 rw[n2c];by_cases h1:(0:Int)<=x<;>by_cases h2:x<=m<;>simp[h1,h2]
def f2u (c:Cel):Prop:=(c.1=1/\c.2.1=c.2.2.1/\EvOk c.2.1)\/(1<c.1/\EvOk c.2.1/\EvOk c.2.2.1/\c.2.1.1<c.2.2.1.1/\c.1-1<=c.2.2.1.1-c.2.1.1)
instance (c:Cel):Decidable (f2u c):=by unfold f2u;infer_instance
theorem o1c (n:Nat){c:Cel}(hw:CelW c):f1g (n+4) c=some (decide (f2u c)):=by
 rw[v1l,evEq];simp only[tfd];by_cases h1:c.1=1
 ·rw[q0z h1];by_cases h2:c.2.1=c.2.2.1
  ·rw[q0z h2,i0z _ hw.f];simp only[obs,zif];congr 1;refine q3r.2 ⟨fun h => .inl ⟨h1,h2,h⟩,fun h => ?_⟩;rcases h with h | h
   ·exact h.2.2
   ·exact h.2.1
  ·rw[q0n h2,q1z];rintro (h | h)
   ·exact h2 h.2.1
   ·omega
 ·rw[q0n h1];by_cases h2:1<c.1
  ·rw[q0z h2,w0d _ hw.f hw.l];simp only[obs,tfd];by_cases h3:EvOk c.2.1/\EvOk c.2.2.1/\c.2.1.1<c.2.2.1.1
   ·rw[q0z h3];obtain ⟨h3,h4,h5⟩:=h3;have:=hw.n;unfold I64 at this;have:=h3.t0;have:=h4.t1;have:=h3.t1;have:=h4.t0;rw[w64 (by omega) (by omega),w64 (by omega) (by omega)];congr 1;refine q3r.2 ⟨fun h => .inr ⟨h2,h3,h4,h5,h⟩,fun h => ?_⟩;rcases h with h | h
    ·omega
    ·exact h.2.2.2.2
   ·rw[q0n h3,q1z];rintro (h | h)
    ·omega
    ·exact h3 ⟨h.2.1,h.2.2.1,h.2.2.2.1⟩
  ·rw[q0n h2,q1z];rintro (h | h)<;>omega
theorem CellN.spans {c:Cel}(h:CellN c):f2u c:=by
 by_cases h1:c.1=1
 ·exact .inl ⟨h1,h.one h1,h.f⟩
 ·have:=h.n1;exact .inr ⟨by omega,h.f,h.l,h.more (by omega),h.n2⟩
theorem cellN_of {c:Cel}(hw:CelW c)(hs:f2u c)(hi:wv c.2.2.2.1<=18446744073709551615*(c.1-1))(hr:0<=c.2.2.2.2.1)(hg:0<=c.2.2.2.2.2.1)(hrg:c.2.2.2.2.1+c.2.2.2.2.2.1<=c.1-1)
  (h0:0<=c.2.2.2.2.2.2) (h1:c.2.2.2.2.2.2<=c.2.2.1.1-c.2.1.1):CellN c:=by
 rcases hs with ⟨a,b,d⟩ | ⟨a,b,d,e,f⟩
 ·exact ⟨by omega,d,b ▸ d,fun _=>b,fun h=>by omega,by rw[b];omega,hw.w,hi,hr,hg,hrg,h0,h1⟩
 ·exact ⟨by omega,b,d,fun h=>by omega,fun _=>e,f,hw.w,hi,hr,hg,hrg,h0,h1⟩
theorem c2g {c:Cel}(h:f2u c):1<=c.1/\c.1<=35184372088832/\0<=c.2.2.1.1-c.2.1.1/\c.2.2.1.1-c.2.1.1<=35184372088832:=by
 rcases h with ⟨a,b,d⟩ | ⟨a,b,d,e,f⟩
 ·rw[b];have:=d.t0;omega
 ·have:=b.t0;have:=d.t1;omega
theorem j2i {k:Int}(h:0<=k/\k<=35184372088832):w1n (0,18446744073709551615) k=(mkW (18446744073709551615*k),0):=by
 unfold w1n;rw[show wv (0,18446744073709551615)=18446744073709551615 from rfl,q0z (by omega)]
theorem f1h (n:Nat){c:Cel}(hw:CelW c):s0f (n+5) c=some (if c0d c then 0 else 2):=by
 rw[v1o,u0f,o1c n hw];simp only[obs,tfd,tfn];by_cases h0:c=z0
 ·rw[q0z h0,q0z (.inl h0)]
 rw[q0n h0];by_cases hs:f2u c
 ·rw[q0z hs];obtain ⟨s1,s2,s3,s4⟩:=c2g hs;have hg:=hw.g;have hr:=hw.r;have hse:=hw.s;unfold I64 at hg hr hse;have hmw:WdOk (mkW (18446744073709551615*(c.1-1))):=y1s (by omega) (by omega);rw[i1x,w64 (x:=c.1-1) (by omega) (by omega),wu64 (by omega) (by omega)];simp only[obs];rw[o1f (n+2) ⟨by simp,by simp⟩ _ (by omega),j2i (by omega)];simp only[obs,q0z trivial,w1b (n+3) hmw hw.w,v1y,f2k,tfd];by_cases c1:18446744073709551615*(c.1-1)<wv c.2.2.2.1
  ·rw[q0z c1,q0n (fun k=>by have:=(k.n h0).inc;omega)]
  rw[q0n c1];by_cases c2:0<=c.2.2.2.2.2.1/\c.2.2.2.2.2.1<=c.1-1
  ·rw[q0z c2,w64 (by omega) (by omega)];by_cases c3:0<=c.2.2.2.2.1/\c.2.2.2.2.1<=c.1-1-c.2.2.2.2.2.1
   ·rw[q0z c3,w64 (by omega) (by omega)];by_cases c4:0<=c.2.2.2.2.2.2/\c.2.2.2.2.2.2<=c.2.2.1.1-c.2.1.1
    ·rw[q0z c4,q0z (.inr (cellN_of hw hs (by omega) c3.1 c2.1 (by omega) c4.1 c4.2))]
    ·rw[q0n c4,q0n (fun k=>c4 ⟨(k.n h0).s0,(k.n h0).s1⟩)]
   ·rw[q0n c3,q0n (fun k=>c3 (by have:=(k.n h0).r;have:=(k.n h0).rg;omega))]
  ·rw[q0n c2,q0n (fun k=>c2 (by have:=(k.n h0).r;have:=(k.n h0).g;have:=(k.n h0).rg;omega))]
 ·rw[q0n hs,q0n (fun k=>hs (CellN.spans (k.n h0)))]
theorem z02 (p:Prop)[Decidable p]:((if p then (0:Int) else 2)=0)↔p:=by by_cases h:p<;>simp[h]
theorem v2n {a b:Cel}(ha:a≠z0)(hb:b≠z0):Ahead a b↔a.2.2.1.1<b.2.1.1:=⟨fun h=>(h.resolve_left ha).resolve_left hb,fun h => .inr (.inr h)⟩
theorem mrgE_z0 {b:Cel}(hb:c0d b):mrgE z0 b=(b,0):=by
 unfold mrgE;rw[q0z (And.intro t0o hb),q0z (.inl rfl),o1e]
theorem m2b {a b:Cel}(na:CellN a)(nb:CellN b)(h:a.2.2.1.1<b.2.1.1) :
  (∀x∈[a.2.2.2.1,(f2b (btw a.2.2.1 b.2.1)).2.2.2.1,b.2.2.2.1],WdOk x)/\sumW [a.2.2.2.1,(f2b (btw a.2.2.1 b.2.1)).2.2.2.1,b.2.2.2.1]=wv a.2.2.2.1+(btw a.2.2.1 b.2.1).1+wv b.2.2.2.1 /\
  wv a.2.2.2.1+(btw a.2.2.1 b.2.1).1+wv b.2.2.2.1<340282366920938463463374607431768211456:=by
 have d:=u2t na.l nb.f h;have ia:=na.inc;have ib:=nb.inc;have sa:=na.small;have sb:=nb.small;have d1:=d.i;refine ⟨?_,?_,by omega⟩
 ·intro x hx;simp only[q3k,List.not_mem_nil,or_false] at hx;rcases hx with rfl | rfl | rfl
  ·exact na.w
  ·exact ⟨by simp[f2b],d1⟩
  ·exact nb.w
 ·simp[sumW,f2b,wv_lo];omega
theorem l0i (n:Nat){a b:Cel}(ha:CelW a)(hb:CelW b):i0c (n+6) a b=some (mrgE a b):=by
 rw[v1n,f1h n ha,f1h n hb,u0f,u0f];simp only[obs,tfd,tfn,z02];unfold mrgE;by_cases h1:c0d a
 case neg=>rw[q0n h1,q0n (fun k=>h1 k.1)];rfl
 by_cases h2:c0d b
 case neg=>rw[q0z h1,q0n h2,q0n (fun k=>h2 k.2)];rfl
 rw[q0z h1,q0z h2,q0z (And.intro h1 h2)];by_cases h3:a=z0
 ·rw[q0z h3,q0z (.inl h3),h3,o1e]
 by_cases h4:b=z0
 ·rw[q0n h3,q0z h4,q0z (.inr (.inl h4)),h4,mrg_z0]
 rw[q0n h3,q0n h4];have na:=h1.n h3;have nb:=h2.n h4;rw[a2k,u1o (n+1) na.l nb.f];simp only[obs];by_cases h5:a.2.2.1.1<b.2.1.1
 ·obtain ⟨w1,w2,w3⟩:=m2b na nb h5;have d:=u2t na.l nb.f h5;rw[q0z h5,q0z ((v2n h3 h4).2 h5)];simp only[decide_true,q3s,tff];rw[wide_sum (n+1) _ (by simp) w1 (by rw[w2];exact w3),w2];simp only[obs];rw[d2u na nb];have:=na.small;have:=nb.small;have:=na.n1;have:=nb.n1;have:=na.r;have:=na.g;have:=na.rg;have:=nb.r;have:=nb.g;have:=nb.rg;have:=na.s0;have:=na.s1;have:=nb.s0;have:=nb.s1;have:=na.f.t0;have:=na.l.t1;have:=nb.f.t0;have:=nb.l.t1;obtain ⟨d1,d2,d3,d4,d5⟩:=d;simp only[f2b]
  rw[w64 (x:=a.1+b.1) (by omega) (by omega),w64 (x:=a.2.2.2.2.1+b.2.2.2.2.1) (by omega) (by omega),w64 (x:=a.2.2.2.2.2.1+b.2.2.2.2.2.1) (by omega) (by omega),w64 (x:=a.2.2.2.2.2.2+b.2.2.2.2.2.2) (by omega) (by omega)];rw[w64 (by omega) (by omega),w64 (by omega) (by omega),w64 (by omega) (by omega)];refine congrArg some (Prod.ext (Prod.ext rfl (Prod.ext rfl (Prod.ext rfl (Prod.ext rfl (Prod.ext ?_ (Prod.ext ?_ ?_)))))) rfl)<;>simp only<;>omega
 ·rw[q0n h5,q0n (fun k=>h5 ((v2n h3 h4).1 k))];simp only[tfn,tfd];rw[q0n (by decide)];rfl
theorem d2v {a b:Cel}(h:(mrgE a b).2=0):c0d a/\c0d b/\Ahead a b/\(mrgE a b).1=mrg a b/\c0d (mrgE a b).1:=by
 unfold mrgE at h ⊢;by_cases h1:c0d a/\c0d b
 ·rw[q0z h1] at h ⊢;by_cases h2:Ahead a b
  ·rw[q0z h2];exact ⟨h1.1,h1.2,h2,rfl,y1r h1.1 h1.2 h2⟩
  ·rw[q0n h2] at h;simp at h
 ·rw[q0n h1] at h;simp at h
theorem r2b (a b:Cel):CelW (mrgE a b).1:=by
 by_cases h:(mrgE a b).2=0
 ·exact .of (d2v h).2.2.2.2
 ·unfold mrgE at h ⊢;by_cases h1:c0d a/\c0d b
  ·rw[q0z h1] at h ⊢;by_cases h2:Ahead a b
   ·rw[q0z h2] at h;simp at h
   ·rw[q0n h2];exact f1i
  ·rw[q0n h1];exact f1i
theorem n2e (n:Nat)(s2:Cel)(l:List Cel)(hL:l.length<=1000000000000)(hw:∀x∈l,CelW x):∀(rest pre:List Cel) (f:Nat) (c:Cel) (i len:Int),l=pre++rest->i=pre.length->len=l.length->rest.length<f->CelW c ->
  p0h (n+6) f (s2,c,l,len,i,())=some (if (allE c rest).2=0 then .inl (s2,(allE c rest).1,()) else .inr (z0,(allE c rest).2)):=by
 intro rest;induction rest with
 | nil =>
  intro pre f c i len hl hi hn hf hc;obtain ⟨f,rfl⟩:=FSu hf;rw[y0w];simp only[tfd,q0n (idxe hl hi hn),allE,q0z trivial]
 | cons x rest ih =>
  intro pre f c i len hl hi hn hf hc;obtain ⟨f,rfl⟩:=FSu hf;rw[y0w];have hx:CelW x:=hw x (by rw[hl];simp);simp only[tfd,tfn,q0z (idx hl hi hn),c0c hl hi,obs,l0i n hc hx,idxw hl hi hL];by_cases h:(mrgE c x).2=0
  ·rw[q0z h,ih (pre++[x]) f _ (i+1) len (idxl hl) (idxs hi) hn (by simp at hf;omega) (r2b c x)];simp only[allE,q0z h]
  ·rw[q0n h];simp only[allE,q0n h];rfl
theorem allE_z0 (l:List Cel):∀c,(allE c l).2≠0->(allE c l).1=z0:=by
 induction l with
 | nil=>intro c h;exact absurd rfl h
 | cons x l ih =>
  intro c h;simp only[allE] at h ⊢;split at h
  ·rename_i k;rw[q0z k];exact ih _ h
  ·rename_i k;rw[q0n k]
theorem cell_all (n:Nat)(l:List Cel)(hL:l.length<=1000000000000)(hw:∀x∈l,CelW x):v1p (n+7) l=some (allE z0 l):=by
 have:=n2e n z0 l hL hw l [] a0b z0 0 l.length rfl rfl rfl (by unfold a0b;omega) f1i;rw[f2l];have e:p0h (n+6) a0b (((0:Int),(((0:Int),((0:Int),((0:Int),false))),(((0:Int),((0:Int),((0:Int),false))),(((0:Int),(0:Int)),((0:Int),((0:Int),(0:Int))))))),((0:Int),(((0:Int),((0:Int),((0:Int),false))),(((0:Int),((0:Int),((0:Int),false))),(((0:Int),(0:Int)),((0:Int),((0:Int),(0:Int))))))),l,(l.length:Int),(0:Int),())=_:=this;rw[e];by_cases h:(allE z0 l).2=0
 ·rw[q0z h];simp only[obs,a0r];exact congrArg some (Prod.ext rfl h.symm)
 ·rw[q0n h];simp only[obs,l0w];exact congrArg some (Prod.ext (allE_z0 l z0 h).symm rfl)
theorem a2i (n:Nat)(e:Ev):v1m (n+1) e=some (e0p e):=by rw[f2j];rfl
theorem evCell_w {e:Ev}(h:EvW e):CelW (e0p e):=⟨by simp[I64,e0p],h,h,⟨by simp[e0p],by simp[e0p]⟩,by simp[I64,e0p],by simp[I64,e0p],by simp[I64,e0p]⟩
theorem cell_add (n:Nat){c:Cel}{e:Ev}(hc:CelW c)(he:EvW e):v1q (n+7) c e=some (if EvOk e then mrgE c (e0p e) else (z0,2)):=by
 rw[f2m,i0z _ he,a2i];simp only[obs,tfn,tfd,z02,l0i n hc (evCell_w he)];by_cases h:EvOk e
 ·rw[q0z h,q0z h]
 ·rw[q0n h,q0n h,q0n h];rfl
theorem z1o {l:List Ev}{x:Ev}:Foll (l++[x])↔Foll l/\EvOk x/\∀e∈l,e.1<x.1:=by
 rw[e0a];constructor
 ·rintro ⟨h1,h2,h3⟩;exact ⟨h1,h2.ok x (by simp),fun e he=>h3 e he x (by simp)⟩
 ·rintro ⟨h1,h2,h3⟩;refine ⟨h1,⟨by simpa using h2,by simp⟩,fun e he y hy => ?_⟩;simp at hy;subst hy;exact h3 e he
theorem last_all {l:List Ev}(h:Foll l){x y:Ev}(hy:l.getLast? = some y)(hlt:y.1<x.1):∀e∈l,e.1<x.1:=by
 intro e he;rcases List.eq_nil_or_concat l with rfl | ⟨q,z,rfl⟩
 ·cases he
 rw[List.concat_eq_append] at *
 simp at hy;subst hy;rcases q3m.1 he with h1 | h1
 ·have:=(e0a.1 h).2.2 e h1 z (by simp);omega
 ·simp at h1;subst h1;exact hlt
open Go.Flat
abbrev Conf:=Int×((Int×(Int×Int))×((Int×(Int×Int))×(Int×Int)))
def prt (n e:Int):Int:=(n+e-1) / e
def plc (c:Conf):Int:=1+prt c.1 16+prt c.2.2.1.1 4+prt c.2.2.1.2.1 4+prt c.2.2.1.2.2 4
structure Rng (c:Conf):Prop where
 raw:1<=c.1/\c.1<=4096
 cap:1<=c.2.2.2.1/\c.2.2.2.1<=65536
 log:1<=c.2.2.2.2/\c.2.2.2.2<=8192
 w0:1<=c.2.1.1/\c.2.1.1<=1099511627776
 w1:1<=c.2.1.2.1/\c.2.1.2.1<=1099511627776
 w2:1<=c.2.1.2.2/\c.2.1.2.2<=1099511627776
 n0:1<=c.2.2.1.1/\c.2.2.1.1<=4096
 n1:1<=c.2.2.1.2.1/\c.2.2.1.2.1<=4096
 n2:1<=c.2.2.1.2.2/\c.2.2.1.2.2<=4096
structure OkC (c:Conf):Prop where
 rng:Rng c
 m1:c.2.1.2.1 % c.2.1.1=0
 d1:c.2.1.2.1 / c.2.1.1<=c.2.2.1.1
 m2:c.2.1.2.2 % c.2.1.2.1=0
 d2:c.2.1.2.2 / c.2.1.2.1<=c.2.2.1.2.1
 pl:plc c<c.2.2.2.2
theorem v0p (n:Nat)(x e:Int)(he:1<=e)(he':e<=1000)(hx:0<=x)(hx':x<=1000000000):l0d (n+1) x e=some (prt x e):=by
 rw[v1e];have h1:¬(e=0):=by omega
 simp only[tfd,q0n h1];rw[w64 (x:=x+e) (by omega) (by omega),w64 (x:=x+e-1) (by omega) (by omega),s0o (by omega)];have h2:0<=(x+e-1) / e:=Int.ediv_nonneg (by omega) (by omega);have h3:(x+e-1) / e<=x+e-1:=Int.ediv_le_self _ (by omega);rw[w64 (by omega) (by omega)];rfl
theorem j0w {x e:Int}(he:1<=e)(hx:0<=x):0<=prt x e/\prt x e<=x:=by
 unfold prt;refine ⟨Int.ediv_nonneg (by omega) (by omega),?_⟩;have:x+e-1<(x+1)*e:=by
  have:=Int.mul_le_mul_of_nonneg_left he (show 0<=x by omega);rw[Int.add_mul];omega
 have:=Int.ediv_lt_of_lt_mul (by omega) this;omega
theorem l0z {c:Conf}(h:Rng c):1<=plc c/\plc c<=20000:=by
 have a:=j0w (x:=c.1) (e:=16) (by omega) (by have:=h.raw;omega);have b:=j0w (x:=c.2.2.1.1) (e:=4) (by omega) (by have:=h.n0;omega);have d:=j0w (x:=c.2.2.1.2.1) (e:=4) (by omega) (by have:=h.n1;omega);have f:=j0w (x:=c.2.2.1.2.2) (e:=4) (by omega) (by have:=h.n2;omega);have:=h.raw;have:=h.n0;have:=h.n1;have:=h.n2;unfold plc;omega
theorem b1v (n:Nat){c:Conf}(h:Rng c):l0c (n+2) c=some (plc c):=by
 have h0:=h.raw;have h1:=h.n0;have h2:=h.n1;have h3:=h.n2;rw[v1d,v0p n _ 16 (by omega) (by omega) (by omega) (by omega),v0p n _ 4 (by omega) (by omega) (by omega) (by omega),v0p n _ 4 (by omega) (by omega) (by omega) (by omega),v0p n _ 4 (by omega) (by omega) (by omega) (by omega)];simp only[obs];have a:=j0w (x:=c.1) (e:=16) (by omega) (by omega);have b:=j0w (x:=c.2.2.1.1) (e:=4) (by omega) (by omega);have d:=j0w (x:=c.2.2.1.2.1) (e:=4) (by omega) (by omega);have f:=j0w (x:=c.2.2.1.2.2) (e:=4) (by omega) (by omega)
 rw[w64 (x:=1+_) (by omega) (by omega),w64 (x:=1+_+_) (by omega) (by omega),w64 (x:=1+_+_+_) (by omega) (by omega),w64 (by omega) (by omega)];rfl
theorem in_int (n:Nat)(x a b:Int):h0a (n+1) x a b=some (decide (a<=x/\x<=b)):=by
 rw[o1b];by_cases h1:a<=x<;>by_cases h2:x<=b<;>simp[h1,h2]
theorem h2p (n:Nat)(x a b:Int):k0c (n+1) x a b=some (decide (a<=x/\x<=b)):=by
 rw[h1y];by_cases h1:a<=x<;>by_cases h2:x<=b<;>simp[h1,h2]
theorem x1u {a b:Int}(ha:1<=a/\a<=1099511627776)(hb:1<=b):wrap .i64 (Int.tdiv a b)=a / b:=by
 rw[s0o (by omega)];have h2:0<=a / b:=Int.ediv_nonneg (by omega) (by omega);have h3:a / b<=a:=Int.ediv_le_self _ (by omega);rw[w64 (by omega) (by omega)]
theorem n0m (n:Nat){c:Conf}(h:OkC c):c0l (n+3) c=some 0:=by
 obtain ⟨hr,m1,d1,m2,d2,pl⟩:=h;have hp:=b1v n hr;obtain ⟨raw,cap,log,w0,w1,w2,n0,n1,n2⟩:=hr;rw[c1z];simp only[in_int,h2p,obs,tfd,q0z raw,q0z cap,q0z log,q0z w0,q0z w1,q0z w2,q0z n0,q0z n1,q0z n2];have z0:¬(c.2.1.1=0):=by omega
 have z1:¬(c.2.1.2.1=0):=by omega
 rw[x1u w1 w0.1,x1u w2 w1.1,q0j (a:=c.2.1.2.1) (by omega),q0j (a:=c.2.1.2.2) (by omega)];have l:¬(c.2.2.2.2<=plc c):=by omega
 simp only[q0n z0,q0n z1,q0z m1,q0z d1,q0z m2,q0z d2,tfn,tfd,hp,obs,q0n l]
theorem v1j (n:Nat){c:Conf}(h:¬OkC c):c0l (n+3) c=some 2:=by
 rw[c1z];simp only[in_int,h2p,obs,tfd,tfn];by_cases raw:1<=c.1/\c.1<=4096
 case neg=>rw[q0n raw]
 rw[q0z raw];by_cases cap:1<=c.2.2.2.1/\c.2.2.2.1<=65536
 case neg=>rw[q0n cap]
 rw[q0z cap];by_cases log:1<=c.2.2.2.2/\c.2.2.2.2<=8192
 case neg=>rw[q0n log]
 rw[q0z log];by_cases w0:1<=c.2.1.1/\c.2.1.1<=1099511627776
 case neg=>rw[q0n w0]
 rw[q0z w0];by_cases n0:1<=c.2.2.1.1/\c.2.2.1.1<=4096
 case neg=>rw[q0n n0]
 rw[q0z n0];by_cases w1:1<=c.2.1.2.1/\c.2.1.2.1<=1099511627776
 case neg=>rw[q0n w1]
 rw[q0z w1];by_cases n1:1<=c.2.2.1.2.1/\c.2.2.1.2.1<=4096
 case neg=>rw[q0n n1]
 rw[q0z n1];by_cases w2:1<=c.2.1.2.2/\c.2.1.2.2<=1099511627776
 case neg=>rw[q0n w2]
 rw[q0z w2];by_cases n2:1<=c.2.2.1.2.2/\c.2.2.1.2.2<=4096
 case neg=>rw[q0n n2,q0n n2]
 rw[q0z n2];have hr:Rng c:=⟨raw,cap,log,w0,w1,w2,n0,n1,n2⟩;have hp:=b1v n hr;have z0:¬(c.2.1.1=0):=by omega
 have z1:¬(c.2.1.2.1=0):=by omega
 rw[x1u w1 w0.1,x1u w2 w1.1,q0j (a:=c.2.1.2.1) (by omega),q0j (a:=c.2.1.2.2) (by omega)];rw[q0n z0,q0n z0];by_cases m1:c.2.1.2.1 % c.2.1.1=0
 case neg=>rw[q0n m1]
 rw[q0z m1];by_cases d1:c.2.1.2.1 / c.2.1.1<=c.2.2.1.1
 case neg=>rw[q0n d1,q0n d1]
 rw[q0z d1,q0n z1,q0n z1];by_cases m2:c.2.1.2.2 % c.2.1.2.1=0
 case neg=>rw[q0n m2]
 rw[q0z m2];by_cases d2:c.2.1.2.2 / c.2.1.2.1<=c.2.2.1.2.1
 case neg=>rw[q0n d2,q0n d2]
 rw[q0z d2,q0z d2,hp];simp only[obs];by_cases pl:c.2.2.2.2<=plc c
 ·rw[q0z pl]
 ·exact absurd ⟨hr,m1,d1,m2,d2,by omega⟩ h
theorem pow_le (k:Nat)(hk:k<=7):(256:Int)^k<=72057594037927936:=by
 match k,hk with
 | 0,_ | 1,_ | 2,_ | 3,_ | 4,_ | 5,_ | 6,_ | 7,_=>decide
theorem two_pow8 (k:Nat):(2:Int)^(8*k)=256^k:=by rw[Int.pow_mul];rfl
theorem n2u (n:Nat)(x:Int):∀(k f:Nat) (w:List Int),k<=8->k<f->w.length+k<=1000000 ->
  e0q n f (w,x,8*((k:Int)-1),())=some (.inl (w++beI k x,())):=by
 intro k;induction k with
 | zero =>
  intro f w _ hf _;obtain ⟨f,rfl⟩:∃g,f=g+1:=⟨f-1,by omega⟩;rw[j0k];simp[tfd,beI]
 | succ k ih =>
  intro f w hk hf hl;obtain ⟨f,rfl⟩:∃g,f=g+1:=⟨f-1,by omega⟩;rw[j0k];have h1:(0:Int)<=8*(((k+1:Nat):Int)-1):=by omega
  have h2:¬(8*(((k+1:Nat):Int)-1)<(0:Int)):=by omega
  have h3:(w.length+1)*1<=140737488355328:=by omega
  simp only[tfd,q0z h1,q0n h2,q0z h3];have e1:wrap .i64 (8*(((k+1:Nat):Int)-1)-8)=8*((k:Int)-1):=by rw[w64 (by omega) (by omega)];omega
  have e2:wrap .u8 (shrI .u64 x (8*(((k+1:Nat):Int)-1)))=x / 256^k % 256:=by
   rw[y0y];congr 1;have:min (8*(((k+1:Nat):Int)-1)).toNat IntKind.u64.bits=8*k:=by
    have:(8*(((k+1:Nat):Int)-1)).toNat=8*k:=by omega
    rw[this];show min (8*k) 64=8*k;omega
   simp only[shrI,this,two_pow8];exact Int.fdiv_eq_ediv_of_nonneg _ (Int.le_of_lt (Int.pow_pos (by decide)))
  rw[e1,e2,ih f _ (by omega) (by omega) (by simp;omega)];simp[beI]
theorem c0e (n:Nat)(w:List Int)(k:Nat)(width x:Int)(hw:width=k)(hk:1<=k)(hk':k<=8)(hl:w.length+k<=1000000) :
  a0t (n+1) w width x=some (w++beI k x):=by
 subst hw;rw[w0f];have h1:¬((k:Int)<1):=by omega
 have h2:¬((8:Int)<k):=by omega
 have e:wrap .i64 (8*wrap .i64 ((k:Int)-1))=8*((k:Int)-1):=by
  rw[w64 (x:=(k:Int)-1) (by omega) (by omega),w64 (by omega) (by omega)]
 simp only[tfd,q0n h1,q0n h2,e];rw[n2u n x k a0b w hk' (by unfold a0b;omega) hl];rfl
theorem or_shl (v b:Int)(hv:0<=v)(hv':v<72057594037927936)(hb:0<=b)(hb':b<=255):orI .u64 (shlI .u64 v 8) (wrap .u64 b)=v*256+b:=by
 obtain ⟨a,rfl⟩:=Int.eq_ofNat_of_zero_le hv;obtain ⟨c,rfl⟩:=Int.eq_ofNat_of_zero_le hb;have e1:shlI .u64 (a:Int) 8=((a*256:Nat):Int):=by
  show wrap .u64 ((a:Int)*2^(min 8 64))=_;have:(2:Int)^(min 8 64)=256:=by decide
  rw[this,wu64 (by omega) (by omega)];omega
 rw[e1,wu64 (by omega) (by omega)];unfold orI;have e2:(BitVec.ofInt IntKind.u64.bits ((a*256:Nat):Int) ||| BitVec.ofInt IntKind.u64.bits (c:Int)).toNat=a*256+c:=by
  show (BitVec.ofInt 64 ((a*256:Nat):Int) ||| BitVec.ofInt 64 (c:Int)).toNat=_;rw[BitVec.toNat_or,BitVec.ofInt_natCast,BitVec.ofInt_natCast,BitVec.toNat_ofNat,BitVec.toNat_ofNat,Nat.mod_eq_of_lt (by omega),Nat.mod_eq_of_lt (by omega)];have:=Nat.two_pow_add_eq_or_of_lt (i:=8) (b:=c) (by omega) a;rw[Nat.mul_comm a 256];exact this.symm
 rw[e2,wu64 (by omega) (by omega)];omega
theorem r1o (l:List Int)(i:Nat)(h:i<l.length):valI (l.take (i+1))=valI (l.take i)*256+l[i]:=by
 rw[List.take_succ_eq_append_getElem h,valI,List.foldl_append];rfl
theorem p2w (n:Nat)(r:List UInt8×Bool)(l:List Int)(hl:l.length<=8)(hr:∀x∈l,0<=x/\x<=255):∀(m i f:Nat),m+i=l.length->m<f ->
  c0n n f (r,valI (l.take i),l,(l.length:Int),(i:Int),())=some (.inl (r,valI l,())):=by
 intro m;induction m with
 | zero =>
  intro i f hi hf;obtain ⟨f,rfl⟩:∃g,f=g+1:=⟨f-1,by omega⟩;rw[j0l];have h1:¬((i:Int)<(l.length:Int)):=by omega
  simp only[tfd,q0n h1];rw[List.take_of_length_le (by omega)]
 | succ m ih =>
  intro i f hi hf;obtain ⟨f,rfl⟩:∃g,f=g+1:=⟨f-1,by omega⟩;rw[j0l];have hlt:i<l.length:=by omega
  have h1:(i:Int)<(l.length:Int):=by omega
  have e1:at? l (i:Int)=some l[i]:=by simp[at?,hlt]
  have hb:=hr l[i] (List.getElem_mem hlt);have hv:=j1a (l:=l.take i) fun x hx=>hr x (List.mem_of_mem_take hx)
  rw[List.length_take_of_le (by omega)] at hv;have hp:=pow_le i (by omega);have e2:wrap .i64 ((i:Int)+1)=((i+1:Nat):Int):=by rw[w64 (by omega) (by omega)];omega
  simp only[tfd,q0z h1,e1,obs,e2];rw[or_shl _ _ hv.1 (by omega) hb.1 hb.2,<-r1o l i hlt];exact ih (i+1) f (by omega) (by omega)
def rd (st:List UInt8×Bool)(k:Nat):Int×(List UInt8×Bool):=if st.2=true\/st.1.length<k then (0,([],true)) else (valI (c0z (st.1.take k)),(st.1.drop k,false))
theorem a0s (n:Nat)(st:List UInt8×Bool)(k:Nat)(width:Int)(hw:width=k)(hk:1<=k)(hk':k<=8):a0e (n+3) st width=some (rd st k):=by
 subst hw;rw[w0g,p0f];simp only[x0y];have h1:¬((k:Int)<1):=by omega
 have h2:¬((8:Int)<k):=by omega
 have h3:¬((k:Int)<0):=by omega
 have e0:(k:Int).toNat=k:=by omega
 have fin:∀(s:List UInt8) (q:List UInt8×Bool),s.length<=8 ->
   (a0a (c0n (n+2) a0b (q,(0,(s.map fun y=>((y.toNat:Nat):Int)),(((s.map fun y=>((y.toNat:Nat):Int)).length:Nat):Int),0,()))) fun r5=>b0v (fun y6=>some (y6.2.1,y6.1)) (fun z7=>some z7) r5)=some (valI (c0z s),q):=by
  intro s q hs;have:=p2w (n+2) q (c0z s) (by rw[u0g];exact hs) (w0i s) s.length 0 a0b (by rw[u0g];omega) (by unfold a0b;omega);simp only[List.take_zero] at this;have hv0:valI []=0:=rfl;rw[hv0] at this;show a0a (c0n (n+2) a0b (q,0,c0z s,((c0z s).length:Int),((0:Nat):Int),())) _=_;rw[this];rfl
 simp only[tfd,q0n h1,q0n h2,q0n h3];obtain ⟨s,b⟩:=st;cases b with
 | true =>
  simp only[tft,obs];have:=fin [] ([],true) (by simp);simp only[List.map_nil] at this;rw[show rd (s,true) k=(0,([],true)) by simp[rd]];exact this
 | false =>
  simp only[tff,obs];by_cases hlt:s.length<k
  ·have h4:(s.length:Int)<k:=by omega
   rw[q0z h4];simp only[obs];have:=fin [] ([],true) (by simp);simp only[List.map_nil] at this;rw[show rd (s,false) k=(0,([],true)) by simp[rd,hlt]];exact this
  ·have h4:¬((s.length:Int)<k):=by omega
   have h5:(0:Int)<=k:=by omega
   have h6:(k:Int)<=(s.length:Int):=by omega
   have h7:k<=s.length:=by omega
   simp only[q0n h4,u0z,tfd,q0z h5,q0z h6,e0,q0z h7,obs];rw[show rd (s,false) k=(valI (c0z (s.take k)),(s.drop k,false)) by simp[rd,hlt]];rw[List.drop_zero,List.take_length];exact fin (s.take k) (s.drop k,false) (by simp;omega)
def bts (c:Conf):List Int :=
 beI 4 c.1++(beI 8 c.2.1.1++(beI 8 c.2.1.2.1++(beI 8 c.2.1.2.2++(beI 4 c.2.2.1.1++(beI 4 c.2.2.1.2.1++(beI 4 c.2.2.1.2.2++(beI 4 c.2.2.2.1++(beI 4 c.2.2.2.2++beI 8 0))))))))
theorem n2k (c:Conf):(bts c).length=56:=by simp[bts,c0o]
theorem bytes_ok (n:Nat){c:Conf}(h:OkC c):f1f (n+4) c=some (toB (bts c)):=by
 rw[v1g,n0m n h];obtain ⟨⟨raw,cap,log,w0,w1,w2,n0,n1,n2⟩,_⟩:=h;simp only[obs,tfd,tfn];rw[q0z trivial];rw[wu64 (x:=c.1) (by omega) (by omega),wu64 (x:=c.2.1.1) (by omega) (by omega),wu64 (x:=c.2.1.2.1) (by omega) (by omega),wu64 (x:=c.2.1.2.2) (by omega) (by omega),wu64 (x:=c.2.2.1.1) (by omega) (by omega),
  wu64 (x:=c.2.2.1.2.1) (by omega) (by omega),wu64 (x:=c.2.2.1.2.2) (by omega) (by omega),wu64 (x:=c.2.2.2.1) (by omega) (by omega),wu64 (x:=c.2.2.2.2) (by omega) (by omega)]
 rw[c0e _ _ 4 4 _ rfl (by omega) (by omega) (by simp)];simp only[obs];rw[c0e _ _ 8 8 _ rfl (by omega) (by omega) (by simp[c0o])];simp only[obs];rw[c0e _ _ 8 8 _ rfl (by omega) (by omega) (by simp[c0o])];simp only[obs];rw[c0e _ _ 8 8 _ rfl (by omega) (by omega) (by simp[c0o])];simp only[obs];rw[c0e _ _ 4 4 _ rfl (by omega) (by omega) (by simp[c0o])];simp only[obs];rw[c0e _ _ 4 4 _ rfl (by omega) (by omega) (by simp[c0o])];simp only[obs]
 rw[c0e _ _ 4 4 _ rfl (by omega) (by omega) (by simp[c0o])];simp only[obs];rw[c0e _ _ 4 4 _ rfl (by omega) (by omega) (by simp[c0o])];simp only[obs];rw[c0e _ _ 4 4 _ rfl (by omega) (by omega) (by simp[c0o])];simp only[obs];rw[c0e _ _ 8 8 _ rfl (by omega) (by omega) (by simp[c0o])];simp only[obs];rw[p0e];simp only[obs,q3p,q3e];rfl
theorem e1d (k:Nat)(v:Int)(t:List UInt8):rd (toB (beI k v)++t,false) k=(v % 256^k,(t,false)):=by
 have hl:(toB (beI k v)).length=k:=by rw[h0e,c0o]
 unfold rd;rw[q0n (by simp[hl])];have h1:(toB (beI k v)++t).take k=toB (beI k v):=by rw[List.take_append_of_le_length (by omega),List.take_of_length_le (by omega)]
 have h2:(toB (beI k v)++t).drop k=t:=by rw[List.drop_append_of_le_length (by omega),List.drop_of_length_le (by omega)];rfl
 rw[h1,h2,q1e (v2d v k),val_be]
theorem rd_good {st:List UInt8×Bool}{k:Nat}(h:(rd st k).2.2=false):st.2=false/\st.1=toB (beI k (rd st k).1)++(rd st k).2.1/\0<=(rd st k).1/\(rd st k).1<256^k:=by
 unfold rd at h ⊢;split at h
 ·cases h
 ·rename_i hn;rw[q0n hn];simp only[not_or,Nat.not_lt,Bool.not_eq_true] at hn;have hl:(c0z (st.1.take k)).length=k:=by rw[u0g,q3x];omega
  have hv:=j1a (w0i (st.1.take k));rw[hl] at hv;refine ⟨hn.1,?_,hv⟩;dsimp only;rw[v2c (w0i _) hl,w0p,q4b]
theorem rd_range (st:List UInt8×Bool)(k:Nat):0<=(rd st k).1/\(rd st k).1<256^k:=by
 cases h:(rd st k).2.2 with
 | false=>exact (rd_good h).2.2
 | true =>
  unfold rd at h ⊢;split
  ·exact ⟨by simp,Int.pow_pos (by decide)⟩
  ·rename_i hn;rw[q0n hn] at h;cases h
def q0 (s:List UInt8):=rd (s,false) 4
def q1 (s:List UInt8):=rd (q0 s).2 8
def q2 (s:List UInt8):=rd (q1 s).2 8
def q3 (s:List UInt8):=rd (q2 s).2 8
def q4 (s:List UInt8):=rd (q3 s).2 4
def q5 (s:List UInt8):=rd (q4 s).2 4
def q6 (s:List UInt8):=rd (q5 s).2 4
def q7 (s:List UInt8):=rd (q6 s).2 4
def q8 (s:List UInt8):=rd (q7 s).2 4
def q9 (s:List UInt8):=rd (q8 s).2 8
def cfg (s:List UInt8):Conf:=(wrap .i64 (q0 s).1,((wrap .i64 (q1 s).1,(wrap .i64 (q2 s).1,wrap .i64 (q3 s).1)),((wrap .i64 (q4 s).1,(wrap .i64 (q5 s).1,wrap .i64 (q6 s).1)),(wrap .i64 (q7 s).1,wrap .i64 (q8 s).1))))
def cfg0:Conf:=(0,((0,(0,0)),((0,(0,0)),(0,0))))
structure Full (s:List UInt8):Prop where
 z:(q9 s).1=0
 good:(q9 s).2.2=false
 left:(q9 s).2.1=[]
theorem u2m {c:Conf}(hr:Rng c):cfg (toB (bts c))=c/\Full (toB (bts c)):=by
 obtain ⟨raw,cap,log,w0,w1,w2,n0,n1,n2⟩:=hr;have p4:(256:Int)^4=4294967296:=by decide
 have p8:(256:Int)^8=18446744073709551616:=by decide
 have e:toB (bts c)=toB (beI 4 c.1)++(toB (beI 8 c.2.1.1)++(toB (beI 8 c.2.1.2.1)++(toB (beI 8 c.2.1.2.2)++(toB (beI 4 c.2.2.1.1)++(toB (beI 4 c.2.2.1.2.1)++(toB (beI 4 c.2.2.1.2.2)++(toB (beI 4 c.2.2.2.1)++(toB (beI 4 c.2.2.2.2)++(toB (beI 8 0)++[]))))))))):=by
  simp only[bts,j2h,q3v]
 rw[e];generalize hs:toB (beI 4 c.1)++_=s;have a0:q0 s=(c.1,(toB (beI 8 c.2.1.1)++(toB (beI 8 c.2.1.2.1)++(toB (beI 8 c.2.1.2.2)++(toB (beI 4 c.2.2.1.1)++(toB (beI 4 c.2.2.1.2.1)++(toB (beI 4 c.2.2.1.2.2)++(toB (beI 4 c.2.2.2.1)++(toB (beI 4 c.2.2.2.2)++(toB (beI 8 0)++[])))))))),false)):=by
  unfold q0;rw[<-hs,e1d,p4,Int.emod_eq_of_lt (by omega) (by omega)]
 have a1:q1 s=(c.2.1.1,(toB (beI 8 c.2.1.2.1)++(toB (beI 8 c.2.1.2.2)++(toB (beI 4 c.2.2.1.1)++(toB (beI 4 c.2.2.1.2.1)++(toB (beI 4 c.2.2.1.2.2)++(toB (beI 4 c.2.2.2.1)++(toB (beI 4 c.2.2.2.2)++(toB (beI 8 0)++[]))))))),false)):=by
  unfold q1;rw[a0,e1d,p8,Int.emod_eq_of_lt (by omega) (by omega)]
 have a2:q2 s=(c.2.1.2.1,(toB (beI 8 c.2.1.2.2)++(toB (beI 4 c.2.2.1.1)++(toB (beI 4 c.2.2.1.2.1)++(toB (beI 4 c.2.2.1.2.2)++(toB (beI 4 c.2.2.2.1)++(toB (beI 4 c.2.2.2.2)++(toB (beI 8 0)++[])))))),false)):=by
  unfold q2;rw[a1,e1d,p8,Int.emod_eq_of_lt (by omega) (by omega)]
 have a3:q3 s=(c.2.1.2.2,(toB (beI 4 c.2.2.1.1)++(toB (beI 4 c.2.2.1.2.1)++(toB (beI 4 c.2.2.1.2.2)++(toB (beI 4 c.2.2.2.1)++(toB (beI 4 c.2.2.2.2)++(toB (beI 8 0)++[]))))),false)):=by
  unfold q3;rw[a2,e1d,p8,Int.emod_eq_of_lt (by omega) (by omega)]
 have a4:q4 s=(c.2.2.1.1,(toB (beI 4 c.2.2.1.2.1)++(toB (beI 4 c.2.2.1.2.2)++(toB (beI 4 c.2.2.2.1)++(toB (beI 4 c.2.2.2.2)++(toB (beI 8 0)++[])))),false)):=by
  unfold q4;rw[a3,e1d,p4,Int.emod_eq_of_lt (by omega) (by omega)]
 have a5:q5 s=(c.2.2.1.2.1,(toB (beI 4 c.2.2.1.2.2)++(toB (beI 4 c.2.2.2.1)++(toB (beI 4 c.2.2.2.2)++(toB (beI 8 0)++[]))),false)):=by
  unfold q5;rw[a4,e1d,p4,Int.emod_eq_of_lt (by omega) (by omega)]
 have a6:q6 s=(c.2.2.1.2.2,(toB (beI 4 c.2.2.2.1)++(toB (beI 4 c.2.2.2.2)++(toB (beI 8 0)++[])),false)):=by
  unfold q6;rw[a5,e1d,p4,Int.emod_eq_of_lt (by omega) (by omega)]
 have a7:q7 s=(c.2.2.2.1,(toB (beI 4 c.2.2.2.2)++(toB (beI 8 0)++[]),false)):=by
  unfold q7;rw[a6,e1d,p4,Int.emod_eq_of_lt (by omega) (by omega)]
 have a8:q8 s=(c.2.2.2.2,(toB (beI 8 0)++[],false)):=by
  unfold q8;rw[a7,e1d,p4,Int.emod_eq_of_lt (by omega) (by omega)]
 have a9:q9 s=(0,([],false)):=by
  unfold q9;rw[a8,e1d,p8];rfl
 refine ⟨?_,by rw[a9],by rw[a9],by rw[a9]⟩;unfold cfg;rw[a0,a1,a2,a3,a4,a5,a6,a7,a8];dsimp only;rw[w64 (x:=c.1) (by omega) (by omega),w64 (x:=c.2.1.1) (by omega) (by omega),w64 (x:=c.2.1.2.1) (by omega) (by omega),w64 (x:=c.2.1.2.2) (by omega) (by omega),w64 (x:=c.2.2.1.1) (by omega) (by omega),
  w64 (x:=c.2.2.1.2.1) (by omega) (by omega),w64 (x:=c.2.2.1.2.2) (by omega) (by omega),w64 (x:=c.2.2.2.1) (by omega) (by omega),w64 (x:=c.2.2.2.2) (by omega) (by omega)]
theorem x1n (n:Nat)(s:List UInt8):w0e (n+4) s =
  (if (q9 s).1=0 then tif (q9 s).2.2 (some (cfg0,4)) (if (0:Int)<(((q9 s).2.1.length:Nat):Int) then some (cfg0,4) else
   a0a (c0l (n+3) (cfg s)) fun r13=>if r13=0 then some (cfg s,0) else some (cfg0,4)) else some (cfg0,4)):=by
 rw[a2c,g0a];simp only[obs];rw[a0s n _ 4 4 rfl (by omega) (by omega)];simp only[obs];rw[a0s n _ 8 8 rfl (by omega) (by omega)];simp only[obs];rw[a0s n _ 8 8 rfl (by omega) (by omega)];simp only[obs];rw[a0s n _ 8 8 rfl (by omega) (by omega)];simp only[obs];rw[a0s n _ 4 4 rfl (by omega) (by omega)];simp only[obs];rw[a0s n _ 4 4 rfl (by omega) (by omega)];simp only[obs];rw[a0s n _ 4 4 rfl (by omega) (by omega)];simp only[obs];rw[a0s n _ 4 4 rfl (by omega) (by omega)];simp only[obs]
 rw[a0s n _ 4 4 rfl (by omega) (by omega)];simp only[obs];rw[a0s n _ 8 8 rfl (by omega) (by omega)];simp only[obs,j0a,m0z,tfd,tfn];rfl
theorem read_yes (n:Nat){s:List UInt8}(h:OkC (cfg s))(hf:Full s):w0e (n+4) s=some (cfg s,0):=by
 rw[x1n,q0z hf.z,hf.good,hf.left,n0m n h];rfl
theorem read_no (n:Nat){s:List UInt8}(h:¬(OkC (cfg s)/\Full s)):w0e (n+4) s=some (cfg0,4):=by
 rw[x1n];by_cases h1:(q9 s).1=0
 case neg=>rw[q0n h1]
 rw[q0z h1];cases h2:(q9 s).2.2 with
 | true=>rfl
 | false =>
  simp only[tff];by_cases h3:(q9 s).2.1=[]
  ·rw[h3];have hno:¬OkC (cfg s):=fun hc=>h ⟨hc,h1,h2,h3⟩
   rw[v1j n hno];rfl
  ·rw[q0z];have:0<(q9 s).2.1.length:=List.length_pos_iff.2 h3;omega
abbrev Lab:=List UInt8×List UInt8
def sgn (c:Int):Prop:=(97<=c/\c<=122)\/(65<=c/\c<=90)\/(48<=c/\c<=57)\/c=95
instance (c:Int):Decidable (sgn c):=by unfold sgn;infer_instance
def l1k (c:Int):Prop:=48<=c/\c<=57
instance (c:Int):Decidable (l1k c):=by unfold l1k;infer_instance
def w0k:List UInt8->Prop
 | []=>False
 | b::r=>(b::r).length<=64/\¬l1k (b.toNat:Int)/\∀x∈b::r,sgn (x.toNat:Int)
instance:(s:List UInt8)->Decidable (w0k s)
 | [] => .isFalse id
 | b::r=>by unfold w0k;infer_instance
theorem low_all:∀c:Fin 256,(97<=orI .u8 (c.val:Int) 32/\orI .u8 (c.val:Int) 32<=122)↔((97<=(c.val:Int)/\(c.val:Int)<=122)\/(65<=(c.val:Int)/\(c.val:Int)<=90)):=by decide +kernel
theorem low (c:Int)(h:0<=c/\c<=255):(97<=orI .u8 c 32/\orI .u8 c 32<=122)↔((97<=c/\c<=122)\/(65<=c/\c<=90)):=by
 obtain ⟨k,rfl⟩:=Int.eq_ofNat_of_zero_le h.1;exact low_all ⟨k,by omega⟩
theorem v0w (n:Nat)(c:Int):t0s (n+1) c=some (decide (l1k c)):=by
 rw[n1e];unfold l1k;by_cases h1:(48:Int)<=c<;>by_cases h2:c<=57<;>simp[h1,h2]
theorem n1a (n:Nat)(c:Int)(h:0<=c/\c<=255):e1s (n+2) c=some (decide (sgn c)):=by
 rw[t1q,v0w];simp only[obs,tfd];have hl:=low c h;by_cases h1:l1k c
 ·rw[q0z h1,q2g (show sgn c from .inr (.inr (.inl h1)))]
 rw[q0n h1];by_cases h2:c=95
 ·rw[q0z h2,q2g (show sgn c from .inr (.inr (.inr h2)))]
 rw[q0n h2];by_cases h3:97<=orI .u8 c 32
 ·rw[q0z h3];refine congrArg some (q3r.2 ?_);constructor
  ·intro k;rcases hl.1 ⟨h3,k⟩ with q | q
   ·exact .inl q
   ·exact .inr (.inl q)
  ·intro k;rcases k with k | k | k | k
   ·exact (hl.2 (.inl k)).2
   ·exact (hl.2 (.inr k)).2
   ·exact absurd k h1
   ·exact absurd k h2
 ·rw[q0n h3,q1z];intro k;rcases k with k | k | k | k
  ·exact h3 (hl.2 (.inl k)).1
  ·exact h3 (hl.2 (.inr k)).1
  ·exact h1 k
  ·exact h2 k
theorem m2d (n:Nat){del:Int×Unit->Option Bool}{p:Int->Bool}(l:List Int)(hL:l.length<=1000000000000)(hd:∀x∈l,del (x,())=some (p x)):∀(rest pre:List Int) (f:Nat) (i len:Int),l=pre++rest->i=pre.length->len=l.length->rest.length<f ->
  (d0n n f (l,del,len,i,())=some (.inl ())/\∀x∈rest,p x=false) \/
  (∃k:Int,0<=k/\d0n n f (l,del,len,i,())=some (.inr k)/\∃x∈rest,p x=true):=by
 intro rest;induction rest with
 | nil =>
  intro pre f i len hl hi hn hf;obtain ⟨f,rfl⟩:=FSu hf;rw[j0q];exact .inl ⟨by simp only[tfd,q0n (idxe hl hi hn)],by simp⟩
 | cons x rest ih =>
  intro pre f i len hl hi hn hf;obtain ⟨f,rfl⟩:=FSu hf;rw[j0q];simp only[tfd,q0z (idx hl hi hn),c0c hl hi,obs,hd x (by rw[hl];simp),idxw hl hi hL];cases hp:p x with
  | true=>exact .inr ⟨i,by omega,by simp,x,by simp,hp⟩
  | false =>
   rw[tff];rcases ih (pre++[x]) f (i+1) len (idxl hl) (idxs hi) hn (by simp at hf;omega) with ⟨h1,h2⟩ | ⟨k,h1,h2,y,hy,h3⟩
   ·exact .inl ⟨h1,by intro z hz;rcases q3k.1 hz with rfl | hz;exact hp;exact h2 z hz⟩
   ·exact .inr ⟨k,h1,h2,y,by simp[hy],h3⟩
theorem v1c (n:Nat){del:Int×Unit->Option Bool}{p:Int->Bool}(l:List Int)(hL:l.length<=1000000000000)(hd:∀x∈l,del (x,())=some (p x)):i0k (n+2) l del=some (l.any p):=by
 rw[s0w,x0u];rcases m2d n l hL hd l [] a0b 0 l.length rfl rfl rfl (by unfold a0b;omega) with ⟨h1,h2⟩ | ⟨k,h1,h2,x,hx,h3⟩
 ·rw[h1];have:l.any p=false:=by rw[List.any_eq_false];intro x hx;simp[h2 x hx]
  rw[this];rfl
 ·rw[h2];have:l.any p=true:=List.any_eq_true.2 ⟨x,hx,h3⟩;simp[this,h1]
theorem n1d (n:Nat)(s:List UInt8):e1t (n+5) s=some (decide (w0k s)):=by
 rw[t1t]
 match s with
 | []=>rfl
 | b::r =>
  have e1:((b::r)==[])=false:=rfl;have e2:at? (b::r) (0:Int)=some b:=rfl;rw[e1,tff,e2,obs,v0w,obs];simp only[tfd];by_cases h1:(64:Int)<(b::r).length
  ·rw[q0z h1,q1z (fun k:w0k (b::r)=>by have:=k.1;omega)]
  rw[q0n h1];by_cases h2:l1k (b.toNat:Int)
  ·rw[q0z h2,q1z (fun k:w0k (b::r)=>k.2.1 h2)]
  rw[q0n h2,v1c (p:=fun c => !decide (sgn c)) (n+2) _ (by simp at h1 ⊢;omega) (fun x hx=>by
   obtain ⟨c,_,rfl⟩:=q4g.1 hx;have:=c.toNat_lt;show v0v (n+3+1) _=_
   rw[k1y,n1a (n+1) _ (by omega)];rfl)]
  simp only[obs];refine congrArg some ?_;by_cases h3:∀x∈b::r,sgn (x.toNat:Int)
  ·rw[q2g (show w0k (b::r) from ⟨by omega,h2,h3⟩)];rw[List.any_eq_false.2]
   ·rfl
   ·intro x hx;obtain ⟨c,hc,rfl⟩:=q4g.1 hx;simp[h3 c hc]
  ·rw[q1z (fun k:w0k (b::r)=>h3 k.2.2)];have:∃x∈b::r,¬sgn (x.toNat:Int):=Classical.byContradiction fun k=>h3 fun x hx=>Classical.byContradiction fun q=>k ⟨x,hx,q⟩
   obtain ⟨x,hx,hq⟩:=this;rw[List.any_eq_true.2 ⟨(x.toNat:Int),q4g.2 ⟨x,hx,rfl⟩,by simp[hq]⟩];rfl
def chkL:Option (List UInt8)->List Lab->Prop
 | _,[]=>True
 | p,x::r=>w0k x.1/\x.2.length<=128/\(∀q,p=some q->Op.bytesLess q x.1=true)/\chkL (some x.1) r
def sumL (l:List Lab):Int:=(l.map fun x=>((x.1.length:Int)+x.2.length)).sum
theorem o2u (l:List Lab):0<=sumL l:=by
 induction l with
 | nil=>simp[sumL]
 | cons x l ih=>simp only[sumL,q4i,List.sum_cons] at *;omega
theorem j1n (x:Lab)(l:List Lab):sumL (x::l)=x.1.length+x.2.length+sumL l:=by simp[sumL]
theorem w0k.len {s:List UInt8}(h:w0k s):s.length<=64:=by
 match s with
 | []=>simp
 | b::r=>exact h.1
structure LabOk (l:List Lab):Prop where
 n0:1<=l.length
 n1:l.length<=16
 c:chkL none l
 t:sumL l<=256
noncomputable instance (l:List Lab):Decidable (LabOk l):=Classical.propDecidable _
theorem prev_at {l pre rest:List Lab}{x:Lab}{i:Int}(hl:l=pre++x::rest)(hi:i=pre.length)(hL:l.length<=1000000)(h:0<i):∃q,pre.getLast? = some q/\at? l (wrap .i64 (i-1))=some q:=by
 rcases List.eq_nil_or_concat pre with rfl | ⟨q,y,rfl⟩
 ·simp at hi;omega
 rw[List.concat_eq_append] at *
 have hlen:=congrArg List.length hl;simp at hlen hi;refine ⟨y,by simp,?_⟩;rw[w64 (by omega) (by omega)];exact c0c (pre:=q) (rest:=x::rest) (by rw[hl];simp) (by omega)
theorem t1u (n:Nat)(l:List Lab)(hL:l.length<=16):∀(rest pre:List Lab) (f:Nat) (left i len:Int),l=pre++rest->i=pre.length->len=l.length->rest.length<f->0<=left->left<=256 ->
  (chkL (pre.getLast?.map (·.1)) rest/\sumL rest<=left->g0i (n+5) f (l,left,l,len,i,())=some (.inl ())) /\
  (¬(chkL (pre.getLast?.map (·.1)) rest/\sumL rest<=left)->g0i (n+5) f (l,left,l,len,i,())=some (.inr 8)):=by
 intro rest;induction rest with
 | nil =>
  intro pre f left i len hl hi hn hf h0 h1;obtain ⟨f,rfl⟩:=FSu hf;rw[r0r];refine ⟨fun _=>by simp only[tfd,q0n (idxe hl hi hn)],fun k=>absurd ⟨trivial,by simpa [sumL] using h0⟩ k⟩
 | cons x rest ih =>
  intro pre f left i len hl hi hn hf h0 h1;obtain ⟨f,rfl⟩:=FSu hf;rw[r0r];have hsn:=o2u rest;simp only[tfd,tfn,q0z (idx hl hi hn),c0c hl hi,obs,idxw hl hi (by omega),n1d n x.1];rw[j1n];by_cases c1:w0k x.1
  case neg=>rw[q0n c1];exact ⟨fun k=>absurd k.1.1 c1,fun _=>rfl⟩
  rw[q0z c1];have hn1:=c1.len;by_cases c2:(128:Int)<x.2.length
  ·rw[q0z c2];exact ⟨fun k=>by have:=k.1.2.1;omega,fun _=>rfl⟩
  rw[q0n c2,w64 (x:=(x.1.length:Int)+x.2.length) (by omega) (by omega),w64 (x:=left-((x.1.length:Int)+x.2.length)) (by omega) (by omega)];by_cases c3:left-((x.1.length:Int)+x.2.length)<0
  ·rw[q0z c3];exact ⟨fun k=>by have:=k.2;omega,fun _=>rfl⟩
  rw[q0n c3];have ih':=ih (pre++[x]) f (left-((x.1.length:Int)+x.2.length)) (i+1) len (idxl hl) (idxs hi) hn (by simp at hf;omega) (by omega) (by omega);have el:(pre++[x]).getLast?.map (·.1)=some x.1:=by simp
  rw[el] at ih';have step:(∀q,pre.getLast?.map (·.1)=some q->Op.bytesLess q x.1=true) ->
    ((chkL (pre.getLast?.map (·.1)) (x::rest)/\(x.1.length:Int)+x.2.length+sumL rest<=left)↔(chkL (some x.1) rest/\sumL rest<=left-((x.1.length:Int)+x.2.length))):=by
   intro hq;constructor
   ·rintro ⟨k1,k2⟩;exact ⟨k1.2.2.2,by omega⟩
   ·rintro ⟨k1,k2⟩;exact ⟨⟨c1,by omega,hq,k1⟩,by omega⟩
  by_cases c4:0<i
  ·obtain ⟨q,hq,hat⟩:=prev_at hl hi (by omega) c4;rw[q0z c4,hat,obs];by_cases c5:Op.bytesLess q.1 x.1=true
   ·rw[c5,tft,step (fun z hz=>by rw[hq] at hz;simp at hz;rw[<-hz];exact c5)];exact ih'
   ·have c5':Op.bytesLess q.1 x.1=false:=by simpa using c5
    rw[c5',tff];exact ⟨fun k=>absurd (k.1.2.2.1 q.1 (by rw[hq];rfl)) c5,fun _=>rfl⟩
  ·have hp:pre=[]:=List.length_eq_zero_iff.1 (by omega);rw[q0n c4,step (fun z hz=>by rw[hp] at hz;cases hz)];exact ih'
theorem i0y (n:Nat)(l:List Lab):f0x (n+6) l=some (if LabOk l then 0 else 8):=by
 rw[n1h];simp only[tfd];by_cases h1:(l.length:Int)=0
 ·rw[q0z h1,q0n (fun k:LabOk l=>by have:=k.n0;omega)]
 by_cases h2:(16:Int)<l.length
 ·rw[q0n h1,q0z h2,q0n (fun k:LabOk l=>by have:=k.n1;omega)]
 rw[q0n h1,q0n h2];have hl:=t1u n l (by omega) l [] a0b 256 0 l.length rfl rfl rfl (by unfold a0b;omega) (by decide) (by decide);by_cases h3:chkL none l/\sumL l<=256
 ·rw[hl.1 h3,q0z (⟨by omega,by omega,h3.1,h3.2⟩:LabOk l)];rfl
 ·rw[hl.2 h3,q0n (fun k:LabOk l=>h3 ⟨k.c,k.t⟩)];rfl
theorem labEq (a b:Lab):((a.1==b.1)&&(a.2==b.2))=decide (a=b):=by
 rw[Bool.eq_iff_iff];simp[Prod.ext_iff]
theorem t0x {d f:Nat}(h:d<f):∃g,f=g+1:=⟨f-1,by omega⟩
theorem uint_l (n:Nat):∀(m f:Nat) (w:List Int) (v:Int),v.toNat<=m->0<=v->m<f->w.length+(uvI v).length<=140737488355328 ->
  ∃w' v',e0y n f (w,v,())=some (.inl (w',(v',())))/\w'++[v']=w++uvI v/\0<=v'/\v'<128:=by
 intro m;induction m using Nat.strongRecOn with
 | _ m ih =>
  intro f w v hm h0 hf hl;obtain ⟨f,rfl⟩:=t0x hf;rw[u0e,tfd];by_cases h:v<128
  ·rw[q0n (by omega)];exact ⟨w,v,rfl,by rw[w1g h0 h],h0,h⟩
  ·rw[q1t h0 h] at hl;simp only[q3i] at hl;rw[q0z (by omega),q2g (show (w.length+1)*1<=140737488355328 by omega),tft,or128,shr7 h0];obtain ⟨w',v',e1,e2,e3,e4⟩:=ih (v / 128).toNat (by omega) f (w++[v % 128+128]) (v / 128) (q3c _) (by omega) (by omega) (by simp only[q3b,List.length_singleton];omega);exact ⟨w',v',e1,by rw[e2,q1t h0 h];simp,e3,e4⟩
theorem f2z (n:Nat){v:Int}(h0:0<=v)(h1:v<=18446744073709551615){w:List Int}(hl:w.length+(uvI v).length<=140737488355328):h0y (n+1) w v=some (w++uvI v):=by
 obtain ⟨w',v',e1,e2,e3,e4⟩:=uint_l n v.toNat a0b w v (q3c _) h0 (by unfold a0b;omega) hl;have hlen:w'.length+1<=140737488355328:=by
  have:=congrArg List.length e2;simp only[q3b,List.length_singleton] at this;omega
 rw[x0w,e1,obs,a0r,q2g (show (w'.length+1)*1<=140737488355328 by omega),tft,y0y,Int.emod_eq_of_lt e3 (by omega),e2]
theorem b2e:∀(m:Nat) (v:Int),v.toNat<=m->0<=v->(uvI v).length<=v.toNat+1:=by
 intro m;induction m using Nat.strongRecOn with
 | _ m ih =>
  intro v hm h0;by_cases h:v<128
  ·rw[w1g h0 h];simp
  ·rw[q1t h0 h];have:=ih (v / 128).toNat (by omega) (v / 128) (q3c _) (by omega);simp only[q3i];omega
theorem f1j (a b:List UInt8):c0z (a++b)=c0z a++c0z b:=by simp[c0z]
theorem l0j (a:List UInt8):(c0z a).length=a.length:=by simp[c0z]
theorem b2d (n:Nat):uvI (n:Int)=c0z (uvB n):=by unfold uvI;rw[q3g]
theorem o2g {s:List UInt8}(h:s.length<=256):(txB s).length<=1000:=by
 have:=b2e s.length (s.length:Int) (by simp) (by omega);rw[b2d,l0j] at this;unfold txB;rw[q3b];simp at this;omega
theorem s1k (n:Nat){w:List Int}{s:List UInt8}(h:w.length+s.length<=140737488355328):e0g (n+1) w s=some (w++c0z s):=by
 rw[a1g,List.length_map,q2g (show (w.length+s.length)*1<=140737488355328 by omega),tft];rfl
theorem g2b (n:Nat){w:List Int}{s:List UInt8}(hs:s.length<=256)(h:w.length<=1000000):i0a (n+2) w s=some (w++c0z (txB s)):=by
 have h1:=b2e s.length (s.length:Int) (by simp) (by omega);have h2:(s.length:Int).toNat=s.length:=by simp
 rw[x0x,wu64 (by omega) (by omega),f2z n (by omega) (by omega) (by omega),obs,s1k n (by rw[q3b];omega),obs,q3e,b2d,<-f1j];rfl
theorem k1o (n:Nat)(w:List Int):c0y (n+1) w=some (toB w,w):=by rw[p0e];rfl
theorem lab_len {l:List Lab}(h:LabOk l):∀x∈l,x.1.length<=256/\x.2.length<=256:=by
 have key:∀l:List Lab,∀x∈l,(x.1.length:Int)+x.2.length<=sumL l:=by
  intro l;induction l with
  | nil=>intro x hx;cases hx
  | cons y l ih =>
   intro x hx;rw[j1n];have:=o2u l;rcases q3k.1 hx with rfl | hx
   ·omega
   ·have:=ih x hx;omega
 intro x hx;have:=key l x hx;have:=h.t;omega
theorem bytes_l (n:Nat){l:List Lab}(hl:LabOk l):∀(rest pre:List Lab) (f:Nat) (w:List Int) (ix len:Int),l=pre++rest->ix=pre.length->len=l.length->rest.length<f->w.length+2000*rest.length<=100000 ->
  l0n (n+2) f (w,l,len,ix,())=some (.inl (w++c0z (rest.flatMap fun x=>txB x.1++txB x.2),())):=by
 intro rest;induction rest with
 | nil =>
  intro pre f w ix len ha hi hn hf hw;obtain ⟨f,rfl⟩:=t0x hf;rw[r0s,q1z (idxe ha hi hn),tff];simp[c0z]
 | cons x r ih =>
  intro pre f w ix len ha hi hn hf hw;obtain ⟨f,rfl⟩:=t0x hf;simp only[q3i] at hw;obtain ⟨k1,k2⟩:=lab_len hl x (by rw[ha];simp);have t1:=o2g k1;have t2:=o2g k2;have hL:l.length<=1000000000000:=by have:=hl.n1;omega
  rw[r0s,q2g (idx ha hi hn),tft,c0c ha hi,obs,g2b n k1 (by omega),obs,g2b n k2 (by rw[q3b,l0j];omega),obs,idxw ha hi hL];rw[ih (pre++[x]) f _ (ix+1) len (idxl ha) (idxs hi) hn (by simp at hf;omega) (by simp only[q3b,l0j];omega)];simp only[q4h,f1j,q3e]
theorem e2e (n:Nat)(l:List Lab):z0u (n+7) l=some (if LabOk l then (labB l,0) else ([],8)):=by
 rw[n1i,i0y n l,obs,tfn,tfd];by_cases h:LabOk l
 case neg=>rw[q0n h,q0n h,q0n (by decide)]
 rw[q0z h,q0z h,q0z rfl];have hn:=h.n1;have h1:=b2e l.length (l.length:Int) (by simp) (by omega);have h2:(l.length:Int).toNat=l.length:=by simp
 rw[wu64 (by omega) (by omega),f2z (n+5) (by omega) (by omega) (by simp only[List.length_nil];omega),obs,bytes_l (n+4) h l [] a0b _ 0 _ rfl rfl rfl (by unfold a0b;omega) (by simp only[q3p];omega),obs,a0r,k1o (n+5),obs];rw[q3p,b2d,<-f1j,w0p];rfl
end Go.Proofs.YtagnkfbpgkckiaaGreatDoor
namespace Go.Plim
variable {α:Type}
def Srt (key:α->Int)(d:List α)(a b:Nat):Prop:=∀i j x y,a<=i->i<j->j<b->d[i]? = some x->d[j]? = some y->key x<=key y
structure Mv (d d':List α)(a b:Nat):Prop where
 perm:d'.Perm d
 out:∀i,(i<a\/b<=i)->d'[i]? = d[i]?
 ins:∀i x,a<=i->i<b->d'[i]? = some x->∃j,a<=j/\j<b/\d[j]? = some x
theorem Mv.len {d d':List α}{a b:Nat}(h:Mv d d' a b):d'.length=d.length:=h.perm.length_eq
theorem Mv.refl (d:List α)(a b:Nat):Mv d d a b:=⟨.refl _,fun _ _=>rfl,fun i x h1 h2 h=>⟨i,h1,h2,h⟩⟩
theorem Mv.trans {d d' d'':List α}{a b:Nat}(h:Mv d d' a b)(g:Mv d' d'' a b):Mv d d'' a b :=
 ⟨g.perm.trans h.perm,fun i hi=>(g.out i hi).trans (h.out i hi),fun i x h1 h2 hx=>by
  obtain ⟨j,j1,j2,hj⟩:=g.ins i x h1 h2 hx
  exact h.ins j x j1 j2 hj⟩
theorem Mv.mono {d d':List α}{a b a' b':Nat}(h:Mv d d' a b)(ha:a'<=a)(hb:b<=b'):Mv d d' a' b' :=
 ⟨h.perm,fun i hi=>h.out i (by omega),fun i x h1 h2 hx=>by
  by_cases k:a<=i/\i<b
  ·obtain ⟨j,j1,j2,hj⟩:=h.ins i x k.1 k.2 hx;exact ⟨j,by omega,by omega,hj⟩
  ·rw[h.out i (by omega)] at hx
   exact ⟨i,h1,h2,hx⟩⟩
theorem Srt.mono {key:α->Int}{d:List α}{a b a' b':Nat}(h:Srt key d a b)(ha:a<=a')(hb:b'<=b):Srt key d a' b' :=
 fun i j x y h1 h2 h3=>h i j x y (by omega) h2 (by omega)
theorem Srt.keep {key:α->Int}{d d':List α}{a b p q:Nat}(h:Srt key d p q)(m:Mv d d' a b)(hd:q<=a\/b<=p):Srt key d' p q :=
 fun i j x y h1 h2 h3 hx hy=>h i j x y h1 h2 h3 (by rw[<-m.out i (by omega)];exact hx) (by rw[<-m.out j (by omega)];exact hy)
theorem Srt.one (key:α->Int)(d:List α){a b:Nat}(h:b<=a+1):Srt key d a b:=fun i j _ _ h1 h2 h3=>by omega
theorem s0p {d:List α}{i j:Nat}{x y:α}(hi:d[i]? = some x)(hj:d[j]? = some y)(k:Nat) :
  ((d.set i y).set j x)[k]? = if k=j then some x else if k=i then some y else d[k]? := by
 have li:=(q3o.1 hi).1;have lj:=(q3o.1 hj).1;simp only[List.getElem?_set,List.length_set];by_cases e:j=k
 ·subst e;simp[lj]
 ·by_cases e':i=k
  ·subst e';simp[e,li,Ne.symm e]
  ·simp[e,e',Ne.symm e,Ne.symm e']
theorem b2s {d:List α}{i j a b:Nat}{x y:α}(hi:d[i]? = some x)(hj:d[j]? = some y)(i1:a<=i)(i2:i<b)(j1:a<=j)(j2:j<b):Mv d ((d.set i y).set j x) a b:=by
 have li:=(q3o.1 hi);have lj:=(q3o.1 hj);obtain ⟨li,rfl⟩:=li;obtain ⟨lj,rfl⟩:=lj;refine ⟨List.set_set_perm li lj,fun k hk => ?_,fun k z k1 k2 hz => ?_⟩
 ·rw[s0p hi hj,q0n (by omega),q0n (by omega)]
 ·rw[s0p hi hj] at hz;by_cases e:k=j
  ·rw[q0z e] at hz;exact ⟨i,i1,i2,by rw[<-hz,hi]⟩
  ·rw[q0n e] at hz;by_cases e':k=i
   ·rw[q0z e'] at hz;exact ⟨j,j1,j2,by rw[<-hz,hj]⟩
   ·rw[q0n e'] at hz;exact ⟨k,k1,k2,hz⟩
structure Turned (d d':List α)(a m b:Nat):Prop where
 mv:Mv d d' a b
 lo:∀i,a<=i->i<a+(b-m)->d'[i]? = d[i+(m-a)]?
 hi:∀i,a+(b-m)<=i->i<b->d'[i]? = d[i-(b-m)]?
theorem w1i {P U V S d d':List α}{a m b:Nat}(hd:d=P++(U++(V++S)))(hd':d'=P++(V++(U++S)))(ha:P.length=a)(hm:a+U.length=m)(hb:m+V.length=b):Turned d d' a m b:=by
 subst hd hd' ha hm hb;have perm:(P++(V++(U++S))).Perm (P++(U++(V++S))):=by
  refine List.Perm.append_left P ?_;rw[<-q3e,<-q3e];exact List.Perm.append_right S List.perm_append_comm
 have out:∀i,(i<P.length\/P.length+U.length+V.length<=i)->(P++(V++(U++S)))[i]? = (P++(U++(V++S)))[i]? := by
  intro i hi;rcases hi with hi | hi
  ·rw[q4a hi,q4a hi]
  ·rw[q3f (by omega),q3f (by omega),q3f (by omega),q3f (by omega),q3f (by omega),q3f (by omega)];congr 1;omega
 have lo:∀i,P.length<=i->i<P.length+(P.length+U.length+V.length-(P.length+U.length))->(P++(V++(U++S)))[i]? = (P++(U++(V++S)))[i+(P.length+U.length-P.length)]? := by
  intro i h1 h2;rw[q3f (by omega),q4a (by omega),q3f (by omega),q3f (by omega),q4a (by omega)];congr 1;omega
 have hi:∀i,P.length+(P.length+U.length+V.length-(P.length+U.length))<=i->i<P.length+U.length+V.length->(P++(V++(U++S)))[i]? = (P++(U++(V++S)))[i-(P.length+U.length+V.length-(P.length+U.length))]? := by
  intro i h1 h2;rw[q3f (by omega),q3f (by omega),q4a (by omega),q3f (by omega),q4a (by omega)];congr 1;omega
 refine ⟨⟨perm,out,fun i x h1 h2 hx => ?_⟩,lo,hi⟩;by_cases k:i<P.length+(P.length+U.length+V.length-(P.length+U.length))
 ·rw[lo i h1 k] at hx;exact ⟨_,by omega,by omega,hx⟩
 ·rw[hi i (by omega) h2] at hx;exact ⟨_,by omega,by omega,hx⟩
theorem turned_refl (d:List α){a m b:Nat}(h:(a<=m/\m=b)\/(a=m/\m<=b)):Turned d d a m b:=by
 rcases h with ⟨h1,rfl⟩ | ⟨rfl,h1⟩
 ·exact ⟨.refl _ _ _,fun i h2 h3=>by omega,fun i h2 h3=>by simp⟩
 ·exact ⟨.refl _ _ _,fun i h2 h3=>by simp,fun i h2 h3=>by omega⟩
theorem cut4 (d:List α){a m b:Nat}(h1:a<=m)(h2:m<=b)(h3:b<=d.length) :
  ∃P U V S,d=P++(U++(V++S))/\P.length=a/\a+U.length=m/\m+V.length=b:=by
 refine ⟨d.take a,(d.drop a).take (m-a),(d.drop m).take (b-m),d.drop b,?_,?_,?_,?_⟩
 ·have e1:(d.drop m).take (b-m)++d.drop b=d.drop m:=by
   conv=>rhs;rw[<-q4b (b-m) (d.drop m),q4d]
   rw[show m+(b-m)=b by omega]
  have e2:(d.drop a).take (m-a)++d.drop m=d.drop a:=by
   conv=>rhs;rw[<-q4b (m-a) (d.drop a),q4d]
   rw[show a+(m-a)=m by omega]
  rw[e1,e2,q4b]
 all_goals simp
 all_goals omega
theorem halves {key:α->Int}{d d':List α}{a m b mid s e:Nat}(h1:Srt key d a m)(h2:Srt key d m b)(t:Turned d d' s m e)
  (k1:a<=s) (k2:s<=m) (k3:m<=e) (k4:e<=b) (k5:e+s=mid+m) (hb:b<=d.length)
  (c1:∀x y,a<s->e<b->d[s-1]? = some x->d[e]? = some y->key x<=key y)
  (c2:∀x y,s<m->m<e->d[e-1]? = some x->d[s]? = some y->key x<=key y) :
  (Srt key d' a s/\Srt key d' s mid/\Srt key d' mid e/\Srt key d' e b) /\
  ∀i j x y,a<=i->i<mid->mid<=j->j<b->d'[i]? = some x->d'[j]? = some y->key x<=key y:=by
 have lo:=t.lo;have hi:=t.hi;have out:=t.mv.out;have e1:s+(e-m)=mid:=by omega
 rw[e1] at lo hi;have le1:∀ {i j x y},a<=i->i<=j->j<m->d[i]? = some x->d[j]? = some y->key x<=key y:=by
  intro i j x y q1 q2 q3 hx hy;rcases Nat.lt_or_eq_of_le q2 with q | q
  ·exact h1 i j x y q1 q q3 hx hy
  ·subst q;rw[hx] at hy;injection hy with hy;subst hy;exact Int.le_refl _
 have le2:∀ {i j x y},m<=i->i<=j->j<b->d[i]? = some x->d[j]? = some y->key x<=key y:=by
  intro i j x y q1 q2 q3 hx hy;rcases Nat.lt_or_eq_of_le q2 with q | q
  ·exact h2 i j x y q1 q q3 hx hy
  ·subst q;rw[hx] at hy;injection hy with hy;subst hy;exact Int.le_refl _
 have getm:∀i,i<d.length->∃x,d[i]? = some x:=fun i h=>⟨d[i],q2z h⟩
 refine ⟨⟨?_,?_,?_,?_⟩,?_⟩
 ·intro i j x y q1 q2 q3 hx hy;rw[out i (by omega)] at hx;rw[out j (by omega)] at hy;exact h1 i j x y q1 q2 (by omega) hx hy
 ·intro i j x y q1 q2 q3 hx hy;rw[lo i (by omega) (by omega)] at hx;rw[lo j (by omega) (by omega)] at hy;exact h2 _ _ x y (by omega) (by omega) (by omega) hx hy
 ·intro i j x y q1 q2 q3 hx hy;rw[hi i (by omega) (by omega)] at hx;rw[hi j (by omega) (by omega)] at hy;exact h1 _ _ x y (by omega) (by omega) (by omega) hx hy
 ·intro i j x y q1 q2 q3 hx hy;rw[out i (by omega)] at hx;rw[out j (by omega)] at hy;exact h2 i j x y (by omega) q2 q3 hx hy
 ·intro i j x y q1 q2 q3 q4 hx hy;by_cases r1:i<s
  ·rw[out i (by omega)] at hx;by_cases r2:j<e
   ·rw[hi j (by omega) (by omega)] at hy;exact le1 (by omega) (by omega) (by omega) hx hy
   ·rw[out j (by omega)] at hy;obtain ⟨u,hu⟩:=getm (s-1) (by omega);obtain ⟨v,hv⟩:=getm e (by omega);have:=c1 u v (by omega) (by omega) hu hv;have:=le1 (i:=i) (j:=s-1) (by omega) (by omega) (by omega) hx hu;have:=le2 (i:=e) (j:=j) (by omega) (by omega) (by omega) hv hy;omega
  ·rw[lo i (by omega) (by omega)] at hx;by_cases r2:j<e
   ·rw[hi j (by omega) (by omega)] at hy;obtain ⟨u,hu⟩:=getm (e-1) (by omega);obtain ⟨v,hv⟩:=getm s (by omega);have:=c2 u v (by omega) (by omega) hu hv;have:=le2 (i:=i+(m-s)) (j:=e-1) (by omega) (by omega) (by omega) hx hu;have:=le1 (i:=s) (j:=j-(e-m)) (by omega) (by omega) (by omega) hv hy;omega
   ·rw[out j (by omega)] at hy;exact le2 (by omega) (by omega) (by omega) hx hy
theorem Srt.join {key:α->Int}{d:List α}{a m b:Nat}(h1:Srt key d a m)(h2:Srt key d m b)(h:∀i j x y,a<=i->i<m->m<=j->j<b->d[i]? = some x->d[j]? = some y->key x<=key y):Srt key d a b:=by
 intro i j x y q1 q2 q3 hx hy;by_cases r1:j<m
 ·exact h1 i j x y q1 q2 r1 hx hy
 ·by_cases r2:m<=i
  ·exact h2 i j x y r2 q2 q3 hx hy
  ·exact h i j x y q1 (by omega) (by omega) q3 hx hy
theorem i2d {key:α->Int}{d d':List α}{a m b:Nat}(h:∀i j x y,a<=i->i<m->m<=j->j<b->d[i]? = some x->d[j]? = some y->key x<=key y)
  (t:Mv d d' a m\/Mv d d' m b):∀i j x y,a<=i->i<m->m<=j->j<b->d'[i]? = some x->d'[j]? = some y->key x<=key y:=by
 intro i j x y q1 q2 q3 q4 hx hy;rcases t with t | t
 ·obtain ⟨k,k1,k2,hk⟩:=t.ins i x q1 q2 hx;rw[t.out j (by omega)] at hy;exact h k j x y k1 k2 q3 q4 hk hy
 ·obtain ⟨k,k1,k2,hk⟩:=t.ins j y q3 q4 hy;rw[t.out i (by omega)] at hx;exact h i k x y q1 q2 k1 k2 hx hk
end Go.Plim
namespace Go.Proofs.YtagnkfbpgkckiaaGreatDoor
open Go.Flat Go.Plim
theorem g1t {α:Type}(xs:List α)(i:Nat):at? xs (i:Int)=xs[i]? := by simp[at?]
theorem wn {x:Int}{k:Nat}(h:x=k)(hk:k<=4000000000000):wrap .i64 x=(k:Int):=by rw[w64 (by omega) (by omega),h]
theorem i1p (a b:Nat)(h:a+b<=4000000000000):wrap .i64 (shrI .u64 (wrap .u64 (wrap .i64 ((a:Int)+(b:Int)))) 1)=(((a+b) / 2:Nat):Int):=by
 rw[w64 (x:=(a:Int)+b) (by omega) (by omega),wu64 (by omega) (by omega)];have e:shrI .u64 ((a:Int)+(b:Int)) 1=(((a+b) / 2:Nat):Int):=by
  show Int.fdiv ((a:Int)+b) (2^(min 1 64))=_;rw[show ((2:Int)^(min 1 64))=2 from by decide,Int.fdiv_eq_ediv_of_nonneg _ (by decide)];omega
 rw[e,w64 (by omega) (by omega)]
theorem tif_tif {α:Type}(p q:Prop)[Decidable p][Decidable q](x y:α):tif (decide p) (tif (decide q) x y) y=if p/\q then x else y:=by
 by_cases hp:p<;>by_cases hq:q<;>simp[hp,hq]
def Cmp (cmp:(a0c×(a0c×Unit))->Option Int)(key:a0c->Int):Prop:=∀x y,∃c,cmp (x,(y,()))=some c/\(c<0↔key x<key y)
section
variable {cmp:(a0c×(a0c×Unit))->Option Int}{key:a0c->Int}(hc:Cmp cmp key)
include hc
theorem ins_l4 (n:Nat)(a b:Int)(an i:Nat)(ha:a=an):∀(k f:Nat) (d:List a0c),k<=i-an->an+k<=i->k<f->i<d.length->d.length<=1000000000000 ->
  (∀p q x y,an<=p->p<q->q<=i->p≠an+k->q≠an+k->d[p]? = some x->d[q]? = some y->key x<=key y) ->
  (∀q x y,an+k<q->q<=i->d[an+k]? = some x->d[q]? = some y->key x<=key y) ->
  ∃d',w0w n f (d,a,b,cmp,(i:Int),((an+k:Nat):Int),())=some (.inl (d',a,b,cmp,(i:Int),()))/\Mv d d' an (i+1)/\Srt key d' an (i+1):=by
 subst ha;intro k;induction k with
 | zero =>
  intro f d hk hi hf hl hL h1 h2;obtain ⟨f,rfl⟩:∃g,f=g+1:=⟨f-1,by omega⟩;rw[b1g];simp only[tfd,q0n (show ¬((an:Int)<((an+0:Nat):Int)) by omega)];refine ⟨d,rfl,.refl _ _ _,fun p q x y q1 q2 q3 hx hy => ?_⟩;by_cases e:p=an+0
  ·subst e;exact h2 q x y q2 (by omega) hx hy
  ·exact h1 p q x y q1 q2 (by omega) e (by omega) hx hy
 | succ k ih =>
  intro f d hk hi hf hl hL h1 h2;obtain ⟨f,rfl⟩:∃g,f=g+1:=⟨f-1,by omega⟩;rw[b1g];have e1:wrap .i64 (((an+(k+1):Nat):Int)-1)=((an+k:Nat):Int):=wn (by omega) (by omega);have lj:an+(k+1)<d.length:=by omega
  have lk:an+k<d.length:=by omega
  obtain ⟨c,hcm,hlt⟩:=hc d[an+(k+1)] d[an+k];have gj:d[an+(k+1)]? = some d[an+(k+1)]:=q2z lj;have gk:d[an+k]? = some d[an+k]:=q2z lk;simp only[tfd,q0z (show ((an:Int)<((an+(k+1):Nat):Int)) by omega),e1,g1t,q3g,gj,gk,obs,hcm];by_cases hlt':c<0
  ·have kl:=hlt.1 hlt';have g1:(d.set (an+(k+1)) d[an+k])[an+k]? = some d[an+k]:=by rw[q4e (by omega)];exact gk
   simp only[q0z hlt',g1,obs];have sg:=s0p (d:=d) gj gk;have mv:=b2s (d:=d) (a:=an) (b:=i+1) gj gk (by omega) (by omega) (by omega) (by omega);obtain ⟨d',r1,r2,r3⟩:=ih f ((d.set (an+(k+1)) d[an+k]).set (an+k) d[an+(k+1)]) (by omega) (by omega) (by omega) (by simpa using hl) (by simpa using hL)
    (fun p q x y q1 q2 q3 p1 p2 hx hy=>by
     rw[sg] at hx hy;rw[q0n p1] at hx;rw[q0n p2] at hy;by_cases ep:p=an+(k+1)
     ·rw[q0z ep] at hx;rw[q0n (by omega)] at hy;have:d[an+k]? = some x:=by rw[gk];exact hx
      exact h1 (an+k) q x y (by omega) (by omega) q3 (by omega) (by omega) this hy
     ·rw[q0n ep] at hx;by_cases eq:q=an+(k+1)
      ·rw[q0z eq] at hy;have:d[an+k]? = some y:=by rw[gk];exact hy
       exact h1 p (an+k) x y q1 (by omega) (by omega) ep (by omega) hx this
      ·rw[q0n eq] at hy
       exact h1 p q x y q1 q2 q3 ep eq hx hy)
    (fun q x y q1 q2 hx hy=>by
     rw[sg] at hx hy;rw[q0z rfl] at hx;injection hx with hx;subst hx;rw[q0n (by omega)] at hy;by_cases eq:q=an+(k+1)
     ·rw[q0z eq] at hy;injection hy with hy;subst hy;omega
     ·rw[q0n eq] at hy
      exact h2 q _ y (by omega) q2 gj hy)
   exact ⟨d',r1,mv.trans r2,r3⟩
  ·simp only[q0n hlt'];refine ⟨d,rfl,.refl _ _ _,fun p q x y q1 q2 q3 hx hy => ?_⟩;have kl:key d[an+k]<=key d[an+(k+1)]:=by
    have:=mt hlt.2 hlt';omega
   by_cases ep:p=an+(k+1)
   ·subst ep;exact h2 q x y q2 (by omega) hx hy
   ·by_cases eq:q=an+(k+1)
    ·subst eq;rw[gj] at hy;injection hy with hy;subst hy;by_cases e3:p=an+k
     ·subst e3;rw[gk] at hx;injection hx with hx;subst hx;exact kl
     ·have:=h1 p (an+k) x _ q1 (by omega) (by omega) ep (by omega) hx gk;omega
    ·exact h1 p q x y q1 q2 (by omega) ep eq hx hy
theorem ins_l1 (n:Nat)(a b:Int)(an bn:Nat)(ha:a=an)(hb:b=bn):∀(k f:Nat) (i:Nat) (d:List a0c),bn-i<=k->k<f->an<i->(i<=bn\/bn<=an+1)->bn<=d.length->d.length<=1000000000000->Srt key d an i ->
  ∃d',w0x n f (d,a,b,cmp,(i:Int),())=some (.inl (d',()))/\Mv d d' an bn/\Srt key d' an bn:=by
 intro k;induction k with
 | zero =>
  intro f i d hk hf hi hib hl hL hs;obtain ⟨f,rfl⟩:∃g,f=g+1:=⟨f-1,by omega⟩;rw[b1h];subst ha hb;simp only[tfd,q0n (show ¬((i:Int)<(bn:Int)) by omega)];exact ⟨d,rfl,.refl _ _ _,hs.mono (by omega) (by omega)⟩
 | succ k ih =>
  intro f i d hk hf hi hib hl hL hs;obtain ⟨f,rfl⟩:∃g,f=g+1:=⟨f-1,by omega⟩;rw[b1h];by_cases hlt:i<bn
  ·obtain ⟨d',r1,r2,r3⟩:=ins_l4 hc n a b an i ha (i-an) a0b d (by omega) (by omega) (by unfold a0b;omega) (by omega) hL
    (fun p q x y q1 q2 q3 p1 p2 hx hy=>hs p q x y q1 q2 (by omega) hx hy) (fun q x y q1 q2=>by omega)
   rw[show an+(i-an)=i by omega] at r1;subst ha hb;simp only[tfd,q0z (show ((i:Int)<(bn:Int)) by omega),r1,obs,a0r];rw[wn (k:=i+1) (by omega) (by omega)];have ml:=r2.len;obtain ⟨d'',s1,s2,s3⟩:=ih f (i+1) d' (by omega) (by omega) (by omega) (by omega) (by omega) (by omega) r3;exact ⟨d'',s1,(r2.mono (by omega) (by omega)).trans s2,s3⟩
  ·subst ha hb;simp only[tfd,q0n (show ¬((i:Int)<(bn:Int)) by omega)];exact ⟨d,rfl,.refl _ _ _,hs.mono (by omega) (by omega)⟩
theorem ins_ok (n:Nat)(a b:Int)(an bn:Nat)(ha:a=an)(hb:b=bn)(d:List a0c)(hab:an<=bn)(hl:bn<=d.length)(hL:d.length<=1000000000000) :
  ∃d',s1a (n+1) d a b cmp=some d'/\Mv d d' an bn/\Srt key d' an bn:=by
 rw[k2a];have e:wrap .i64 (a+1)=((an+1:Nat):Int):=wn (by omega) (by omega);rw[e];obtain ⟨d',r1,r2,r3⟩:=ins_l1 hc n a b an bn ha hb bn a0b (an+1) d (by omega) (by unfold a0b;omega) (by omega) (by omega) hl hL (Srt.one _ _ (by omega));rw[r1];exact ⟨d',by simp,r2,r3⟩
omit hc in
theorem w1y (n:Nat)(a b m:Int)(P:List a0c):∀(k f i:Nat) (X X' M Y Y' S:List a0c),X'.length=k->Y'.length=k->X.length=i->Y.length=i->k<f ->
  a=P.length->b=P.length+X.length+X'.length+M.length->m=i+k->b+m<=2000000000000 ->
  w0u n f (P++(Y++(X'++(M++(X++(Y'++S))))),a,b,m,(i:Int),())=some (.inl (P++(Y++(Y'++(M++(X++(X'++S))))),())):=by
 intro k;induction k with
 | zero =>
  intro f i X X' M Y Y' S h1 h2 h3 h4 hf ha hb hm hs;obtain ⟨f,rfl⟩:∃g,f=g+1:=⟨f-1,by omega⟩;obtain rfl:=List.length_eq_zero_iff.1 h1;obtain rfl:=List.length_eq_zero_iff.1 h2;rw[b1c];simp only[tfd,q0n (show ¬((i:Int)<m) by omega)]
 | succ k ih =>
  intro f i X X' M Y Y' S h1 h2 h3 h4 hf ha hb hm hs;obtain ⟨f,rfl⟩:∃g,f=g+1:=⟨f-1,by omega⟩
  match X',Y' with
  | x::X',y::Y' =>
   simp only[q3i] at h1 h2 hb;rw[b1c];have ea:wrap .i64 (a+(i:Int))=((P.length+i:Nat):Int):=wn (by omega) (by omega);have eb:wrap .i64 (b+(i:Int))=((P.length+i+(k+1)+M.length+i:Nat):Int):=wn (by omega) (by omega);have g1:(P++(Y++(x::X'++(M++(X++(y::Y'++S))))))[P.length+i]? = some x:=by
    rw[q3f (by omega),q3f (by omega)];rw[show P.length+i-P.length-Y.length=0 by omega];rfl
   have g2:(P++(Y++(x::X'++(M++(X++(y::Y'++S))))))[P.length+i+(k+1)+M.length+i]? = some y:=by
    rw[q3f (by omega),q3f (by omega),q3f (by simp;omega),q3f (by simp;omega),q3f (by simp;omega)];simp only[q3i];rw[show P.length+i+(k+1)+M.length+i-P.length-Y.length-(X'.length+1)-M.length-X.length=0 by omega];rfl
   have s1:(P++(Y++(x::X'++(M++(X++(y::Y'++S)))))).set (P.length+i) y=P++(Y++(y::X'++(M++(X++(y::Y'++S))))):=by
    rw[q4q _ _ (by omega),q4q _ _ (by omega),show P.length+i-P.length-Y.length=0 by omega];rfl
   have s2:(P++(Y++(y::X'++(M++(X++(y::Y'++S)))))).set (P.length+i+(k+1)+M.length+i) x=P++(Y++(y::X'++(M++(X++(x::Y'++S))))):=by
    rw[q4q _ _ (by omega),q4q _ _ (by omega),q4q _ _ (by simp;omega),q4q _ _ (by simp;omega),q4q _ _ (by simp;omega)];simp only[q3i];rw[show P.length+i+(k+1)+M.length+i-P.length-Y.length-(X'.length+1)-M.length-X.length=0 by omega];rfl
   have g3:(P++(Y++(y::X'++(M++(X++(y::Y'++S))))))[P.length+i+(k+1)+M.length+i]? = some y:=by
    rw[q3f (by omega),q3f (by omega),q3f (by simp;omega),q3f (by simp;omega),q3f (by simp;omega)];simp only[q3i];rw[show P.length+i+(k+1)+M.length+i-P.length-Y.length-(X'.length+1)-M.length-X.length=0 by omega];rfl
   simp only[tfd,q0z (show ((i:Int)<m) by omega),ea,eb,g1t,q3g,g1,g2,s1,g3,s2,obs];have e6:wrap .i64 ((i:Int)+1)=((i+1:Nat):Int):=wn (by omega) (by omega);rw[e6];have:=ih f (i+1) (X++[x]) X' M (Y++[y]) Y' S (by omega) (by omega) (by simp;omega) (by simp;omega) (by omega) ha (by simp;omega) (by omega) hs;simp only[q3e,List.singleton_append,q4w] at this ⊢;exact this
omit hc in
theorem v0d (n:Nat)(a b m:Int)(P X M Y S:List a0c)(h:X.length=Y.length)(ha:a=P.length)(hb:b=P.length+X.length+M.length)(hm:m=X.length)(hs:b+m<=2000000000000)(d:List a0c)(hd:d=P++(X++(M++(Y++S)))) :
  j1t (n+1) d a b m cmp=some (P++(Y++(M++(X++S)))):=by
 subst hd;rw[j2x];have:=w1y n a b m P X.length a0b 0 [] X M [] Y S rfl h.symm rfl rfl (by unfold a0b;omega) ha (by simp;omega) (by omega) hs;simp only[q3p] at this;rw[show (0:Int)=((0:Nat):Int) from rfl,this];simp
omit hc in
theorem p2t (n:Nat)(m:Int):∀(k f:Nat) (P U V S d:List a0c) (i j:Int),U.length+V.length<=k->k<f->U≠[]->V≠[]->i=U.length->j=V.length->m=P.length+U.length->m+j<=1000000000000->d=P++(U++(V++S)) ->
  ∃P' U' V' S' d',r0i (n+1) f (d,m,cmp,i,j,())=some (.inl (d',m,cmp,(U'.length:Int),()))/\U'.length=V'.length/\m=P'.length+U'.length/\d'=P'++(U'++(V'++S'))/\P'++(V'++(U'++S'))=P++(V++(U++S)):=by
 intro k;induction k with
 | zero =>
  intro f P U V S d i j hk hf hu hv;exact absurd (List.length_eq_zero_iff.1 (show U.length=0 by omega)) hu
 | succ k ih =>
  intro f P U V S d i j hk hf hu hv hi hj hm hmj hd;obtain ⟨f,rfl⟩:∃g,f=g+1:=⟨f-1,by omega⟩;have lu:=List.length_pos_iff.2 hu;have lv:=List.length_pos_iff.2 hv;rw[r1z];by_cases e:i=j
  ·simp only[tfn,tfd,q0z e];exact ⟨P,U,V,S,d,by rw[hi],by omega,hm,hd,rfl⟩
  ·by_cases lt:j<i
   ·-- the front of U with V
    have hU:U=U.take V.length++U.drop V.length:=(q4b _ _).symm;have l1:(U.take V.length).length=V.length:=by simp;omega
    have l2:(U.drop V.length).length=U.length-V.length:=by simp
    have hs:=v0d (cmp:=cmp) n (P.length:Int) m j P (U.take V.length) (U.drop V.length) V S l1 rfl (by omega) (by omega) (by omega) d (by rw[hd,<-q3e (U.take V.length),<-hU]);have e1:wrap .i64 (m-i)=(P.length:Int):=wn (by omega) (by omega);have e2:wrap .i64 (i-j)=((U.drop V.length).length:Int):=wn (by omega) (by omega);simp only[tfn,tfd,q0n e,q0z lt,e1,e2,hs,obs]
    obtain ⟨P',U',V',S',d',r1,r2,r3,r4,r5⟩:=ih f (P++V) (U.drop V.length) (U.take V.length) S (P++(V++(U.drop V.length++(U.take V.length++S)))) ((U.drop V.length).length:Int) j (by omega) (by omega)
     (by intro h;rw[h] at l2;simp at l2;omega) (by intro h;rw[h] at l1;simp at l1;omega) rfl (by omega) (by simp;omega) hmj (by simp only[q3e])
    exact ⟨P',U',V',S',d',r1,r2,r3,r4,by rw[r5];rw[q3e,<-q3e (U.take V.length),<-hU]⟩
   ·have hV:V=V.take (V.length-U.length)++V.drop (V.length-U.length):=(q4b _ _).symm;have l1:(V.take (V.length-U.length)).length=V.length-U.length:=by simp
    have l2:(V.drop (V.length-U.length)).length=U.length:=by simp;omega
    have hs:=v0d (cmp:=cmp) n (P.length:Int) (m+j-i) i P U (V.take (V.length-U.length)) (V.drop (V.length-U.length)) S l2.symm rfl (by omega) (by omega) (by omega) d (by rw[hd,<-q3e (V.take _) (V.drop _) S,<-hV]);have e1:wrap .i64 (m-i)=(P.length:Int):=wn (by omega) (by omega);have e2:wrap .i64 (j-i)=((V.take (V.length-U.length)).length:Int):=wn (by omega) (by omega);have e3:wrap .i64 (wrap .i64 (m+j)-i)=m+j-i:=by rw[w64 (x:=m+j) (by omega) (by omega),w64 (by omega) (by omega)]
    simp only[tfn,tfd,q0n e,q0n lt,e1,e2,e3,hs,obs];obtain ⟨P',U',V',S',d',r1,r2,r3,r4,r5⟩:=ih f P (V.drop (V.length-U.length)) (V.take (V.length-U.length)) (U++S) _ i ((V.take (V.length-U.length)).length:Int) (by omega) (by omega)
     (by intro h;rw[h] at l2;simp at l2;omega) (by intro h;rw[h] at l1;simp at l1;omega) (by omega) rfl (by omega) (by omega) rfl
    exact ⟨P',U',V',S',d',r1,r2,r3,r4,by rw[r5];rw[<-q3e (V.take _) (V.drop _),<-hV]⟩
omit hc in
theorem p2s (n:Nat)(a m b:Int)(an mn bn:Nat)(ha:a=an)(hm:m=mn)(hb:b=bn)(d:List a0c)(h1:an<mn)(h2:mn<bn)(hl:bn<=d.length)(hL:d.length<=1000000000000) :
  ∃d',j1u (n+2) d a m b cmp=some d'/\Turned d d' an mn bn:=by
 obtain ⟨P,U,V,S,hd,la,lm,lb⟩:=cut4 d (a:=an) (m:=mn) (b:=bn) (by omega) (by omega) hl;rw[j2z];have e1:wrap .i64 (m-a)=(U.length:Int):=wn (by omega) (by omega);have e2:wrap .i64 (b-m)=(V.length:Int):=wn (by omega) (by omega);have hfl:U.length+V.length<a0b:=by
  have:d.length=P.length+(U.length+(V.length+S.length)):=by rw[hd];simp
  unfold a0b;omega
 have hu:U≠[]:=by intro h;rw[h] at lm;simp at lm;omega
 have hv:V≠[]:=by intro h;rw[h] at lb;simp at lb;omega
 obtain ⟨P',U',V',S',d',r1,r2,r3,r4,r5⟩:=p2t (cmp:=cmp) n m (U.length+V.length) a0b P U V S d (U.length:Int) (V.length:Int) (by omega) hfl hu hv rfl rfl (by omega) (by omega) hd;have ld:d'.length=d.length:=by
  have:=congrArg List.length r5;rw[r4,hd];simp at this ⊢;omega
 have hs:=v0d (cmp:=cmp) n (P'.length:Int) m (U'.length:Int) P' U' [] V' S' r2 rfl (by simp;omega) rfl (by rw[r4] at ld;simp at ld;omega) d' (by rw[r4];simp);simp only[e1,e2,r1,obs,a0r,wn (x:=m-(U'.length:Int)) (k:=P'.length) (by omega) (by rw[r4] at ld;simp at ld;omega),hs];simp only[q3p];exact ⟨_,rfl,w1i (P:=P) (U:=U) (V:=V) (S:=S) hd r5 la lm lb⟩
theorem sym_l3 (n:Nat)(a:Int)(an:Nat)(ha:a=an)(d:List a0c)(x:a0c)(hx:d[an]? = some x)(hL:d.length<=1000000000000)(lo hi:Nat)(hs:Srt key d lo hi)(hh:hi<=d.length):∀(k f i j:Nat),j-i<=k->k<f->i<=j->lo<=i->j<=hi ->
  (∀p y,lo<=p->p<i->d[p]? = some y->key y<key x)->(∀p y,j<=p->p<hi->d[p]? = some y->key x<=key y) ->
  ∃r:Nat,r0g n f (d,a,cmp,(i:Int),(j:Int),())=some (.inl (d,a,(r:Int),()))/\lo<=r/\r<=hi /\
   (∀p y,lo<=p->p<r->d[p]? = some y->key y<key x)/\(∀p y,r<=p->p<hi->d[p]? = some y->key x<=key y):=by
 subst ha;intro k;induction k with
 | zero =>
  intro f i j hk hf hij hi hj h1 h2;obtain ⟨f,rfl⟩:∃g,f=g+1:=⟨f-1,by omega⟩;rw[b1b];simp only[tfd,q0n (show ¬((i:Int)<(j:Int)) by omega)];have e:i=j:=by omega
  subst e;exact ⟨i,rfl,by omega,by omega,h1,h2⟩
 | succ k ih =>
  intro f i j hk hf hij hi hj h1 h2;obtain ⟨f,rfl⟩:∃g,f=g+1:=⟨f-1,by omega⟩;rw[b1b];by_cases lt:i<j
  ·have e1:=i1p i j (by omega);have lh:(i+j) / 2<d.length:=by omega
   obtain ⟨c,hcm,hlt⟩:=hc d[(i+j) / 2] x;have gh:d[(i+j) / 2]? = some d[(i+j) / 2]:=q2z lh;simp only[tfd,q0z (show ((i:Int)<(j:Int)) by omega),e1,g1t,q3g,gh,hx,obs,hcm];by_cases hlt':c<0
   ·have kl:=hlt.1 hlt';simp only[q0z hlt'];rw[wn (x:=(((i+j) / 2:Nat):Int)+1) (k:=(i+j) / 2+1) (by omega) (by omega)];refine ih f ((i+j) / 2+1) j (by omega) (by omega) (by omega) (by omega) hj (fun p y p1 p2 hy => ?_) h2;by_cases ep:p=(i+j) / 2
    ·subst ep;rw[gh] at hy;injection hy with hy;subst hy;exact kl
    ·have:=hs p ((i+j) / 2) y _ p1 (by omega) (by omega) hy gh;omega
   ·have kl:key x<=key d[(i+j) / 2]:=by have:=mt hlt.2 hlt';omega
    simp only[q0n hlt'];refine ih f i ((i+j) / 2) (by omega) (by omega) (by omega) hi (by omega) h1 (fun p y p1 p2 hy => ?_);by_cases ep:p=(i+j) / 2
    ·subst ep;rw[gh] at hy;injection hy with hy;subst hy;exact kl
    ·have:=hs ((i+j) / 2) p _ y (by omega) (by omega) (by omega) gh hy;omega
  ·simp only[tfd,q0n (show ¬((i:Int)<(j:Int)) by omega)];have e:i=j:=by omega
   subst e;exact ⟨i,rfl,by omega,by omega,h1,h2⟩
theorem sym_l15 (n:Nat)(m:Int)(mn:Nat)(hm:m=mn)(d:List a0c)(x:a0c)(hx:d[mn]? = some x)(hL:d.length<=1000000000000)(lo hi:Nat)(hs:Srt key d lo hi)(hh:hi<=d.length):∀(k f i j:Nat),j-i<=k->k<f->i<=j->lo<=i->j<=hi ->
  (∀p y,lo<=p->p<i->d[p]? = some y->key y<=key x)->(∀p y,j<=p->p<hi->d[p]? = some y->key x<key y) ->
  ∃r:Nat,o0j n f (d,m,cmp,(i:Int),(j:Int),())=some (.inl (d,m,(r:Int),()))/\lo<=r/\r<=hi /\
   (∀p y,lo<=p->p<r->d[p]? = some y->key y<=key x)/\(∀p y,r<=p->p<hi->d[p]? = some y->key x<key y):=by
 subst hm;intro k;induction k with
 | zero =>
  intro f i j hk hf hij hi hj h1 h2;obtain ⟨f,rfl⟩:∃g,f=g+1:=⟨f-1,by omega⟩;rw[y0i];simp only[tfd,q0n (show ¬((i:Int)<(j:Int)) by omega)];have e:i=j:=by omega
  subst e;exact ⟨i,rfl,by omega,by omega,h1,h2⟩
 | succ k ih =>
  intro f i j hk hf hij hi hj h1 h2;obtain ⟨f,rfl⟩:∃g,f=g+1:=⟨f-1,by omega⟩;rw[y0i];by_cases lt:i<j
  ·have e1:=i1p i j (by omega);have lh:(i+j) / 2<d.length:=by omega
   obtain ⟨c,hcm,hlt⟩:=hc x d[(i+j) / 2];have gh:d[(i+j) / 2]? = some d[(i+j) / 2]:=q2z lh;simp only[tfn,tfd,q0z (show ((i:Int)<(j:Int)) by omega),e1,g1t,q3g,gh,hx,obs,hcm];by_cases hlt':c<0
   ·have kl:=hlt.1 hlt';simp only[q0z hlt'];refine ih f i ((i+j) / 2) (by omega) (by omega) (by omega) hi (by omega) h1 (fun p y p1 p2 hy => ?_);by_cases ep:p=(i+j) / 2
    ·subst ep;rw[gh] at hy;injection hy with hy;subst hy;exact kl
    ·have:=hs ((i+j) / 2) p _ y (by omega) (by omega) (by omega) gh hy;omega
   ·have kl:key d[(i+j) / 2]<=key x:=by have:=mt hlt.2 hlt';omega
    simp only[q0n hlt'];rw[wn (x:=(((i+j) / 2:Nat):Int)+1) (k:=(i+j) / 2+1) (by omega) (by omega)];refine ih f ((i+j) / 2+1) j (by omega) (by omega) (by omega) (by omega) hj (fun p y p1 p2 hy => ?_) h2;by_cases ep:p=(i+j) / 2
    ·subst ep;rw[gh] at hy;injection hy with hy;subst hy;exact kl
    ·have:=hs p ((i+j) / 2) y _ p1 (by omega) (by omega) hy gh;omega
  ·simp only[tfd,q0n (show ¬((i:Int)<(j:Int)) by omega)];have e:i=j:=by omega
   subst e;exact ⟨i,rfl,by omega,by omega,h1,h2⟩
end
def Exc (key:a0c->Int)(d:List a0c)(a b k:Nat):Prop:=∀p q x y,a<=p->p<q->q<b->p≠k->q≠k->d[p]? = some x->d[q]? = some y->key x<=key y
def Place (key:a0c->Int)(d:List a0c)(a b k i:Nat)(x:a0c):Prop :=
 (∀p z,a<=p->p<i->p≠k->d[p]? = some z->key z<=key x)/\(∀p z,i<=p->p<b->p≠k->d[p]? = some z->key x<=key z)
theorem h2w {key:a0c->Int}{d:List a0c}{a b k j:Nat}{x y:a0c}(hj:j=k+1\/k=j+1)(ja:a<=j)(jb:j<b)(hx:d[k]? = some x)(hy:d[j]? = some y)(h:Exc key d a b k):Exc key ((d.set k y).set j x) a b j:=by
 intro p q u v q1 q2 q3 p1 p2 hu hv;rw[s0p hx hy,q0n p1] at hu;rw[s0p hx hy,q0n p2] at hv;by_cases ep:p=k
 ·rw[q0z ep] at hu;rw[q0n (by omega)] at hv;injection hu with hu;subst hu;exact h j q y v (by omega) (by omega) q3 (by omega) (by omega) hy hv
 ·rw[q0n ep] at hu;by_cases eq:q=k
  ·rw[q0z eq] at hv;injection hv with hv;subst hv;exact h p j u y q1 (by omega) (by omega) (by omega) (by omega) hu hy
  ·rw[q0n eq] at hv;exact h p q u v q1 q2 q3 ep eq hu hv
theorem t2a {key:a0c->Int}{d:List a0c}{a b k i:Nat}{x:a0c}(h:Exc key d a b k)(hp:Place key d a b k i x)(hx:d[k]? = some x)(hk:k=i\/k+1=i):Srt key d a b:=by
 intro p q u v q1 q2 q3 hu hv;by_cases ep:p=k
 ·subst ep;rw[hx] at hu;injection hu with hu;subst hu;exact hp.2 q v (by omega) q3 (by omega) hv
 ·by_cases eq:q=k
  ·subst eq;rw[hx] at hv;injection hv with hv;subst hv;exact hp.1 p u q1 (by omega) ep hu
  ·exact h p q u v q1 q2 q3 ep eq hu hv
theorem sym_l9 {key:a0c->Int}(n:Nat)(a b i:Nat)(x:a0c):∀(c f k:Nat) (d:List a0c),k+c+1=i->c<f->a<=k->i<=b->b<=d.length->d.length<=1000000000000->d[k]? = some x->Exc key d a b k->Place key d a b k i x ->
  ∃d',w0t n f (d,(i:Int),(k:Int),())=some (.inl (d',()))/\Mv d d' a b/\Srt key d' a b:=by
 intro c;induction c with
 | zero =>
  intro f k d hk hf ha hi hb hL hx h1 h2;obtain ⟨f,rfl⟩:∃g,f=g+1:=⟨f-1,by omega⟩;rw[b1a];rw[wn (x:=(i:Int)-1) (k:=k) (by omega) (by omega)];simp only[tfd,q0n (show ¬((k:Int)<(k:Int)) by omega)];exact ⟨d,rfl,.refl _ _ _,t2a h1 h2 hx (by omega)⟩
 | succ c ih =>
  intro f k d hk hf ha hi hb hL hx h1 h2;obtain ⟨f,rfl⟩:∃g,f=g+1:=⟨f-1,by omega⟩;rw[b1a];have lk:k+1<d.length:=by omega
  have gy:d[k+1]? = some d[k+1]:=q2z lk;have g1:(d.set k d[k+1])[k+1]? = some d[k+1]:=by rw[q4e (by omega)];exact gy
  rw[wn (x:=(i:Int)-1) (k:=i-1) (by omega) (by omega),wn (x:=(k:Int)+1) (k:=k+1) (by omega) (by omega)];simp only[tfd,q0z (show ((k:Int)<((i-1:Nat):Int)) by omega),g1t,q3g,gy,hx,g1,obs];have sg:=s0p hx gy;have mv:=b2s (a:=a) (b:=b) hx gy (by omega) (by omega) (by omega) (by omega);obtain ⟨d',r1,r2,r3⟩:=ih f (k+1) ((d.set k d[k+1]).set (k+1) x) (by omega) (by omega) (by omega) hi (by simpa using hb) (by simpa using hL)
   (by rw[sg,q0z rfl]) (h2w (.inl rfl) (by omega) (by omega) hx gy h1)
   ⟨fun p z p1 p2 p3 hz=>by
    rw[sg,q0n p3] at hz;by_cases e:p=k
    ·rw[q0z e] at hz;injection hz with hz;subst hz;exact h2.1 (k+1) _ (by omega) (by omega) (by omega) gy
    ·rw[q0n e] at hz;exact h2.1 p z p1 p2 e hz,
    fun p z p1 p2 p3 hz=>by
     rw[sg,q0n p3,q0n (by omega)] at hz
     exact h2.2 p z p1 p2 (by omega) hz⟩
  exact ⟨d',r1,mv.trans r2,r3⟩
theorem sym_l21 {key:a0c->Int}(n:Nat)(a b i:Nat)(x:a0c):∀(c f k:Nat) (d:List a0c),i+c=k->c<f->a<=i->k<b->b<=d.length->d.length<=1000000000000->d[k]? = some x->Exc key d a b k->Place key d a b k i x ->
  ∃d',s0u n f (d,(i:Int),(k:Int),())=some (.inl (d',()))/\Mv d d' a b/\Srt key d' a b:=by
 intro c;induction c with
 | zero =>
  intro f k d hk hf ha hi hb hL hx h1 h2;obtain ⟨f,rfl⟩:∃g,f=g+1:=⟨f-1,by omega⟩;rw[y0h];simp only[tfd,q0n (show ¬((i:Int)<(k:Int)) by omega)];exact ⟨d,rfl,.refl _ _ _,t2a h1 h2 hx (by omega)⟩
 | succ c ih =>
  intro f k d hk hf ha hi hb hL hx h1 h2;obtain ⟨f,rfl⟩:∃g,f=g+1:=⟨f-1,by omega⟩;obtain ⟨k,rfl⟩:∃g,k=g+1:=⟨k-1,by omega⟩;rw[y0h];have lk:k<d.length:=by omega
  have gy:d[k]? = some d[k]:=q2z lk;have g1:(d.set (k+1) d[k])[k]? = some d[k]:=by rw[q4e (by omega)];exact gy
  rw[wn (x:=((k+1:Nat):Int)-1) (k:=k) (by omega) (by omega)];simp only[tfd,q0z (show ((i:Int)<((k+1:Nat):Int)) by omega),g1t,q3g,gy,hx,g1,obs];have sg:=s0p hx gy;have mv:=b2s (a:=a) (b:=b) hx gy (by omega) (by omega) (by omega) (by omega);obtain ⟨d',r1,r2,r3⟩:=ih f k ((d.set (k+1) d[k]).set k x) (by omega) (by omega) (by omega) (by omega) (by simpa using hb) (by simpa using hL)
   (by rw[sg,q0z rfl]) (h2w (.inr rfl) (by omega) (by omega) hx gy h1)
   ⟨fun p z p1 p2 p3 hz=>by
    rw[sg,q0n p3,q0n (by omega)] at hz;exact h2.1 p z p1 p2 (by omega) hz,
    fun p z p1 p2 p3 hz=>by
     rw[sg,q0n p3] at hz;by_cases e:p=k+1
     ·rw[q0z e] at hz;injection hz with hz;subst hz;exact h2.2 k _ (by omega) (by omega) (by omega) gy
     ·rw[q0n e] at hz;exact h2.2 p z p1 p2 e hz⟩
  exact ⟨d',r1,mv.trans r2,r3⟩
section
variable {cmp:(a0c×(a0c×Unit))->Option Int}{key:a0c->Int}(hc:Cmp cmp key)
include hc
theorem o2r (n:Nat)(a b mid n_:Int)(m p:Int)(mn bn pn:Nat)(an:Nat)(hp:p=pn)(d:List a0c)(hL:d.length<=1000000000000)(h1:Srt key d an mn)(h2:Srt key d mn bn)(hb:bn<=d.length)(lo hi:Nat)
  (hlo:an<=lo) (hhi:hi<=mn) (hq:∀c,lo<=c->c<hi->c<=pn/\mn<=pn-c/\pn-c<bn):∀(k f i j:Nat),j-i<=k->k<f->i<=j->lo<=i->j<=hi ->
  (∀c x y,lo<=c->c<i->d[c]? = some x->d[pn-c]? = some y->key x<=key y)->(∀c x y,j<=c->c<hi->d[c]? = some x->d[pn-c]? = some y->key y<key x) ->
  ∃r:Nat,k0r n f (d,a,m,b,cmp,mid,n_,(i:Int),(j:Int),p,())=some (.inl (d,a,m,b,cmp,mid,n_,(r:Int),()))/\lo<=r/\r<=hi /\
   (∀c x y,lo<=c->c<r->d[c]? = some x->d[pn-c]? = some y->key x<=key y)/\(∀c x y,r<=c->c<hi->d[c]? = some x->d[pn-c]? = some y->key y<key x):=by
 subst hp;have le1:∀ {i j x y},an<=i->i<=j->j<mn->d[i]? = some x->d[j]? = some y->key x<=key y:=by
  intro i j x y q1 q2 q3 hx hy;rcases Nat.lt_or_eq_of_le q2 with q | q
  ·exact h1 i j x y q1 q q3 hx hy
  ·subst q;rw[hx] at hy;injection hy with hy;subst hy;exact Int.le_refl _
 have le2:∀ {i j x y},mn<=i->i<=j->j<bn->d[i]? = some x->d[j]? = some y->key x<=key y:=by
  intro i j x y q1 q2 q3 hx hy;rcases Nat.lt_or_eq_of_le q2 with q | q
  ·exact h2 i j x y q1 q q3 hx hy
  ·subst q;rw[hx] at hy;injection hy with hy;subst hy;exact Int.le_refl _
 intro k;induction k with
 | zero =>
  intro f i j hk hf hij hi' hj g1 g2;obtain ⟨f,rfl⟩:∃g,f=g+1:=⟨f-1,by omega⟩;rw[y0g];simp only[tfd,q0n (show ¬((i:Int)<(j:Int)) by omega)];have e:i=j:=by omega
  subst e;exact ⟨i,rfl,hi',hj,g1,g2⟩
 | succ k ih =>
  intro f i j hk hf hij hi' hj g1 g2;obtain ⟨f,rfl⟩:∃g,f=g+1:=⟨f-1,by omega⟩;rw[y0g];by_cases lt:i<j
  ·generalize hcc:(i+j) / 2=c;have hq':=hq c (by omega) (by omega);have e1:=i1p i j (by omega);rw[hcc] at e1;have e2:wrap .i64 ((pn:Int)-(c:Int))=((pn-c:Nat):Int):=wn (by omega) (by omega);obtain ⟨v,hcm,hlt⟩:=hc d[pn-c] d[c];have gc:d[c]? = some d[c]:=q2z (by omega);have gp:d[pn-c]? = some d[pn-c]:=q2z (by omega);simp only[tfn,tfd,q0z (show ((i:Int)<(j:Int)) by omega),e1,e2,g1t,q3g,gc,gp,obs,hcm];by_cases hlt':v<0
   ·have kl:=hlt.1 hlt';simp only[q0z hlt'];refine ih f i c (by omega) (by omega) (by omega) hi' (by omega) g1 (fun q x y p1 p2 hx hy => ?_);have hq2:=hq q (by omega) (by omega);have:=le1 (i:=c) (j:=q) (by omega) p1 (by omega) gc hx;have:=le2 (i:=pn-q) (j:=pn-c) (by omega) (by omega) (by omega) hy gp;omega
   ·have kl:key d[c]<=key d[pn-c]:=by have:=mt hlt.2 hlt';omega
    simp only[q0n hlt'];rw[wn (x:=(c:Int)+1) (k:=c+1) (by omega) (by omega)];refine ih f (c+1) j (by omega) (by omega) (by omega) (by omega) hj (fun q x y p1 p2 hx hy => ?_) g2;have hq2:=hq q (by omega) (by omega);have:=le1 (i:=q) (j:=c) (by omega) (by omega) (by omega) hx gc;have:=le2 (i:=pn-c) (j:=pn-q) (by omega) (by omega) (by omega) gp hy;omega
  ·simp only[tfd,q0n (show ¬((i:Int)<(j:Int)) by omega)];have e:i=j:=by omega
   subst e;exact ⟨i,rfl,hi',hj,g1,g2⟩
theorem j1h:∀(dd n:Nat) (a m b:Int) (an mn bn:Nat) (d:List a0c),a=an->m=mn->b=bn->an<mn->mn<bn->bn<=d.length->d.length<=1000000000000->bn-an<=2^dd->Srt key d an mn->Srt key d mn bn ->
  ∃d',b0t (n+dd+2) d a m b cmp=some d'/\Mv d d' an bn/\Srt key d' an bn:=by
 intro dd;induction dd with
 | zero=>intro n a m b an mn bn d ha hm hb h1 h2 hl hL hd;simp at hd;omega
 | succ dd ih =>
  intro n a m b an mn bn d ha hm hb h1 h2 hl hL hd s1 s2;subst ha hm hb;rw[show n+(dd+1)+2=(n+dd+2)+1 by omega,j2w];rw[wn (x:=(mn:Int)-an) (k:=mn-an) (by omega) (by omega),wn (x:=(bn:Int)-mn) (k:=bn-mn) (by omega) (by omega)];simp only[tif_tif];simp only[tfd];have gm:d[mn]? = some d[mn]:=q2z (by omega);have ga:d[an]? = some d[an]:=q2z (by omega);by_cases c1:((mn-an:Nat):Int)=1
  ·rw[q0z c1];have e:mn=an+1:=by omega
   obtain ⟨r,r1,r2,r3,r4,r5⟩:=sym_l3 hc (n+dd+2) (an:Int) an rfl d d[an] ga hL mn bn s2 hl (bn-mn) a0b mn bn (by omega) (by unfold a0b;omega) (by omega) (by omega) (by omega) (fun p y p1 p2=>by omega) (fun p y p1 p2=>by omega);rw[r1];simp only[obs,a0r];obtain ⟨d',t1,t2,t3⟩:=sym_l9 (key:=key) (n+dd+2) an bn r d[an] (r-an-1) a0b an d (by omega) (by unfold a0b;omega) (by omega) r3 hl hL ga
    (fun p q x y p1 p2 p3 p4 p5 hx hy=>s2 p q x y (by omega) p2 p3 hx hy)
    ⟨fun p z p1 p2 p3 hz=>Int.le_of_lt (r4 p z (by omega) p2 hz),fun p z p1 p2 p3 hz=>r5 p z p1 p2 hz⟩
   rw[t1];exact ⟨d',by simp,t2,t3⟩
  rw[q0n c1];by_cases c2:((bn-mn:Nat):Int)=1
  ·rw[q0z c2];obtain ⟨r,r1,r2,r3,r4,r5⟩:=sym_l15 hc (n+dd+2) (mn:Int) mn rfl d d[mn] gm hL an mn s1 (by omega) (mn-an) a0b an mn (by omega) (by unfold a0b;omega) (by omega) (by omega) (by omega) (fun p y p1 p2=>by omega) (fun p y p1 p2=>by omega);rw[r1];simp only[obs,a0r];obtain ⟨d',t1,t2,t3⟩:=sym_l21 (key:=key) (n+dd+2) an bn r d[mn] (mn-r) a0b mn d (by omega) (by unfold a0b;omega) (by omega) (by omega) hl hL gm
    (fun p q x y p1 p2 p3 p4 p5 hx hy=>s1 p q x y (by omega) p2 (by omega) hx hy)
    ⟨fun p z p1 p2 p3 hz=>r4 p z p1 p2 hz,fun p z p1 p2 p3 hz=>Int.le_of_lt (r5 p z p1 (by omega) hz)⟩
   rw[t1];exact ⟨d',by simp,t2,t3⟩
  rw[q0n c2,i1p an bn (by omega)];generalize hmid:(an+bn) / 2=mid;have hpow:2^(dd+1)=2^dd*2:=Nat.pow_succ 2 dd;generalize 2^dd=P at *
  rw[wn (x:=(mid:Int)+mn) (k:=mid+mn) (by omega) (by omega)];have fin:∀s:Nat,an<=s->s<=mn->mn<=mid+mn-s->mid+mn-s<=bn->s<=mid ->
    (∀x y,an<s->mid+mn-s<bn->d[s-1]? = some x->d[mid+mn-s]? = some y->key x<=key y) ->
    (∀x y,s<mn->mn<mid+mn-s->d[mid+mn-s-1]? = some x->d[s]? = some y->key x<=key y) ->
    ∃d',(if (s:Int)<(mn:Int)/\(mn:Int)<((mid+mn-s:Nat):Int) then
      a0a (j1u (n+dd+2) d (s:Int) (mn:Int) ((mid+mn-s:Nat):Int) cmp) fun r14 =>
       if (an:Int)<(s:Int)/\(s:Int)<(mid:Int) then
        a0a (b0t (n+dd+2) r14 (an:Int) (s:Int) (mid:Int) cmp) fun r15 =>
         if (mid:Int)<((mid+mn-s:Nat):Int)/\((mid+mn-s:Nat):Int)<(bn:Int) then a0a (b0t (n+dd+2) r15 (mid:Int) ((mid+mn-s:Nat):Int) (bn:Int) cmp) fun r16=>some r16
         else some r15
       else if (mid:Int)<((mid+mn-s:Nat):Int)/\((mid+mn-s:Nat):Int)<(bn:Int) then a0a (b0t (n+dd+2) r14 (mid:Int) ((mid+mn-s:Nat):Int) (bn:Int) cmp) fun r17=>some r17
        else some r14
     else if (an:Int)<(s:Int)/\(s:Int)<(mid:Int) then
       a0a (b0t (n+dd+2) d (an:Int) (s:Int) (mid:Int) cmp) fun r15 =>
        if (mid:Int)<((mid+mn-s:Nat):Int)/\((mid+mn-s:Nat):Int)<(bn:Int) then a0a (b0t (n+dd+2) r15 (mid:Int) ((mid+mn-s:Nat):Int) (bn:Int) cmp) fun r16=>some r16
        else some r15
       else if (mid:Int)<((mid+mn-s:Nat):Int)/\((mid+mn-s:Nat):Int)<(bn:Int) then a0a (b0t (n+dd+2) d (mid:Int) ((mid+mn-s:Nat):Int) (bn:Int) cmp) fun r17=>some r17
        else some d)=some d'/\Mv d d' an bn/\Srt key d' an bn:=by
   intro s k1 k2 k3 k4 k5 q1 q2;generalize he:mid+mn-s=e at *
   have tail : ∀ d1, Turned d d1 s mn e -> ∃ d', (if (an : Int) < (s : Int) /\ (s : Int) < (mid : Int) then
             a0a (b0t (n+dd+2) d1 (an:Int) (s:Int) (mid:Int) cmp) fun r15 =>
              if (mid:Int)<((e:Nat):Int)/\((e:Nat):Int)<(bn:Int) then a0a (b0t (n+dd+2) r15 (mid:Int) ((e:Nat):Int) (bn:Int) cmp) fun r16=>some r16
              else some r15
     else if (mid:Int)<((e:Nat):Int)/\((e:Nat):Int)<(bn:Int) then a0a (b0t (n+dd+2) d1 (mid:Int) ((e:Nat):Int) (bn:Int) cmp) fun r17=>some r17
      else some d1)=some d'/\Mv d d' an bn/\Srt key d' an bn:=by
    intro d1 t;obtain ⟨⟨w1,w2,w3,w4⟩,cr⟩:=halves (a:=an) (b:=bn) (mid:=mid) s1 s2 t k1 k2 k3 k4 (by omega) hl q1 q2;have l1:=t.mv.len;have m1:Mv d d1 an bn:=t.mv.mono k1 k4;have half1:∃d2,(((an:Int)<(s:Int)/\(s:Int)<(mid:Int))->b0t (n+dd+2) d1 (an:Int) (s:Int) (mid:Int) cmp=some d2)/\(¬((an:Int)<(s:Int)/\(s:Int)<(mid:Int))->d2=d1)/\Mv d1 d2 an mid/\Srt key d2 an mid:=by
     by_cases c:(an:Int)<(s:Int)/\(s:Int)<(mid:Int)
     ·obtain ⟨d2,t1,t2,t3⟩:=ih n (an:Int) (s:Int) (mid:Int) an s mid d1 rfl rfl rfl (by omega) (by omega) (by omega) (by omega) (by omega) w1 w2;exact ⟨d2,fun _=>t1,fun h=>absurd c h,t2,t3⟩
     ·refine ⟨d1,fun h=>absurd h c,fun _=>rfl,.refl _ _ _,?_⟩;by_cases c':an<s
      ·have:s=mid:=by omega
       subst this;exact w1
      ·have:s=an:=by omega
       subst this;exact w2
    obtain ⟨d2,u1,u2,u3,u4⟩:=half1;have l2:=u3.len;have w3':=w3.keep u3 (.inr (q3c _));have w4':=w4.keep u3 (.inr (by omega));have cr2:=i2d cr (.inl u3);have half2:∃d3,(((mid:Int)<(e:Int)/\(e:Int)<(bn:Int))->b0t (n+dd+2) d2 (mid:Int) (e:Int) (bn:Int) cmp=some d3)/\(¬((mid:Int)<(e:Int)/\(e:Int)<(bn:Int))->d3=d2)/\Mv d2 d3 mid bn/\Srt key d3 mid bn:=by
     by_cases c:(mid:Int)<(e:Int)/\(e:Int)<(bn:Int)
     ·obtain ⟨d3,t1,t2,t3⟩:=ih n (mid:Int) (e:Int) (bn:Int) mid e bn d2 rfl rfl rfl (by omega) (by omega) (by omega) (by omega) (by omega) w3' w4';exact ⟨d3,fun _=>t1,fun h=>absurd c h,t2,t3⟩
     ·refine ⟨d2,fun h=>absurd h c,fun _=>rfl,.refl _ _ _,?_⟩;by_cases c':mid<e
      ·have:e=bn:=by omega
       rw[this] at w3';exact w3'
      ·have:e=mid:=by omega
       rw[this] at w4';exact w4'
    obtain ⟨d3,v1,v2,v3,v4⟩:=half2;have fin3:Mv d d3 an bn/\Srt key d3 an bn :=
     ⟨(m1.trans (u3.mono (q3c _) (by omega))).trans (v3.mono (by omega) (q3c _)),Srt.join (u4.keep v3 (.inl (q3c _))) v4 (i2d cr2 (.inr v3))⟩
    refine ⟨d3,?_,fin3⟩;by_cases c:(an:Int)<(s:Int)/\(s:Int)<(mid:Int)
    ·rw[q0z c,u1 c,obs];by_cases c':(mid:Int)<(e:Int)/\(e:Int)<(bn:Int)
     ·rw[q0z c',v1 c',obs]
     ·rw[q0n c',v2 c']
    ·rw[q0n c];obtain rfl:=u2 c;by_cases c':(mid:Int)<(e:Int)/\(e:Int)<(bn:Int)
     ·rw[q0z c',v1 c',obs]
     ·rw[q0n c',v2 c']
   by_cases c:(s:Int)<(mn:Int)/\(mn:Int)<(e:Int)
   ·obtain ⟨d1,t1,t2⟩:=p2s (cmp:=cmp) (n+dd) (s:Int) (mn:Int) (e:Int) s mn e rfl rfl rfl d (by omega) (by omega) (by omega) hL;rw[q0z c,t1,obs];exact tail d1 t2
   ·rw[q0n c];exact tail d (turned_refl d (by omega))
  by_cases c3:(mid:Int)<(mn:Int)
  ·rw[q0z c3,wn (x:=((mid+mn:Nat):Int)-bn) (k:=mid+mn-bn) (by omega) (by omega),wn (x:=((mid+mn:Nat):Int)-1) (k:=mid+mn-1) (by omega) (by omega)];obtain ⟨r,r1,r2,r3,r4,r5⟩:=o2r hc (n+dd+2) (an:Int) (bn:Int) (mid:Int) ((mid+mn:Nat):Int) (mn:Int) ((mid+mn-1:Nat):Int) mn bn (mid+mn-1) an rfl d hL s1 s2 hl (mid+mn-bn) mid (by omega) (by omega)
    (fun c h1 h2=>by omega) (mid-(mid+mn-bn)) a0b (mid+mn-bn) mid (by omega) (by unfold a0b;omega) (by omega) (by omega) (by omega) (fun c x y h1 h2=>by omega) (fun c x y h1 h2=>by omega)
   rw[r1];simp only[obs,a0r,wn (x:=((mid+mn:Nat):Int)-(r:Int)) (k:=mid+mn-r) (by omega) (by omega)];refine fin r (by omega) (by omega) (by omega) (by omega) (by omega) (fun x y h1 h2 hx hy => ?_) (fun x y h1 h2 hx hy => ?_)
   ·refine r4 (r-1) x y (by omega) (by omega) hx ?_;rw[show mid+mn-1-(r-1)=mid+mn-r by omega];exact hy
   ·refine Int.le_of_lt (r5 r y x (by omega) (by omega) hy ?_);rw[show mid+mn-1-r=mid+mn-r-1 by omega];exact hx
  ·rw[q0n c3,wn (x:=((mid+mn:Nat):Int)-1) (k:=mid+mn-1) (by omega) (by omega)];obtain ⟨r,r1,r2,r3,r4,r5⟩:=o2r hc (n+dd+2) (an:Int) (bn:Int) (mid:Int) ((mid+mn:Nat):Int) (mn:Int) ((mid+mn-1:Nat):Int) mn bn (mid+mn-1) an rfl d hL s1 s2 hl an mn (by omega) (by omega)
    (fun c h1 h2=>by omega) (mn-an) a0b an mn (by omega) (by unfold a0b;omega) (by omega) (by omega) (by omega) (fun c x y h1 h2=>by omega) (fun c x y h1 h2=>by omega)
   rw[r1];simp only[obs,a0r,wn (x:=((mid+mn:Nat):Int)-(r:Int)) (k:=mid+mn-r) (by omega) (by omega)];refine fin r (by omega) (by omega) (by omega) (by omega) (by omega) (fun x y h1 h2 hx hy => ?_) (fun x y h1 h2 hx hy => ?_)
   ·refine r4 (r-1) x y (by omega) (by omega) hx ?_;rw[show mid+mn-1-(r-1)=mid+mn-r by omega];exact hy
   ·refine Int.le_of_lt (r5 r y x (by omega) (by omega) hy ?_);rw[show mid+mn-1-r=mid+mn-r-1 by omega];exact hx
end
def Runs (key:a0c->Int)(d:List a0c)(B N:Nat):Prop:=∀c,B ∣ c->Srt key d c (min (c+B) N)
theorem n0k {B a c:Nat}(ha:B ∣ a)(hc:B ∣ c)(h:a<c):a+B<=c:=by
 obtain ⟨x,rfl⟩:=ha;obtain ⟨y,rfl⟩:=hc;have:x<y:=Nat.lt_of_mul_lt_mul_left h
 calc B*x+B=B*(x+1):=by rw[Nat.mul_succ]
  _<=B*y:=Nat.mul_le_mul_left B this
section
variable {cmp:(a0c×(a0c×Unit))->Option Int}{key:a0c->Int}(hc:Cmp cmp key)
include hc
theorem p2a (n:Nat)(N:Nat)(n_:Int)(hn:n_=N):∀(k f a:Nat) (d:List a0c),N-a<=k->k<f->20 ∣ a->a<=N->N=d.length->d.length<=100000000000->(∀c,20 ∣ c->c<a->Srt key d c (min (c+20) N)) ->
  ∃d' a',r0h (n+1) f (d,n_,cmp,(20:Int),(a:Int),((a+20:Nat):Int),())=some (.inl (d',n_,cmp,(20:Int),((a':Nat):Int),()))/\20 ∣ a'/\a'<=N/\N<a'+20/\Mv d d' 0 N /\
   (∀c,20 ∣ c->c<a'->Srt key d' c (min (c+20) N)):=by
 subst hn;intro k;induction k with
 | zero =>
  intro f a d hk hf h20 haN hN hL hs;obtain ⟨f,rfl⟩:∃g,f=g+1:=⟨f-1,by omega⟩;rw[b1f];simp only[tfd,q0n (show ¬(((a+20:Nat):Int)<=(N:Int)) by omega)];exact ⟨d,a,rfl,h20,haN,by omega,.refl _ _ _,hs⟩
 | succ k ih =>
  intro f a d hk hf h20 haN hN hL hs;obtain ⟨f,rfl⟩:∃g,f=g+1:=⟨f-1,by omega⟩;rw[b1f];by_cases hle:a+20<=N
  ·obtain ⟨d1,r1,r2,r3⟩:=ins_ok hc n (a:Int) ((a+20:Nat):Int) a (a+20) rfl rfl d (by omega) (by omega) (by omega);have l1:=r2.len;simp only[tfd,q0z (show (((a+20:Nat):Int)<=(N:Int)) by omega),r1,obs];rw[wn (x:=((a+20:Nat):Int)+20) (k:=a+20+20) (by omega) (by omega)];obtain ⟨d',a',s1,s2,s3,s4,s5,s6⟩:=ih f (a+20) d1 (by omega) (by omega) (by omega) (by omega) (by omega) (by omega) (fun c c1 c2=>by
    by_cases e:c<a
    ·have:=n0k c1 h20 e;exact (hs c c1 e).keep r2 (.inl (by omega))
    ·have:c=a:=by
      rcases Nat.lt_or_eq_of_le (Nat.le_of_not_lt e) with h | h
      ·have:=n0k h20 c1 h;omega
      ·exact h.symm
     subst this;rw[q4f (by omega)]
     exact r3)
   exact ⟨d',a',s1,s2,s3,s4,(r2.mono (by omega) (by omega)).trans s5,s6⟩
  ·simp only[tfd,q0n (show ¬(((a+20:Nat):Int)<=(N:Int)) by omega)];exact ⟨d,a,rfl,h20,haN,by omega,.refl _ _ _,hs⟩
theorem o2y (n dd:Nat)(N B:Nat)(n_:Int)(hn:n_=N)(hB:0<B)(hBN:B<N)(hdd:N<=2^dd):∀(k f a:Nat) (d:List a0c),N-a<=k->k<f->2*B ∣ a->a<=N->N=d.length->d.length<=100000000000 ->
  (∀c,2*B ∣ c->c<a->Srt key d c (min (c+2*B) N))->(∀c,B ∣ c->a<=c->Srt key d c (min (c+B) N)) ->
  ∃d' a',w0v (n+dd+2) f (d,n_,cmp,(B:Int),(a:Int),((a+2*B:Nat):Int),())=some (.inl (d',n_,cmp,(B:Int),((a':Nat):Int),()))/\2*B ∣ a'/\a'<=N/\N<a'+2*B/\Mv d d' 0 N /\
   (∀c,2*B ∣ c->c<a'->Srt key d' c (min (c+2*B) N))/\(∀c,B ∣ c->a'<=c->Srt key d' c (min (c+B) N)):=by
 subst hn;have dB:B ∣ 2*B:=⟨2,by omega⟩;intro k;induction k with
 | zero =>
  intro f a d hk hf h20 haN hN hL hs hs';obtain ⟨f,rfl⟩:∃g,f=g+1:=⟨f-1,by omega⟩;rw[b1d];simp only[tfd,q0n (show ¬(((a+2*B:Nat):Int)<=(N:Int)) by omega)];exact ⟨d,a,rfl,h20,haN,by omega,.refl _ _ _,hs,hs'⟩
 | succ k ih =>
  intro f a d hk hf h20 haN hN hL hs hs';obtain ⟨f,rfl⟩:∃g,f=g+1:=⟨f-1,by omega⟩;rw[b1d];by_cases hle:a+2*B<=N
  ·have ba:B ∣ a:=Nat.dvd_trans dB h20;have q1:=hs' a ba (q3c _);have q2:=hs' (a+B) (Nat.dvd_add ba (Nat.dvd_refl _)) (by omega);rw[q4f (by omega)] at q1 q2;rw[wn (x:=(a:Int)+B) (k:=a+B) (by omega) (by omega)];obtain ⟨d1,r1,r2,r3⟩:=j1h hc dd n (a:Int) ((a+B:Nat):Int) ((a+2*B:Nat):Int) a (a+B) (a+2*B) d rfl rfl rfl (by omega) (by omega) (by omega) (by omega) (by omega) q1 (q2.mono (by omega) (by omega));have l1:=r2.len;simp only[tfd,q0z (show (((a+2*B:Nat):Int)<=(N:Int)) by omega),r1,obs]
   rw[wn (x:=2*(B:Int)) (k:=2*B) (by omega) (by omega),wn (x:=((a+2*B:Nat):Int)+((2*B:Nat):Int)) (k:=a+2*B+2*B) (by omega) (by omega)];obtain ⟨d',a',s1,s2,s3,s4,s5,s6,s7⟩:=ih f (a+2*B) d1 (by omega) (by omega) (Nat.dvd_add h20 (Nat.dvd_refl _)) (by omega) (by omega) (by omega) (fun c c1 c2=>by
    by_cases e:c<a
    ·have:=n0k c1 h20 e;exact (hs c c1 e).keep r2 (.inl (by omega))
    ·have:c=a:=by
      rcases Nat.lt_or_eq_of_le (Nat.le_of_not_lt e) with h | h
      ·have:=n0k h20 c1 h;omega
      ·exact h.symm
     subst this;rw[q4f (by omega)]
     exact r3)
    (fun c c1 c2=>(hs' c c1 (by omega)).keep r2 (.inr (by omega)))
   exact ⟨d',a',s1,s2,s3,s4,(r2.mono (by omega) (by omega)).trans s5,s6,s7⟩
  ·simp only[tfd,q0n (show ¬(((a+2*B:Nat):Int)<=(N:Int)) by omega)];exact ⟨d,a,rfl,h20,haN,by omega,.refl _ _ _,hs,hs'⟩
theorem o2z (n dd:Nat)(N:Nat)(n_:Int)(hn:n_=N)(hdd:N<=2^dd):∀(k f B:Nat) (d:List a0c),N-B<=k->k<f->0<B->B<=200000000000->N=d.length->d.length<=100000000000->Runs key d B N ->
  ∃d',n0p (n+dd+2) f (d,n_,cmp,(B:Int),())=some (.inl (d',()))/\Mv d d' 0 N/\Srt key d' 0 N:=by
 subst hn;intro k;induction k with
 | zero =>
  intro f B d hk hf hB hBl hN hL hs;obtain ⟨f,rfl⟩:∃g,f=g+1:=⟨f-1,by omega⟩;rw[b1e];simp only[tfd,q0n (show ¬((B:Int)<(N:Int)) by omega)];have:=hs 0 (Nat.dvd_zero _);rw[Nat.min_eq_right (by omega)] at this;exact ⟨d,rfl,.refl _ _ _,this⟩
 | succ k ih =>
  intro f B d hk hf hB hBl hN hL hs;obtain ⟨f,rfl⟩:∃g,f=g+1:=⟨f-1,by omega⟩;rw[b1e];by_cases hlt:B<N
  ·obtain ⟨d1,a,r1,r2,r3,r4,r5,r6,r7⟩:=o2y hc n dd N B (N:Int) rfl hB hlt hdd N a0b 0 d (by omega) (by unfold a0b;omega) (Nat.dvd_zero _) (by omega) hN hL (fun c _ h=>by omega) (fun c h _=>hs c h);have l1:=r5.len;rw[Nat.zero_add] at r1;simp only[tfd,q0z (show ((B:Int)<(N:Int)) by omega),wn (x:=2*(B:Int)) (k:=2*B) (by omega) (by omega)];rw[show (0:Int)=((0:Nat):Int) from rfl,r1];simp only[obs,a0r,wn (x:=(a:Int)+B) (k:=a+B) (by omega) (by omega),wn (x:=(B:Int)*2) (k:=2*B) (by omega) (by omega)];have dB:B ∣ 2*B:=⟨2,by omega⟩;have ba:B ∣ a:=Nat.dvd_trans dB r2
   by_cases hm:a+B<N
   ·have q1:=r7 a ba (q3c _);have q2:=r7 (a+B) (Nat.dvd_add ba (Nat.dvd_refl _)) (by omega);rw[q4f (by omega)] at q1;rw[Nat.min_eq_right (by omega)] at q2;obtain ⟨d2,t1,t2,t3⟩:=j1h hc dd n (a:Int) ((a+B:Nat):Int) (N:Int) a (a+B) N d1 rfl rfl rfl (by omega) (by omega) (by omega) (by omega) (by omega) q1 q2;have l2:=t2.len;simp only[q0z (show (((a+B:Nat):Int)<(N:Int)) by omega),t1,obs];obtain ⟨d3,u1,u2,u3⟩:=ih f (2*B) d2 (by omega) (by omega) (by omega) (by omega) (by omega) (by omega) (fun c hcd=>by
     by_cases e:c<a
     ·have:=n0k hcd r2 e;exact (r6 c hcd e).keep t2 (.inl (by omega))
     ·by_cases e':c=a
      ·subst e';exact t3.mono (q3c _) (by omega)
      ·have:=n0k r2 hcd (by omega)
       exact Srt.one _ _ (by omega))
    exact ⟨d3,u1,(r5.trans (t2.mono (by omega) (by omega))).trans u2,u3⟩
   ·simp only[q0n (show ¬(((a+B:Nat):Int)<(N:Int)) by omega)];obtain ⟨d3,u1,u2,u3⟩:=ih f (2*B) d1 (by omega) (by omega) (by omega) (by omega) (by omega) (by omega) (fun c hcd=>by
     by_cases e:c<a
     ·exact r6 c hcd e
     ·by_cases e':c=a
      ·subst e';have q1:=r7 c ba (q3c _);exact q1.mono (q3c _) (by omega)
      ·have:=n0k r2 hcd (by omega)
       exact Srt.one _ _ (by omega))
    exact ⟨d3,u1,r5.trans u2,u3⟩
  ·simp only[tfd,q0n (show ¬((B:Int)<(N:Int)) by omega)];have:=hs 0 (Nat.dvd_zero _);rw[Nat.min_eq_right (by omega)] at this;exact ⟨d,rfl,.refl _ _ _,this⟩
theorem r1y (n dd:Nat)(d:List a0c)(hL:d.length<=2^dd)(hL':d.length<=100000000000) :
  ∃d',g0j (n+dd+4) d cmp=some d'/\d'.Perm d/\Srt key d' 0 d.length:=by
 rw[q0o,j2y];obtain ⟨d1,a,r1,r2,r3,r4,r5,r6⟩:=p2a hc (n+dd+1) d.length (d.length:Int) rfl d.length a0b 0 d (by omega) (by unfold a0b;omega) (Nat.dvd_zero _) (by omega) rfl hL' (fun c _ h=>by omega);have l1:=r5.len;obtain ⟨d2,s1,s2,s3⟩:=ins_ok hc (n+dd+1) (a:Int) (d.length:Int) a d.length rfl rfl d1 r3 (by omega) (by omega);have l2:=s2.len;obtain ⟨d3,t1,t2,t3⟩:=o2z hc n dd d.length (d.length:Int) rfl hL d.length a0b 20 d2 (by omega) (by unfold a0b;omega) (by omega) (by omega) (by omega) (by omega) (fun c hcd=>by
  by_cases e:c<a
  ·have:=n0k hcd r2 e;exact (r6 c hcd e).keep s2 (.inl (by omega))
  ·by_cases e':c=a
   ·subst e';exact s3.mono (q3c _) (by omega)
   ·have:=n0k r2 hcd (by omega)
    exact Srt.one _ _ (by omega))
 have r1':r0h (n+dd+2) a0b (d,((d.length:Nat):Int),cmp,(20:Int),(0:Int),(20:Int),())=_:=r1;rw[r1'];simp only[obs,a0r,s1];have t1':n0p (n+dd+2) a0b (d2,((d.length:Nat):Int),cmp,(20:Int),())=_:=t1;rw[t1'];exact ⟨d3,by simp,(t2.perm.trans s2.perm).trans r5.perm,t3⟩
end
end Go.Proofs.YtagnkfbpgkckiaaGreatDoor
namespace Go.Plim
abbrev Slo:=Int×Cel
instance decSlo:DecidableEq Slo := @instDecidableEqProd _ _ _ decCel
def s0:Slo:=(0,z0)
structure FitsP (c:Cel)(w i:Int):Prop where
 n:CellN c
 w0:1<=w
 w1:w<=1099511627776
 f:c.2.1.1 / w=i
 l:c.2.2.1.1 / w=i
theorem FitsP.i0 {c:Cel}{w i:Int}(h:FitsP c w i):0<=i/\i<35184372088832:=by
 obtain ⟨n,w0,w1,f,l⟩:=h;have h1:=n.f.t0;have h2:=n.f.t1;have:0<=c.2.1.1 / w:=Int.ediv_nonneg h1 (by omega);have:c.2.1.1 / w<=c.2.1.1:=Int.ediv_le_self _ h1;omega
structure TierOk (l:List Slo)(w:Int):Prop where
 l0:1<=l.length
 l1:l.length<=4096
 w0:1<=w
 w1:w<=1099511627776
 s:∀(j:Nat) s,l[j]? = some s->s=s0\/(s.1 % (l.length:Int)=j/\FitsP s.2 w s.1)
noncomputable instance (c w i):Decidable (FitsP c w i):=Classical.propDecidable _
noncomputable instance (l w):Decidable (TierOk l w):=Classical.propDecidable _
def Up (l:List Slo):Prop:=l.Pairwise fun a b=>a.1<b.1
theorem up_perm:∀ {a b:List Slo},Up a->Up b->a.Perm b->a=b:=by
 intro a;induction a with
 | nil=>intro b _ _ h;exact h.nil_eq
 | cons x a ih =>
  intro b ha hb h;cases b with
  | nil=>exact absurd h.length_eq (by simp)
  | cons y b =>
   unfold Up at *
   rw[q4t] at ha hb;have hx:x∈y::b:=h.subset (by simp);have hy:y∈x::a:=h.symm.subset (by simp);have e:x=y:=by
    rcases q3k.1 hx with e | hx
    ·exact e
    ·rcases q3k.1 hy with e | hy
     ·exact e.symm
     ·have:=hb.1 x hx;have:=ha.1 y hy;omega
   subst e;rw[ih ha.2 hb.2 (List.Perm.cons_inv h)]
def u0k (l:List Slo):List Slo:=l.filter fun s=>decide (s≠s0)
theorem TierOk.apart {l:List Slo}{w:Int}(h:TierOk l w):(u0k l).Pairwise fun a b=>a.1≠b.1:=by
 have key:∀(m:List Slo) (k:Nat),(∀(j:Nat) s,m[j]? = some s->s=s0\/s.1 % (l.length:Int)=((k+j:Nat):Int))->(u0k m).Pairwise fun a b=>a.1≠b.1:=by
  intro m;induction m with
  | nil=>intro k _;exact .nil
  | cons x m ih =>
   intro k hm;have ih':=ih (k+1) (fun j s hs=>by
    have:=hm (j+1) s hs
    rwa [show k+(j+1)=k+1+j by omega] at this)
   unfold u0k at *
   by_cases hx:x=s0
   ·rw[List.filter_cons_of_neg (by simp[hx])];exact ih'
   ·rw[List.filter_cons_of_pos (by simp[hx])];refine q4t.2 ⟨fun y hy => ?_,ih'⟩;have hy':=q4m.1 hy;obtain ⟨j,hj⟩:=List.getElem?_of_mem hy'.1;have h1:=(hm 0 x rfl).resolve_left hx;have h2:=(hm (j+1) y hj).resolve_left (by simpa using hy'.2);intro e;rw[e,h2] at h1;omega
 exact key l 0 (fun j s hs=>by
  rcases h.s j s hs with e | e
  ·exact .inl e
  ·exact .inr (by rw[e.1,Nat.zero_add]))
def tall (l:List Slo):List Slo:=(u0k l).mergeSort fun a b=>decide (a.1<=b.1)
theorem a1u (l:List Slo):(tall l).Perm (u0k l):=List.mergeSort_perm _ _
theorem up_of {l:List Slo}(h:l.Pairwise fun a b=>a.1<=b.1)(h':l.Pairwise fun a b=>a.1≠b.1):Up l:=by
 have:=h.and h';exact this.imp (fun {a b} k=>by have:=k.1;have:=k.2;omega)
theorem r1n {l:List Slo}{w:Int}(h:TierOk l w):Up (tall l):=by
 refine up_of ?_ ((a1u l).pairwise_iff (fun {a b} k=>k.symm) |>.2 h.apart);have:=List.pairwise_mergeSort (le:=fun a b:Slo=>decide (a.1<=b.1)) (fun a b c h1 h2=>by simp at *;omega) (fun a b=>by simp;omega) (u0k l);exact this.imp (fun {a b} k=>by simpa using k)
theorem tall_eq {l r:List Slo}{w:Int}(h:TierOk l w)(hp:r.Perm (u0k l))(hs:r.Pairwise fun a b=>a.1<=b.1):r=tall l:=by
 refine up_perm (up_of hs (hp.pairwise_iff (fun {a b} k=>k.symm) |>.2 h.apart)) (r1n h) (hp.trans (a1u l).symm)
theorem x0h {l:List Slo}{s:Slo}:s∈tall l↔s∈l/\s≠s0:=by
 rw[(a1u l).mem_iff];simp[u0k]
theorem j0o {l:List Slo}{w:Int}(h:TierOk l w){s:Slo}(hs:s∈tall l):FitsP s.2 w s.1/\l[(s.1 % (l.length:Int)).toNat]? = some s:=by
 obtain ⟨h1,h2⟩:=x0h.1 hs;obtain ⟨j,hj⟩:=List.getElem?_of_mem h1;obtain ⟨h3,h4⟩:=(h.s j s hj).resolve_left h2;refine ⟨h4,?_⟩;rw[h3];exact hj
def within (l:List Slo)(i k:Int):List Cel:=((tall l).filter fun s=>decide (i<=s.1/\s.1<k)).map (·.2)
def k0i (l:List Slo)(i k:Int):Cel×Int:=if i<0\/k<i then (z0,1) else allE z0 (within l i k)
def tput (l:List Slo)(i:Int)(c:Cel):List Slo:=l.set (i % (l.length:Int)).toNat (i,c)
theorem q1y {l:List Slo}{w i:Int}{c:Cel}(h:TierOk l w)(hf:FitsP c w i):TierOk (tput l i c) w:=by
 obtain ⟨l0,l1,w0,w1,hs⟩:=h;refine ⟨by simpa [tput] using l0,by simpa [tput] using l1,w0,w1,fun j s hj => ?_⟩;unfold tput at hj;have hi:=hf.i0;have hm:0<=i % (l.length:Int):=Int.emod_nonneg _ (by omega);rw[List.getElem?_set] at hj;simp only[tput,List.length_set];by_cases e:(i % (l.length:Int)).toNat=j
 ·rw[q0z e] at hj;split at hj
  ·injection hj with hj;subst hj;exact .inr ⟨by simp only;omega,hf⟩
  ·cases hj
 ·rw[q0n e] at hj;exact hs j s hj
end Go.Plim
namespace Go.Proofs.YtagnkfbpgkckiaaGreatDoor
open Go.Flat Go.Plim
structure SloW (s:Slo):Prop where
 i:I64 s.1
 c:CelW s.2
theorem sloEq (a b:Slo):((decide (a.1=b.1))&&((decide (a.2.1=b.2.1))&&((decide (a.2.2.1.1=b.2.2.1.1))&&((decide (a.2.2.1.2.1=b.2.2.1.2.1))&&((decide (a.2.2.1.2.2.1=b.2.2.1.2.2.1))&&((a.2.2.1.2.2.2==b.2.2.1.2.2.2)&&((decide (a.2.2.2.1.1=b.2.2.2.1.1))&&((decide (a.2.2.2.1.2.1=b.2.2.2.1.2.1))&&((decide (a.2.2.2.1.2.2.1=b.2.2.2.1.2.2.1))&&((a.2.2.2.1.2.2.2==b.2.2.2.1.2.2.2)&&((decide (a.2.2.2.2.1.1=b.2.2.2.2.1.1))&&((decide (a.2.2.2.2.1.2=b.2.2.2.2.1.2))&&((decide (a.2.2.2.2.2.1=b.2.2.2.2.2.1))&&((decide (a.2.2.2.2.2.2.1=b.2.2.2.2.2.2.1))&&(decide (a.2.2.2.2.2.2.2=b.2.2.2.2.2.2.2))))))))))))))))=decide (a=b):=by
 rw[celEq a.2 b.2,Bool.eq_iff_iff];simp[Prod.ext_iff]
theorem p2g (a:Slo):((decide (a.1=(0:Int)))&&((decide (a.2.1=(0:Int)))&&((decide (a.2.2.1.1=(0:Int)))&&((decide (a.2.2.1.2.1=(0:Int)))&&((decide (a.2.2.1.2.2.1=(0:Int)))&&((a.2.2.1.2.2.2==false)&&((decide (a.2.2.2.1.1=(0:Int)))&&((decide (a.2.2.2.1.2.1=(0:Int)))&&((decide (a.2.2.2.1.2.2.1=(0:Int)))&&((a.2.2.2.1.2.2.2==false)&&((decide (a.2.2.2.2.1.1=(0:Int)))&&((decide (a.2.2.2.2.1.2=(0:Int)))&&((decide (a.2.2.2.2.2.1=(0:Int)))&&((decide (a.2.2.2.2.2.2.1=(0:Int)))&&(decide (a.2.2.2.2.2.2.2=(0:Int)))))))))))))))))=decide (a=s0):=sloEq a s0
theorem wi_in (n:Nat)(x a b:Int):s0l (n+1) x a b=some (decide (a<=x/\x<=b)):=by
 rw[m1i];by_cases h1:a<=x<;>by_cases h2:x<=b<;>simp[h1,h2]
def OfP (t w:Int):Prop:=0<=t/\t<35184372088832/\1<=w/\w<=1099511627776
instance (t w:Int):Decidable (OfP t w):=by unfold OfP;infer_instance
theorem x1v {t w:Int}(h:OfP t w):0<=t / w/\t / w<35184372088832:=by
 obtain ⟨h1,h2,h3,h4⟩:=h;have:0<=t / w:=Int.ediv_nonneg h1 (by omega);have:t / w<=t:=Int.ediv_le_self _ h1;omega
theorem wi_of (n:Nat)(t w:Int):j2a (n+3) t w=some (if OfP t w then (t / w,0) else (0,1)):=by
 rw[wi_Of_eq,i1y,wi_in,wi_in];simp only[obs,tfn,tfd];by_cases h:OfP t w
 ·have hq:=x1v h;rw[q0z h];obtain ⟨h1,h2,h3,h4⟩:=h;rw[q0z (show (0:Int)<=t/\t<=35184372088831 by omega),q0z (And.intro h3 h4),q0n (show ¬(w=0) by omega),s0o h1,w64 (by omega) (by omega)]
 ·rw[q0n h];by_cases h1:(0:Int)<=t/\t<=35184372088831
  ·rw[q0z h1,q0n (fun k=>h ⟨h1.1,by omega,k.1,k.2⟩)]
  ·rw[q0n h1]
def o1p (i n:Int):Int:=if i<0 then 0 else if n<1 then 0 else i % n
theorem n2x (n:Nat)(i m:Int):q1r (n+1) i m=some (o1p i m):=by
 rw[i2z];simp only[tfd];unfold o1p;by_cases h1:i<0
 ·rw[q0z h1,q0z h1]
 by_cases h2:m<1
 ·rw[q0n h1,q0n h1,q0z h2,q0z h2]
 rw[q0n h1,q0n h1,q0n h2,q0n h2,q0n (by omega),q0j (by omega)]
theorem d1r {i n:Int}(hi:0<=i)(hn:1<=n):o1p i n=i % n:=by
 unfold o1p;rw[q0n (by omega),q0n (by omega)]
theorem s2x (c:Cel)(w i:Int):FitsP c w i↔c≠z0/\c0d c/\OfP c.2.1.1 w/\c.2.1.1 / w=i/\OfP c.2.2.1.1 w/\c.2.2.1.1 / w=i:=by
 constructor
 ·rintro ⟨n,w0,w1,f,l⟩;exact ⟨n.ne,n.ok,⟨n.f.t0,n.f.t1,w0,w1⟩,f,⟨n.l.t0,n.l.t1,w0,w1⟩,l⟩
 ·rintro ⟨h1,h2,h3,h4,h5,h6⟩;exact ⟨h2.n h1,h3.2.2.1,h3.2.2.2,h4,h6⟩
theorem of01 (p:Prop)[Decidable p](x:Int):((if p then (x,(0:Int)) else (0,1)).2=0)↔p:=by by_cases h:p<;>simp[h]
theorem s2u (n f:Nat)(w i:Int)(s:Int×Int):g0q n (f+1) (w,i,s,(2:Int),())=some (.inl ()):=by
 rw[o0d,show (decide ((2:Int)<2))=false from rfl,tff]
theorem s2v (n f:Nat)(w i:Int)(s:Int×Int):g0q (n+3) (f+2) (w,i,s,(1:Int),())=some (if OfP s.2 w/\s.2 / w=i then .inl () else .inr false):=by
 rw[o0d,show (decide ((1:Int)<2))=true from rfl,tft,show (decide ((1:Int)=0))=false from rfl,tff,show (decide ((1:Int)=1))=true from rfl,tft,wi_of];simp only[tfd,tfn,obs,of01];rw[show wrap .i64 ((1:Int)+1)=2 from rfl,s2u];by_cases h3:OfP s.2 w
 ·rw[q0z h3,q0z h3];by_cases h4:s.2 / w=i
  ·rw[q0z h4,q0z (And.intro h3 h4)]
  ·rw[q0n h4,q0n (fun k=>h4 k.2)]
 ·rw[q0n h3,q0n (fun k=>h3 k.1)]
theorem s2w (n f:Nat)(w i:Int)(s:Int×Int):g0q (n+3) (f+3) (w,i,s,(0:Int),())=some (if (OfP s.1 w/\s.1 / w=i)/\(OfP s.2 w/\s.2 / w=i) then .inl () else .inr false):=by
 rw[o0d,show (decide ((0:Int)<2))=true from rfl,tft,show (decide ((0:Int)=0))=true from rfl,tft,wi_of];simp only[tfd,tfn,obs,of01];rw[show wrap .i64 ((0:Int)+1)=1 from rfl,s2v];by_cases h3:OfP s.1 w
 ·rw[q0z h3,q0z h3];by_cases h4:s.1 / w=i
  ·rw[q0z h4];by_cases h5:OfP s.2 w/\s.2 / w=i
   ·rw[q0z h5,q0z (And.intro (And.intro h3 h4) h5)]
   ·rw[q0n h5,q0n (fun k=>h5 k.2)]
  ·rw[q0n h4,q0n (fun k=>h4 k.1.2)]
 ·rw[q0n h3,q0n (fun k=>h3 k.1.1)]
theorem a1r (n:Nat){c:Cel}(hc:CelW c)(w i:Int):o0e (n+6) c w i=some (decide (FitsP c w i)):=by
 rw[w1r,f1h n hc];simp only[tfd,obs,tfn,z02];have e:a0b=(2^70-3)+3:=by decide
 rw[e,s2w];have hiff:=s2x c w i;by_cases h1:c.1=0
 ·rw[q0z h1,q1z];intro k;have:=k.n.n1;omega
 rw[q0n h1];by_cases h2:c0d c
 case neg=>rw[q0n h2,q1z (fun k=>h2 (hiff.1 k).2.1)]
 rw[q0z h2];by_cases h3:(OfP c.2.1.1 w/\c.2.1.1 / w=i)/\(OfP c.2.2.1.1 w/\c.2.2.1.1 / w=i)
 ·rw[q0z h3,q2g (hiff.2 ⟨mt h2.count.1.2 h1,h2,h3.1.1,h3.1.2,h3.2.1,h3.2.2⟩)];rfl
 ·rw[q0n h3,q1z (fun k=>h3 (by have:=hiff.1 k;exact ⟨⟨this.2.2.1,this.2.2.2.1⟩,this.2.2.2.2⟩))];rfl
theorem a1q (n:Nat)(s:Slo):v0a (n+1) s=some (decide (s=s0)):=by rw[w1o,p2g]
def a2u (m w:Int)(j:Int)(s:Slo):Prop:=s=s0\/(o1p s.1 m=j/\FitsP s.2 w s.1)
theorem w1p (n:Nat)(l:List Slo)(w:Int)(hL:l.length<=4096)(hw:∀s∈l,SloW s):∀(rest pre:List Slo) (f:Nat) (i len:Int),l=pre++rest->i=pre.length->len=l.length->rest.length<f ->
  ((∀(j:Nat) s,rest[j]? = some s->a2u l.length w (i+j) s)->h0f (n+6) f (l,w,l,len,i,())=some (.inl ())) /\
  (¬(∀(j:Nat) s,rest[j]? = some s->a2u l.length w (i+j) s)->h0f (n+6) f (l,w,l,len,i,())=some (.inr 2)):=by
 intro rest;induction rest with
 | nil =>
  intro pre f i len hl hi hn hf;obtain ⟨f,rfl⟩:=FSu hf;rw[u0i];refine ⟨fun _=>by simp only[tfd,q0n (idxe hl hi hn)],fun h=>absurd ?_ h⟩;intro j s hs;simp at hs
 | cons x rest ih =>
  intro pre f i len hl hi hn hf;obtain ⟨f,rfl⟩:=FSu hf;rw[u0i];have hx:SloW x:=hw x (by rw[hl];simp);have ih':=ih (pre++[x]) f (i+1) len (idxl hl) (idxs hi) hn (by simp at hf;omega);simp only[tfd,tfn,q0z (idx hl hi hn),c0c hl hi,obs,a1q,n2x,a1r n hx.c,idxw hl hi (by omega)];have split:(∀(j:Nat) s,(x::rest)[j]? = some s->a2u l.length w (i+j) s)↔a2u l.length w i x/\(∀(j:Nat) s,rest[j]? = some s->a2u l.length w (i+1+j) s):=by
   constructor
   ·intro h;refine ⟨by simpa using h 0 x rfl,fun j s hs => ?_⟩;have:=h (j+1) s hs
    rwa [show i+((j+1:Nat):Int)=i+1+j by omega] at this
   ·rintro ⟨h1,h2⟩ j s hs;cases j with
    | zero=>simp at hs;subst hs;simpa using h1
    | succ j =>
     have:=h2 j s hs
     rwa [show i+((j+1:Nat):Int)=i+1+j by omega]
  rw[split];by_cases h0:x=s0
  ·rw[q0z h0];have hp:a2u l.length w i x := .inl h0;exact ⟨fun h=>ih'.1 h.2,fun h=>ih'.2 (fun k=>h ⟨hp,k⟩)⟩
  ·rw[q0n h0];by_cases h1:o1p x.1 l.length=i
   ·rw[q0z h1];by_cases h2:FitsP x.2 w x.1
    ·rw[q0z h2];have hp:a2u l.length w i x := .inr ⟨h1,h2⟩;exact ⟨fun h=>ih'.1 h.2,fun h=>ih'.2 (fun k=>h ⟨hp,k⟩)⟩
    ·rw[q0n h2];exact ⟨fun h=>absurd (h.1.resolve_left h0).2 h2,fun _=>rfl⟩
   ·rw[q0n h1];exact ⟨fun h=>absurd (h.1.resolve_left h0).1 h1,fun _=>rfl⟩
theorem p2f {l:List Slo}{w:Int}(h0:1<=l.length):(∀(j:Nat) s,l[j]? = some s->a2u l.length w (0+j) s)↔(∀(j:Nat) s,l[j]? = some s->s=s0\/(s.1 % (l.length:Int)=j/\FitsP s.2 w s.1)):=by
 constructor
 ·intro h j s hs;rcases h j s hs with e | ⟨e,f⟩
  ·exact .inl e
  ·rw[d1r f.i0.1 (by omega)] at e;exact .inr ⟨by omega,f⟩
 ·intro h j s hs;rcases h j s hs with e | ⟨e,f⟩
  ·exact .inl e
  ·exact .inr ⟨by rw[d1r f.i0.1 (by omega)];omega,f⟩
theorem w0q (n:Nat)(l:List Slo)(w:Int)(hw:∀s∈l,SloW s):n0o (n+7) l w=some (if TierOk l w then 0 else 2):=by
 rw[r1g];simp only[tfd];by_cases h1:(l.length:Int)=0
 ·rw[q0z h1,q0n (fun k=>by have:=k.l0;omega)]
 by_cases h2:(4096:Int)<l.length
 ·rw[q0n h1,q0z h2,q0n (fun k=>by have:=k.l1;omega)]
 by_cases h3:w<1
 ·rw[q0n h1,q0n h2,q0z h3,q0n (fun k=>by have:=k.w0;omega)]
 by_cases h4:(1099511627776:Int)<w
 ·rw[q0n h1,q0n h2,q0n h3,q0z h4,q0n (fun k=>by have:=k.w1;omega)]
 rw[q0n h1,q0n h2,q0n h3,q0n h4];have hl:=w1p n l w (by omega) hw l [] a0b 0 l.length rfl rfl rfl (by unfold a0b;omega);rw[p2f (by omega)] at hl;by_cases h5:∀(j:Nat) s,l[j]? = some s->s=s0\/(s.1 % (l.length:Int)=j/\FitsP s.2 w s.1)
 ·rw[hl.1 h5,q0z ⟨by omega,by omega,by omega,by omega,h5⟩];rfl
 ·rw[hl.2 h5,q0n (fun k=>h5 k.s)];rfl
def qb (c:UInt8):List UInt8:=if c.toNat=10 then [92,110] else if c.toNat=34 then [92,c] else if c.toNat=92 then [92,c] else [c]
theorem wst (n:Nat)(b s:List UInt8)(hl:b.length+s.length<=100000000000000):a0o (n+1) b s=some ((s.length:Int),false,b++s):=by
 rw[l0u,g0x,tfd,q0z (by omega)]
theorem lfu {k:Nat}(h:k<=1000000000000):a0b=(a0b-k-1)+k+1:=by unfold a0b;omega
theorem v1i:∀(l:List Lab) (p:Option (List UInt8)),chkL p l->∀x∈l,x.1.length<=64/\x.2.length<=128
 | [],_,_,x,hx=>by cases hx
 | y::l,p,h,x,hx=>by
  rcases q3k.1 hx with rfl | hx
  ·exact ⟨h.1.len,h.2.1⟩
  ·exact v1i l _ h.2.2.2 x hx
def padB (s:List UInt8)(k:Nat):List UInt8:=s++List.replicate (k-s.length) 0
theorem p0w (s:List UInt8)(k:Nat):(padB s k).length=max s.length k:=by unfold padB;simp;omega
def n8I (x:Int):List Int:=beI 8 (wrap .u64 x)
def n8B (x:Int):List UInt8:=toB (n8I x)
theorem z0o (x:Int):(n8I x).length=8:=by simp[n8I,c0o]
theorem z0p (x:Int):(n8B x).length=8:=by simp[n8B,h0e,z0o]
theorem r1e (a b:List Int):toB (a++b)=toB a++toB b:=by simp[toB]
theorem r2a (x:Int):n8I (wrap .i64 x)=n8I x:=by
 unfold n8I;congr 1;rw[IntKind.wrap_u64,IntKind.wrap_u64,IntKind.wrap_i64];omega
def y0j (e:Ev):List Int:=n8I e.1++(n8I e.2.1++(n8I e.2.2.1++[if e.2.2.2=true then 1 else 0]))
def v0h (e:Ev):List UInt8:=toB (y0j e)
theorem r0k (e:Ev):(y0j e).length=25:=by simp[y0j,z0o]
theorem k2b (e:Ev):(v0h e).length=25:=by simp[v0h,h0e,r0k]
def i0t (e:Ev):List UInt8:=padB (v0h e) 32
theorem s0a (e:Ev):(i0t e).length=32:=by rw[i0t,p0w,k2b];rfl
def sloI (s:Slo):List Int:=n8I s.1++(n8I s.2.1++(y0j s.2.2.1++(y0j s.2.2.2.1++(n8I s.2.2.2.2.1.1++(n8I s.2.2.2.2.1.2++(n8I s.2.2.2.2.2.1++(n8I s.2.2.2.2.2.2.1++n8I s.2.2.2.2.2.2.2)))))))
theorem g2h (s:Slo):(sloI s).length=106:=by simp[sloI,z0o,r0k]
def c0p (s:Slo):List UInt8:=padB (toB (sloI s)) 128
theorem g0e (s:Slo):(c0p s).length=128:=by rw[c0p,p0w,h0e,g2h];rfl
theorem num_l (n:Nat)(l:List Int)(hl:l.length<=1000):∀(rest pre:List Int) (f:Nat) (w:List Int) (i:Int),l=pre++rest->i=pre.length->w.length+8*rest.length<=100000 ->
  q0b (n+1) (f+rest.length+1) (w,l,(l.length:Int),i,())=some (.inl (w++rest.flatMap n8I,())):=by
 intro rest;induction rest with
 | nil =>
  intro pre f w i h hi hw;rw[v0z];simp only[tfd,q0n (idxe h hi rfl)];simp
 | cons a rest ih =>
  intro pre f w i h hi hw;have hlen:=congrArg List.length h;simp at hlen hw;rw[show f+(a::rest).length+1=(f+rest.length+1)+1 by simp;omega,v0z];simp only[tfd,q0z (idx h hi rfl)];rw[c0c h hi,obs,c0e n w 8 8 _ rfl (by omega) (by omega) (by omega),obs,w64 (x:=i+1) (by omega) (by omega),ih (pre++[a]) f _ (i+1) (idxl h) (idxs hi) (by simp[c0o];omega)];simp[n8I]
theorem b1z (n:Nat)(w l:List Int)(hl:l.length<=1000)(hw:w.length+8*l.length<=100000):o0z (n+2) w l=some (w++l.flatMap n8I):=by
 rw[z1j];have:=num_l n l hl l [] (a0b-l.length-1) w 0 rfl rfl hw;rw[<-lfu (by omega)] at this;rw[this,obs,a0r]
theorem j1w (n:Nat)(w:List Int)(e:Ev)(hw:w.length<=10000):o0x (n+3) w e=some (w++y0j e):=by
 rw[n1k,b1z n w _ (by simp) (by simp;omega),obs];have hl:(w++List.flatMap n8I [e.1,wrap .i64 e.2.1,e.2.2.1]).length<=20000:=by simp[z0o];omega
 have e1:List.flatMap n8I [e.1,wrap .i64 e.2.1,e.2.2.1]=n8I e.1++(n8I e.2.1++n8I e.2.2.1):=by
  simp[r2a]
 rw[e1] at hl ⊢;unfold y0j;cases h:e.2.2.2 with
 | true=>rw[tft,c0e (n+1) _ 1 1 1 rfl (by omega) (by omega) (by omega),obs,q0z rfl,show beI 1 1=[1] from rfl];simp
 | false=>rw[tff,c0e (n+1) _ 1 1 0 rfl (by omega) (by omega) (by omega),obs,q0n (by decide),show beI 1 0=[0] from rfl];simp
theorem rps_loop (n:Nat)(r:(List UInt8))(m:Nat)(hm:m<=16777216):∀(f k:Nat),1<=k->k<=m->m-k<=f ->
  f0u n (f+1) (List.replicate k r++List.replicate (m-k) [],(k:Int),())=some (.inl (List.replicate m r,())):=by
 intro f;induction f with
 | zero =>
  intro k h1 h2 h3;obtain rfl:k=m:=by omega
  rw[k0j];simp[tfd]
 | succ f ih =>
  intro k h1 h2 h3;rw[k0j];have hlen:(List.replicate k r++List.replicate (m-k) ([]:(List UInt8))).length=m:=by simp;omega
  rw[hlen];by_cases hk:k=m
  ·subst hk;simp[tfd]
  ·have c1:((k:Int)<(m:Int)):=by omega
   have c2:((0:Int)<=(k:Int)):=by omega
   have c3:(Int.toNat (k:Int)<=m):=by simp;omega
   have c4:(decide ((0:Int)<=(k:Int))&&decide ((k:Int)<=(m:Int)))=true:=by simp;omega
   have c5:(Int.toNat (k:Int)+(m-Int.toNat (k:Int))<=m):=by simp;omega
   rw[c4];simp only[u0y,q3a,q0z c1,q0z c2,q0z c3,q0z c5,if_true];have e1:List.take (Int.toNat (k:Int)-0) (List.drop 0 (List.replicate k r++List.replicate (m-k) ([]:(List UInt8))))=List.replicate k r:=by simp
   rw[e1];have e2:List.take (m-Int.toNat (k:Int)) (List.replicate k r)=List.replicate (min (m-k) k) r:=by simp
   rw[e2];have e3:(k:Int)+((List.replicate (min (m-k) k) r).length:Int)=((k+min (m-k) k:Nat):Int):=by simp
   rw[e3,w64 (by omega) (by omega)];have e4:Go.Flat.putRow (List.replicate k r++List.replicate (m-k) ([]:(List UInt8))) (Int.toNat (k:Int)) (List.replicate (min (m-k) k) r)=List.replicate (k+min (m-k) k) r++List.replicate (m-(k+min (m-k) k)) []:=by
    unfold Go.Flat.putRow;rw[show Int.toNat (k:Int)=k by simp,List.take_left' (by simp),List.drop_append,List.drop_of_length_le (by simp),List.replicate_append_replicate];simp;omega
   rw[e4];exact ih (k+min (m-k) k) (by omega) (by omega) (by omega)
theorem c2w (n:Nat)(r:(List UInt8))(m:Nat)(h1:1<=m)(h2:m<=16777216):m0k (n+3) [r] (m:Int)=some (List.replicate m r):=by
 rw[z0i];have c1:¬((m:Int)<0):=by omega
 have e1:((List.length [r]:Nat):Int)=1:=rfl;rw[e1,wu64 (x:=1) (by omega) (by omega),wu64 (x:=(m:Int)) (by omega) (by omega),u0o,mul64 n 1 (m:Int) (by omega) (by omega)];have e2:(1:Int)*(m:Int) / 18446744073709551616=0:=by omega
 have e3:(1:Int)*(m:Int) % 18446744073709551616=(m:Int):=by omega
 rw[e2,e3,obs,obs];have c2:¬((9223372036854775807:Int)<(m:Int)):=by omega
 have e4:wrap .i64 (m:Int)=(m:Int):=w64 (by omega) (by omega);rw[e4];have c3:(decide ((0:Int)<=(m:Int))&&(decide ((m:Int)<=(m:Int))&&decide ((m:Int)*16<=(140737488355328:Int))))=true:=by simp;omega
 rw[c3];simp only[u0y,q3a,q0n c1,q0n c2,if_true,Int.lt_irrefl,if_false,q3g,q3z];have e5:List.take m [r]=[r]:=by
  cases m with
  | zero=>omega
  | succ m=>simp
 have e6:Go.Flat.putRow (List.replicate m ([]:(List UInt8))) 0 [r]=List.replicate 1 r++List.replicate (m-1) []:=by simp[Go.Flat.putRow]
 rw[e5,e6];have:=rps_loop (n+2) r m h2 (a0b-1) 1 (q3c _) h1 (by unfold a0b;omega);rw[show a0b-1+1=a0b by unfold a0b;omega] at this;have e7:((List.length [r]:Nat):Int)=((1:Nat):Int):=rfl;rw[e7,this,obs,a0r]
theorem rpb_loop (n m:Nat)(hm:m<=100000):∀(f k:Nat),1<=k->k<=m->m-k<=f ->
  d0k (n+1) (f+1) ((m:Int),(m:Int),List.replicate k (0:UInt8),())=some (.inl (List.replicate m 0,())):=by
 intro f;induction f with
 | zero =>
  intro k h1 h2 h3;obtain rfl:k=m:=by omega
  rw[l0t,e0d,obs];dsimp only;rw[q3z,tfd,q0n (by omega)]
 | succ f ih =>
  intro k h1 h2 h3;rw[l0t,e0d,obs];dsimp only;rw[q3z,tfd];by_cases hk:k=m
  ·subst hk;rw[q0n (by omega)]
  ·rw[q0z (by omega),e0d,obs];dsimp only;rw[e0d,obs];dsimp only;rw[c0j,obs];dsimp only;rw[q3z,w64 (by omega) (by omega)];have e:(if (m:Int)<(if (k:Int)<(m:Int)-(k:Int) then (k:Int) else (m:Int)-(k:Int)) then (m:Int) else (if (k:Int)<(m:Int)-(k:Int) then (k:Int) else (m:Int)-(k:Int)))=((min k (m-k):Nat):Int):=by
    split<;>split<;>omega
   rw[e,q3g];have c1:(decide ((0:Int)<=((min k (m-k):Nat):Int))&&decide (((min k (m-k):Nat):Int)<=((k:Nat):Int)))=true:=by
    rw[q1n,q3a,q3a];omega
   have e2:List.drop 0 (List.take (min k (m-k)) (List.replicate k (0:UInt8)))=List.replicate (min k (m-k)) 0:=by
    rw[List.drop_zero,List.take_replicate];congr 1;omega
   rw[c1,tft,e2,wst n _ _ (by simp;omega),obs];dsimp only;rw[List.replicate_append_replicate];exact ih (k+min k (m-k)) (by omega) (by omega) (by omega)
theorem rep_val (n c:Nat)(hc:c<=8192):strings_Repeat (n+4) [0] (c:Int)=some (List.replicate c 0):=by
 rw[q0m,tfd];by_cases h0:(c:Int)=0
 ·obtain rfl:c=0:=by omega
  rw[q0z h0];rfl
 rw[q0n h0,tfd];by_cases h1:(c:Int)=1
 ·obtain rfl:c=1:=by omega
  rw[q0z h1];rfl
 rw[q0n h1,tfd,q0n (by omega),wu64 (x:=(c:Int)) (by omega) (by omega),u0o,mul64 (n+1) 1 (c:Int) (by omega) (by omega)];have e2:(1:Int)*(c:Int) / 18446744073709551616=0:=by omega
 have e3:(1:Int)*(c:Int) % 18446744073709551616=(c:Int):=by omega
 rw[e2,e3,obs,obs];dsimp only;rw[tfd,q0n (by omega),tfd,q0n (by omega),w64 (x:=(c:Int)) (by omega) (by omega)];have hg:b0y (n+3) [] (c:Int)=some []:=by
  rw[j0p,z1l];rw[show (decide (([]:List UInt8).length=0)&&(decide ((0:Int)<=(c:Int))&&decide ((c:Int)<=70368744177664)))=true by
   rw[q1n,q1n,q3a,q3a,q3a]
   exact ⟨rfl,by omega,by omega⟩,tft]
 rw[tfd,q0n (by omega),hg,obs,wst (n+2) [] _ (by simp),obs];dsimp only;have:=rpb_loop (n+2) c (by omega) (a0b-1) 1 (q3c _) (by omega) (by unfold a0b;omega);rw[show a0b-1+1=a0b by unfold a0b;omega] at this
 change a0a (d0k (n+3) a0b ((c:Int),(c:Int),List.replicate 1 (0:UInt8),())) _=_
 rw[this,obs,a0r];dsimp only;rw[c0j,obs]
end Go.Proofs.YtagnkfbpgkckiaaGreatDoor
